-- Written by a program of this session (wip/xp): not trusted, Lean checks it.
import Derived.Test.YtbdehpmfemgooaaPFnQueuesx0
import Derived.Test.YtbdehpmfemgooaaPFnQueuesx4
import Derived.Test.YtbdehpmfemgooaaPFnQueuesx10
import Derived.Test.YtbdehpmfemgooaaPFnQueuesx11
import Derived.Test.YtbdehpmfemgooaaPFnQueuesx12
namespace Go.Proofs.Ytbdehpmfemgooaa.PFnQueues
open Go.RowKit Go.Proofs.YtbdehpmfemgooaaW.PrintWords Go.Proofs.YtbdehpmfemgooaaW.PrintLast Go.Proofs.YtbdehpmfemgooaaW.PrintMore
attribute [local go_sem] max2_int min2_int max_two min_two max_three min_three max_four min_four   -- for this text's walks alone
set_option linter.unusedVariables false
set_option linter.unusedSimpArgs false

/-! ### impl_copyQueue: function 60 -/
def impl_copyQueue.f (k : Nat) (l0_0 : List (S60)) (l0_1 : List Int) (l0_2 : List Int) (l0_3 : List (S60)) : Option ((List (S60)) × List Int × List Int × (List (S60))) := (impl_copyPackets.f k l0_0).bind fun t443 => ((impl_copyCredits.f l0_1 l0_2).bind fun bt446 => ((impl_copyPackets.f k l0_3).bind fun t452 => (some (t443, bt446.1, bt446.2, t452))))
def impl_copyQueue.T1 : Bool × List (List Nat × List Nat) := (true, [([], []), ([0], [0]), ([1], [1]), ([], []), ([3], [3]), ([4, 2], [4]), ([], []), ([6], [6]), ([7, 5], [7]), ([2, 5, 8], [2, 5, 8]), ([9, 8, 0, 1, 2, 3, 4, 5, 6, 7, 8, 9], [9])])
def impl_copyQueue.B1 : List Nat := [0, 1, 3, 0, 8, 31, 0, 64, 255, 511, 1023]
theorem impl_copyQueue.tab1 : rtab .any (opsOf Try.f60 1) = impl_copyQueue.T1 := by kernel_rfl
theorem impl_copyQueue.bits1 : waitsOk impl_copyQueue.T1.2 impl_copyQueue.B1 = true := by kernel_rfl
set_option maxHeartbeats 8000000 in
set_option maxRecDepth 100000 in
theorem impl_copyQueue.calls (k : Nat) (A0_0 : Option Addr) (c0_0 : Nat) (l0_0 : List (S60)) (A0_1 : Option Addr) (c0_1 : Nat) (l0_1 : List Int) (A0_2 : Option Addr) (c0_2 : Nat) (l0_2 : List Int) (A0_3 : Option Addr) (c0_3 : Nat) (l0_3 : List (S60)) (r1 : List (S60)) (r2 : List Int) (r3 : List Int) (r4 : List (S60)) (w : World) (hr0_0 : Kd.C k60 w A0_0 l0_0.length l0_0) (hc0_0 : l0_0.length ≤ c0_0) (hr0_1 : Kd.C (Kd.int .i64) w A0_1 l0_1.length l0_1) (hc0_1 : l0_1.length ≤ c0_1) (hr0_2 : Kd.C (Kd.int .i64) w A0_2 l0_2.length l0_2) (hc0_2 : l0_2.length ≤ c0_2) (hr0_3 : Kd.C k60 w A0_3 l0_3.length l0_3) (hc0_3 : l0_3.length ≤ c0_3) (h : impl_copyQueue.f k l0_0 l0_1 l0_2 l0_3 = some (r1, r2, r3, r4)) :
  Calls Try.prog 60 #[.agg #[.slice A0_0 l0_0.length c0_0, .slice A0_1 l0_1.length c0_1, .slice A0_2 l0_2.length c0_2, .slice A0_3 l0_3.length c0_3]] w fun e w' => ∃ v0_ v1_ v2_ v3_ : Value, e = .returned (.agg #[v0_, v1_, v2_, v3_]) ∧ Kd.S k60 60 w' w.heap.size (fun k_ => some k_ ≠ (v1_ : Value).ownBlock ∧ some k_ ≠ (v2_ : Value).ownBlock ∧ some k_ ≠ (v3_ : Value).ownBlock) v0_ r1 ∧ Kd.R (Kd.int .i64) 3 w' w.heap.size (fun k_ => some k_ ≠ (v2_ : Value).ownBlock) v1_ r2 ∧ Kd.R (Kd.int .i64) 3 w' w.heap.size (fun k_ => some k_ ≠ (v1_ : Value).ownBlock) v2_ r3 ∧ Kd.S k60 60 w' w.heap.size (fun k_ => some k_ ≠ (v0_ : Value).ownBlock ∧ some k_ ≠ (v1_ : Value).ownBlock ∧ some k_ ≠ (v2_ : Value).ownBlock) v3_ r4 ∧ Below w.heap.size w w' := by
 have hu53 := Try.underlying53
 have hu26 := Try.underlying26
 have HR0_0 := A_.mk hr0_0
 have HC0_0 := A_.mk hc0_0
 clear hr0_0 hc0_0
 have HR0_1 := A_.mk hr0_1
 have HC0_1 := A_.mk hc0_1
 clear hr0_1 hc0_1
 have HR0_2 := A_.mk hr0_2
 have HC0_2 := A_.mk hc0_2
 clear hr0_2 hc0_2
 have HR0_3 := A_.mk hr0_3
 have HC0_3 := A_.mk hc0_3
 clear hr0_3 hc0_3
 have HB := A_.mk (Below.refl w.heap.size w)
 have H : ((impl_copyPackets.f k l0_0).bind fun t443 => ((impl_copyCredits.f l0_1 l0_2).bind fun bt446 => ((impl_copyPackets.f k l0_3).bind fun t452 => (some (t443, bt446.1, bt446.2, t452))))) = some (r1, r2, r3, r4) := h
 clear h
 replace H := ob_ H
 obtain ⟨t443, A20, H⟩ := H
 have A2 := A_.mk A20
 clear A20
 replace H := ob_ H
 obtain ⟨⟨t446, t449⟩, A30, H⟩ := H
 replace H : ((impl_copyPackets.f k l0_3).bind fun t452 => (some (t443, t446, t449, t452))) = some (r1, r2, r3, r4) := H
 have A3 := A_.mk A30
 clear A30
 replace H := ob_ H
 obtain ⟨t452, A40, H⟩ := H
 have A4 := A_.mk A40
 clear A40
 simp only [Option.some.injEq, Prod.mk.injEq] at H
 obtain ⟨rfl, rfl, rfl, rfl⟩ := H
 go_enter Try.func60, Try.ntmps60
 try go_wp2_with (first | ((with_reducible refine gd_ (N := 1) rfl ?_); refine by_ 1 (cs := #[.slice A0_0 l0_0.length c0_0, .slice A0_1 l0_1.length c0_1, .slice A0_2 l0_2.length c0_2, .slice A0_3 l0_3.length c0_3]) (t := 53) ?_; intro gb441 hg w5 hbox hb; have n0_ := A_.mk (bt_ (beY HB.out) hb); have n1_ := A_.mk (hbox); have n2_ := A_.mk ((by rw [hg]; exact (bz_ (beY HB.out)) : w.heap.size ≤ gb441)); have n3_ := A_.mk ((by rw [hg]; exact (bz_ (beY HB.out)) : w.heap.size ≤ gb441)); clear HB; have HB := n0_; have BK441 := n1_; have GW441 := n2_; have GE441 := n3_; clear n0_ n1_ n2_ n3_ hb hbox hg) | ((with_reducible refine gd_ (N := 2) rfl ?_); refine by_ 2 (cs := #[.slice none 0 0, .slice none 0 0, .slice none 0 0, .slice none 0 0]) (t := 53) ?_; intro gb442 hg w6 hbox hb; have n0_ := A_.mk (bb_ (bY BK441.out) hb); have n1_ := A_.mk (bt_ (by repeat (first | (with_reducible first | exact HB.out | apply ba_ | apply bd_ | apply be_ | refine bs_ ?_ GE441.out) | exact HB.out)) hb); have n2_ := A_.mk (hbox); have n3_ := A_.mk ((by rw [hg]; exact (bz_ (by repeat (first | (with_reducible first | exact HB.out | apply ba_ | apply bd_ | apply be_ | refine bs_ ?_ GE441.out) | exact HB.out))) : w.heap.size ≤ gb442)); have n4_ := A_.mk ((by rw [hg]; exact (bz_ (by repeat (first | (with_reducible first | exact HB.out | apply ba_ | apply bd_ | apply be_ | refine bs_ ?_ GE441.out) | exact HB.out))) : w.heap.size ≤ gb442)); have n5_ := A_.mk ((by rw [hg]; exact Nat.ne_of_lt (blk_lt (bY BK441.out)) : gb441 ≠ gb442)); have n6_ := A_.mk ((by rw [hg]; exact Nat.ne_of_gt (blk_lt (bY BK441.out)) : gb442 ≠ gb441)); clear BK441 HB; have BK441 := n0_; have HB := n1_; have BK442 := n2_; have GW442 := n3_; have GE442 := n4_; have NB441_442 := n5_; have NB442_441 := n6_; clear n0_ n1_ n2_ n3_ n4_ n5_ n6_ hb hbox hg))
 have n0_ := A_.mk (bw_ BK441.out)
 have n1_ := A_.mk (bw_ BK442.out)
 have n2_ := A_.mk (be_ HB.out)
 clear BK441 BK442 HB
 have BK441 := n0_
 have BK442 := n1_
 have HB := n2_
 clear n0_ n1_ n2_
 refine start_ (n := 11) (S := fun w' => w'.cell? ⟨gb441, 0, none⟩ = some (.slice A0_0 l0_0.length c0_0) ∧ w'.cell? ⟨gb441, 1, none⟩ = some (.slice A0_1 l0_1.length c0_1) ∧ w'.cell? ⟨gb441, 2, none⟩ = some (.slice A0_2 l0_2.length c0_2) ∧ w'.cell? ⟨gb441, 3, none⟩ = some (.slice A0_3 l0_3.length c0_3)) (ds := []) #[F, F, F, F, F, F, F, F, F, F, F] (by kernel_rfl) rfl rfl ⟨(bc_ BK441.out 0).trans rfl, (bc_ BK441.out 1).trans rfl, (bc_ BK441.out 2).trans rfl, (bc_ BK441.out 3).trans rfl⟩ (fun hHeld => ?_); refine with_tabW impl_copyQueue.tab1 impl_copyQueue.bits1 (fun HT_ HW_ => ?_)
 generalize w6.drew = w7 at BK441 BK442 HB hHeld ⊢
 refine pr_ (i := 0) (N := some 3) #[T, F, F, F, F, F, F, F, F, F, F] rfl HT_.out ?_
 refine pr_ (i := 3) (N := some 6) #[T, F, F, T, F, F, F, F, F, F, F] rfl HT_.out ?_
 refine pr_ (i := 6) (N := some 9) #[T, F, F, T, F, F, T, F, F, F, F] rfl HT_.out ?_
 refine take_ (i := 1) (N := some 4) (v := ?_) (a' := ?_) #[T, T, F, T, F, F, T, F, F, F, F] rfl rfl (take_ofW HT_.out HW_.out (by kernel_rfl)) (fun _ _ _ h => h) (Or.inl ⟨by rfl, ?_⟩) hHeld ?_ ?_
 rotate_left
 ·rintro w' ⟨s0, s1, s2, s3⟩
  go_simp
  with_reducible rfl
 rotate_left
 ·simp only [pS]
  rfl
 refine take_ (i := 4) (N := some 7) (v := ?_) (a' := ?_) #[T, T, F, T, T, F, T, F, F, F, F] rfl rfl (take_ofW HT_.out HW_.out (by kernel_rfl)) (fun _ _ _ h => h) (Or.inl ⟨by rfl, ?_⟩) hHeld ?_ ?_
 rotate_left
 ·rintro w' ⟨s0, s1, s2, s3⟩
  go_simp
  with_reducible rfl
 rotate_left
 ·simp only [pS]
  rfl
 refine take_ (i := 7) (N := some 10) (v := ?_) (a' := ?_) #[T, T, F, T, T, F, T, T, F, F, F] rfl rfl (take_ofW HT_.out HW_.out (by kernel_rfl)) (fun _ _ _ h => h) (Or.inl ⟨by rfl, ?_⟩) hHeld ?_ ?_
 rotate_left
 ·rintro w' ⟨s0, s1, s2, s3⟩
  go_simp
  with_reducible rfl
 rotate_left
 ·simp only [pS]
  rfl
 refine one_ (i := 2) (N := some 5) #[T, T, T, T, T, F, T, T, F, F, F] rfl rfl (one_of HT_.out (by kernel_rfl)) (by decide) (fun K hK => ?_)
 refine goes_ Try.func81 (by kernel_rfl) rfl #[.slice A0_0 l0_0.length c0_0] (by rfl) rfl rfl (by (try simp only [List.map_toArray, List.map_cons, List.map_nil]); first | done | rfl) ?_
 with_reducible refine (impl_copyPackets.calls k _ _ l0_0 t443 _ ?side1 ?side2 A2.out).mono ?_
 (case side1 => exact cY ((Kd.C_below HR0_0.out HB.out)))
 (case side2 => exact HC0_0.out)
 rintro e w8 ⟨v444, rfl, ho0, hb⟩
 refine ⟨_, rfl, ?_⟩
 have n0_ := A_.mk (Kd.S_lower ho0 (bz_ (by repeat (first | (with_reducible first | exact HB.out | apply ba_ | apply bd_ | apply be_ | refine bs_ ?_ GE441.out | refine bs_ ?_ GE442.out) | exact HB.out))))
 have n1_ := A_.mk (bb_ (bY BK441.out) hb)
 have n2_ := A_.mk (bb_ (bY BK442.out) hb)
 have n3_ := A_.mk (bt_ (by repeat (first | (with_reducible first | exact HB.out | apply ba_ | apply bd_ | apply be_ | refine bs_ ?_ GE441.out | refine bs_ ?_ GE442.out) | exact HB.out)) hb)
 clear BK441 BK442 HB
 have HO445 := n0_
 have BK441 := n1_
 have BK442 := n2_
 have HB := n3_
 clear n0_ n1_ n2_ n3_
 refine hK.out _ _ ⟨(bc_ BK441.out 0).trans rfl, (bc_ BK441.out 1).trans rfl, (bc_ BK441.out 2).trans rfl, (bc_ BK441.out 3).trans rfl⟩ (fun hHeld => ?_)
 clear hK K
 refine norm_ (a' := ?_) ?_ ?_
 rotate_left
 ·show Act.put _ (some 5) _ = _
  simp only [pS]
  rfl
 refine one_ (i := 5) (N := some 8) #[T, T, T, T, T, T, T, T, F, F, F] rfl rfl (one_of HT_.out (by kernel_rfl)) (by decide) (fun K hK => ?_)
 refine goes_ Try.func44 (by kernel_rfl) rfl #[.agg #[.slice A0_1 l0_1.length c0_1, .slice A0_2 l0_2.length c0_2]] (by rfl) rfl rfl (by (try simp only [List.map_toArray, List.map_cons, List.map_nil]); first | done | rfl) ?_
 with_reducible refine (impl_copyCredits.calls _ _ l0_1 _ _ l0_2 t446 t449 _ ?side1 ?side2 ?side3 ?side4 A3.out).mono ?_
 (case side1 => exact cY ((Kd.C_below HR0_1.out HB.out)))
 (case side2 => exact HC0_1.out)
 (case side3 => exact cY ((Kd.C_below HR0_2.out HB.out)))
 (case side4 => exact HC0_2.out)
 rintro e w9 ⟨v447, v450, rfl, ho0, ho1, hb⟩
 refine ⟨_, rfl, ?_⟩
 have n0_ := A_.mk (Kd.S_mono (Kd.S_told (Kd.S_told (Kd.S_old (by (with_reducible repeat (first | apply Kd.S_alloc | apply Kd.S_drewN | apply Kd.S_drew)); exact HO445.out) hb) (Kd.R_base ho0)) (Kd.R_base ho1)) (fun _ h_ => h_.1))
 have n1_ := A_.mk (Kd.R_lower ho0 (bz_ (by repeat (first | (with_reducible first | exact HB.out | apply ba_ | apply bd_ | apply be_ | refine bs_ ?_ GE441.out | refine bs_ ?_ GE442.out) | exact HB.out))))
 have n2_ := A_.mk (Kd.R_lower ho1 (bz_ (by repeat (first | (with_reducible first | exact HB.out | apply ba_ | apply bd_ | apply be_ | refine bs_ ?_ GE441.out | refine bs_ ?_ GE442.out) | exact HB.out))))
 have n3_ := A_.mk (bb_ (bY BK441.out) hb)
 have n4_ := A_.mk (bb_ (bY BK442.out) hb)
 have n5_ := A_.mk (bt_ (by repeat (first | (with_reducible first | exact HB.out | apply ba_ | apply bd_ | apply be_ | refine bs_ ?_ GE441.out | refine bs_ ?_ GE442.out) | exact HB.out)) hb)
 clear HO445 BK441 BK442 HB
 have HO445 := n0_
 have HO448 := n1_
 have HO451 := n2_
 have BK441 := n3_
 have BK442 := n4_
 have HB := n5_
 clear n0_ n1_ n2_ n3_ n4_ n5_
 refine hK.out _ _ ⟨(bc_ BK441.out 0).trans rfl, (bc_ BK441.out 1).trans rfl, (bc_ BK441.out 2).trans rfl, (bc_ BK441.out 3).trans rfl⟩ (fun hHeld => ?_)
 clear hK K
 refine norm_ (a' := ?_) ?_ ?_
 rotate_left
 ·show Act.put _ (some 8) _ = _
  simp only [pS]
  rfl
 refine one_ (i := 8) (N := some 11) #[T, T, T, T, T, T, T, T, T, F, F] rfl rfl (one_of HT_.out (by kernel_rfl)) (by decide) (fun K hK => ?_)
 refine goes_ Try.func81 (by kernel_rfl) rfl #[.slice A0_3 l0_3.length c0_3] (by rfl) rfl rfl (by (try simp only [List.map_toArray, List.map_cons, List.map_nil]); first | done | rfl) ?_
 with_reducible refine (impl_copyPackets.calls k _ _ l0_3 t452 _ ?side1 ?side2 A4.out).mono ?_
 (case side1 => exact cY ((Kd.C_below HR0_3.out HB.out)))
 (case side2 => exact HC0_3.out)
 rintro e w10 ⟨v453, rfl, ho0, hb⟩
 refine ⟨_, rfl, ?_⟩
 have n0_ := A_.mk (Kd.S_elder' (by (with_reducible repeat (first | apply Kd.S_alloc | apply Kd.S_drewN | apply Kd.S_drew)); exact HO445.out) (Kd.S_base ho0) hb)
 have n1_ := A_.mk (Kd.R_below (rY HO448.out) hb)
 have n2_ := A_.mk (Kd.R_below (rY HO451.out) hb)
 have n3_ := A_.mk (Kd.S_lower (Kd.S_new' (Kd.S_new' (Kd.S_new' ho0 (Kd.S_lt (by (with_reducible repeat (first | apply Kd.S_alloc | apply Kd.S_drewN | apply Kd.S_drew)); exact HO445.out))) (Kd.R_lt (rY HO448.out))) (Kd.R_lt (rY HO451.out))) (bz_ (by repeat (first | (with_reducible first | exact HB.out | apply ba_ | apply bd_ | apply be_ | refine bs_ ?_ GE441.out | refine bs_ ?_ GE442.out) | exact HB.out))))
 have n4_ := A_.mk (bb_ (bY BK441.out) hb)
 have n5_ := A_.mk (bb_ (bY BK442.out) hb)
 have n6_ := A_.mk (bt_ (by repeat (first | (with_reducible first | exact HB.out | apply ba_ | apply bd_ | apply be_ | refine bs_ ?_ GE441.out | refine bs_ ?_ GE442.out) | exact HB.out)) hb)
 clear HO445 HO448 HO451 BK441 BK442 HB
 have HO445 := n0_
 have HO448 := n1_
 have HO451 := n2_
 have HO454 := n3_
 have BK441 := n4_
 have BK442 := n5_
 have HB := n6_
 clear n0_ n1_ n2_ n3_ n4_ n5_ n6_
 obtain ⟨Ao11, co11, eo11⟩ := Kd.S_slice HO454.out
 (first | subst eo11 | (injection eo11 with f1_ f2_ f3_; have f4_ := f1_.symm; have f5_ := f3_.symm; clear f1_ f2_ f3_; subst f4_; subst f5_))
 obtain ⟨Ao12, co12, eo12⟩ := Kd.R_slice HO451.out
 (first | subst eo12 | (injection eo12 with f1_ f2_ f3_; have f4_ := f1_.symm; have f5_ := f3_.symm; clear f1_ f2_ f3_; subst f4_; subst f5_))
 obtain ⟨Ao13, co13, eo13⟩ := Kd.R_slice HO448.out
 (first | subst eo13 | (injection eo13 with f1_ f2_ f3_; have f4_ := f1_.symm; have f5_ := f3_.symm; clear f1_ f2_ f3_; subst f4_; subst f5_))
 obtain ⟨Ao14, co14, eo14⟩ := Kd.S_slice HO445.out
 (first | subst eo14 | (injection eo14 with f1_ f2_ f3_; have f4_ := f1_.symm; have f5_ := f3_.symm; clear f1_ f2_ f3_; subst f4_; subst f5_))
 refine hK.out _ _ ⟨(bc_ BK441.out 0).trans rfl, (bc_ BK441.out 1).trans rfl, (bc_ BK441.out 2).trans rfl, (bc_ BK441.out 3).trans rfl⟩ (fun hHeld => ?_)
 clear hK K
 refine norm_ (a' := ?_) ?_ ?_
 rotate_left
 ·show Act.put _ (some 11) _ = _
  simp only [pS]
  rfl
 refine pr_ (i := 9) (N := some 12) #[T, T, T, T, T, T, T, T, T, T, F] rfl HT_.out ?_
 refine one_ (i := 10) (N := none) #[T, T, T, T, T, T, T, T, T, T, T] rfl rfl (one_of HT_.out (by kernel_rfl)) (by decide) (fun K hK => ?_)
 have hs15 : w10.cell? ⟨gb442, 0, none⟩ = some (.slice none 0 0) := (bc_ BK442.out 0).trans rfl
 have hfs15 := bf_ BK442.out 0
 have hns15_0 := NB441_442.out
 have hms15_0 := NB442_441.out
 have hs16 : w10.cell? ⟨gb442, 1, none⟩ = some (.slice none 0 0) := (bc_ BK442.out 1).trans rfl
 have hfs16 := bf_ BK442.out 1
 have hns16_0 := NB441_442.out
 have hms16_0 := NB442_441.out
 have hs17 : w10.cell? ⟨gb442, 2, none⟩ = some (.slice none 0 0) := (bc_ BK442.out 2).trans rfl
 have hfs17 := bf_ BK442.out 2
 have hns17_0 := NB441_442.out
 have hms17_0 := NB442_441.out
 have hs18 : w10.cell? ⟨gb442, 3, none⟩ = some (.slice none 0 0) := (bc_ BK442.out 3).trans rfl
 have hfs18 := bf_ BK442.out 3
 have hns18_0 := NB441_442.out
 have hms18_0 := NB442_441.out
 refine skip_ (w1 := ?_) (by rfl) rfl ?_ ?_
 rotate_left
 ·go_simp
  rfl
 refine hK.out _ _ ⟨((cell_far (p := ⟨gb442, _, none⟩) NB441_442.out _).trans (((cell_far (p := ⟨gb442, _, none⟩) NB441_442.out _).trans (((cell_far (p := ⟨gb442, _, none⟩) NB441_442.out _).trans (((cell_far (p := ⟨gb442, _, none⟩) NB441_442.out _).trans (hHeld.1)))))))), ((cell_far (p := ⟨gb442, _, none⟩) NB441_442.out _).trans (((cell_far (p := ⟨gb442, _, none⟩) NB441_442.out _).trans (((cell_far (p := ⟨gb442, _, none⟩) NB441_442.out _).trans (((cell_far (p := ⟨gb442, _, none⟩) NB441_442.out _).trans (hHeld.2.1)))))))), ((cell_far (p := ⟨gb442, _, none⟩) NB441_442.out _).trans (((cell_far (p := ⟨gb442, _, none⟩) NB441_442.out _).trans (((cell_far (p := ⟨gb442, _, none⟩) NB441_442.out _).trans (((cell_far (p := ⟨gb442, _, none⟩) NB441_442.out _).trans (hHeld.2.2.1)))))))), ((cell_far (p := ⟨gb442, _, none⟩) NB441_442.out _).trans (((cell_far (p := ⟨gb442, _, none⟩) NB441_442.out _).trans (((cell_far (p := ⟨gb442, _, none⟩) NB441_442.out _).trans (((cell_far (p := ⟨gb442, _, none⟩) NB441_442.out _).trans (hHeld.2.2.2))))))))⟩ (fun hHeld => ?_)
 clear hK K
 refine done_ (done_of HT_.out (by kernel_rfl)) ?_
 try go_wp2
 refine bodyPost_ret (results_cell_row rfl _ _ gb442 53 #[.slice Ao14 t443.length co14, .slice Ao13 t446.length co13, .slice Ao12 t449.length co12, .slice Ao11 t452.length co11] (0, 0) _ rfl (by (repeat apply bX); refine bp_ (cs := #[.slice Ao14 t443.length co14, .slice Ao13 t446.length co13, .slice Ao12 t449.length co12, .slice none 0 0]) ?_ 3 _ rfl; (repeat apply bX); refine bp_ (cs := #[.slice Ao14 t443.length co14, .slice Ao13 t446.length co13, .slice none 0 0, .slice none 0 0]) ?_ 2 _ rfl; (repeat apply bX); refine bp_ (cs := #[.slice Ao14 t443.length co14, .slice none 0 0, .slice none 0 0, .slice none 0 0]) ?_ 1 _ rfl; (repeat apply bX); refine bp_ (cs := #[.slice none 0 0, .slice none 0 0, .slice none 0 0, .slice none 0 0]) ?_ 0 _ rfl; (repeat apply bX); exact BK442.out) Try.underlying53 rfl (by kernel_rfl)) rfl ?_
 exact ⟨_, _, _, _, by first | rfl | (simp [errW_none, errW_some] <;> rfl) | (simp [*, errW_none, errW_some] <;> rfl), by (with_reducible repeat (first | apply Kd.S_alloc | apply Kd.S_drewN | apply Kd.S_drew)); exact Kd.S_mono (Kd.S_far (p := ⟨gb442, 3, none⟩) (Kd.S_far (p := ⟨gb442, 2, none⟩) (Kd.S_far (p := ⟨gb442, 1, none⟩) (Kd.S_far (p := ⟨gb442, 0, none⟩) (Kd.S_types HO445.out BK442.out (by decide)) (fun _ hk => hk.2) (.slice Ao14 t443.length co14)) (fun _ hk => hk.2) (.slice Ao13 t446.length co13)) (fun _ hk => hk.2) (.slice Ao12 t449.length co12)) (fun _ hk => hk.2) (.slice Ao11 t452.length co11)) (fun _ hk => ⟨hk.1.1.1.2, ⟨hk.1.1.2, hk.1.2⟩⟩), by (repeat apply rX); exact Kd.R_mono (Kd.R_far (p := ⟨gb442, 3, none⟩) (Kd.R_far (p := ⟨gb442, 2, none⟩) (Kd.R_far (p := ⟨gb442, 1, none⟩) (Kd.R_far (p := ⟨gb442, 0, none⟩) (Kd.R_types HO448.out BK442.out (by decide)) (fun _ hk => hk.2) (.slice Ao14 t443.length co14)) (fun _ hk => hk.2) (.slice Ao13 t446.length co13)) (fun _ hk => hk.2) (.slice Ao12 t449.length co12)) (fun _ hk => hk.2) (.slice Ao11 t452.length co11)) (fun _ hk => hk.1), by (repeat apply rX); exact Kd.R_mono (Kd.R_far (p := ⟨gb442, 3, none⟩) (Kd.R_far (p := ⟨gb442, 2, none⟩) (Kd.R_far (p := ⟨gb442, 1, none⟩) (Kd.R_far (p := ⟨gb442, 0, none⟩) (Kd.R_types HO451.out BK442.out (by decide)) (fun _ hk => hk.2) (.slice Ao14 t443.length co14)) (fun _ hk => hk.2) (.slice Ao13 t446.length co13)) (fun _ hk => hk.2) (.slice Ao12 t449.length co12)) (fun _ hk => hk.2) (.slice Ao11 t452.length co11)) (fun _ hk => hk.1), by (with_reducible repeat (first | apply Kd.S_alloc | apply Kd.S_drewN | apply Kd.S_drew)); exact Kd.S_mono (Kd.S_far (p := ⟨gb442, 3, none⟩) (Kd.S_far (p := ⟨gb442, 2, none⟩) (Kd.S_far (p := ⟨gb442, 1, none⟩) (Kd.S_far (p := ⟨gb442, 0, none⟩) (Kd.S_types HO454.out BK442.out (by decide)) (fun _ hk => hk.2) (.slice Ao14 t443.length co14)) (fun _ hk => hk.2) (.slice Ao13 t446.length co13)) (fun _ hk => hk.2) (.slice Ao12 t449.length co12)) (fun _ hk => hk.2) (.slice Ao11 t452.length co11)) (fun _ hk => ⟨hk.1.1.1.2, ⟨hk.1.1.2, hk.1.2⟩⟩), by repeat (first | (with_reducible first | exact HB.out | apply ba_ | apply bd_ | apply be_ | refine bs_ ?_ GE441.out | refine bs_ ?_ GE442.out) | exact HB.out)⟩
/-! ### impl_SpendCredits: function 82 -/
def impl_SpendCredits.f (k : Nat) (l0_0 : List Int) (l0_1 : List Int) (a1_0 : Int) (a1_1 : Int) (a1_2 : Int) (a1_3 : Int) (a1_4 : Int) (a1_5 : Int) (a1_6 : Int) (l1_7 : List Int) : Option (List Int × List Int × Bool) := (impl_copyCredits.f l0_0 l0_1).bind fun bt458 => ((impl_CanSend.f k l0_0 l0_1 a1_0 a1_1 a1_2 a1_3 a1_4 a1_5 a1_6 l1_7).bind fun t465 => (if t465 = true then ((impl_ClassOf.f k a1_0 a1_1 a1_2 a1_3 a1_4 a1_5 a1_6 l1_7).bind fun t466 => (if 0 ≤ t466 then (if t466 < (bt458.1.length : Int) then (if t466 < (bt458.2.length : Int) then ((impl_PacketUnits.f k a1_0 a1_1 a1_2 a1_3 a1_4 a1_5 a1_6 l1_7).bind fun t470 => (some ((bt458.1.set (t466 : Int).toNat (wrap64 ((rd bt458.1 t466) - 1))), (bt458.2.set (t466 : Int).toNat (wrap64 ((rd bt458.2 t466) - t470))), true))) else (none)) else (none)) else (none))) else (some (bt458.1, bt458.2, false))))
def impl_SpendCredits.T6 : Bool × List (List Nat × List Nat) := (true, [([], []), ([0], [0]), ([], []), ([1, 2], [1, 2]), ([3], [3]), ([], []), ([5], [5]), ([4, 6], [4, 6]), ([1, 2, 0, 1, 2, 3, 4, 5, 6, 7], [1, 2]), ([8, 7, 6, 0, 1, 2, 3, 4, 5, 6, 7], [7, 8])])
def impl_SpendCredits.B6 : List Nat := [0, 1, 0, 7, 15, 0, 32, 127, 255, 511]
theorem impl_SpendCredits.tab6 : rtab .any (opsOf Try.f82 6) = impl_SpendCredits.T6 := by kernel_rfl
theorem impl_SpendCredits.bits6 : waitsOk impl_SpendCredits.T6.2 impl_SpendCredits.B6 = true := by kernel_rfl
set_option maxHeartbeats 8000000 in
set_option maxRecDepth 100000 in
theorem impl_SpendCredits.calls (k : Nat) (A0_0 : Option Addr) (c0_0 : Nat) (l0_0 : List Int) (A0_1 : Option Addr) (c0_1 : Nat) (l0_1 : List Int) (a1_0 : Int) (a1_1 : Int) (a1_2 : Int) (a1_3 : Int) (a1_4 : Int) (a1_5 : Int) (a1_6 : Int) (A1_7 : Option Addr) (c1_7 : Nat) (l1_7 : List Int) (r1 : List Int) (r2 : List Int) (r3 : Bool) (w : World) (hr0_0 : Kd.C (Kd.int .i64) w A0_0 l0_0.length l0_0) (hc0_0 : l0_0.length ≤ c0_0) (hr0_1 : Kd.C (Kd.int .i64) w A0_1 l0_1.length l0_1) (hc0_1 : l0_1.length ≤ c0_1) (hr1_7 : Kd.C (Kd.int .i64) w A1_7 l1_7.length l1_7) (hc1_7 : l1_7.length ≤ c1_7) (h : impl_SpendCredits.f k l0_0 l0_1 a1_0 a1_1 a1_2 a1_3 a1_4 a1_5 a1_6 l1_7 = some (r1, r2, r3)) :
  Calls Try.prog 82 #[.agg #[.slice A0_0 l0_0.length c0_0, .slice A0_1 l0_1.length c0_1], .agg #[.int .i64 a1_0, .int .i64 a1_1, .int .i64 a1_2, .int .i64 a1_3, .int .i64 a1_4, .int .i64 a1_5, .int .i64 a1_6, .slice A1_7 l1_7.length c1_7]] w fun e w' => ∃ v0_ v1_ : Value, e = .returned (.tuple #[.agg #[v0_, v1_], .bool r3]) ∧ Kd.R (Kd.int .i64) 3 w' w.heap.size (fun k_ => some k_ ≠ (v1_ : Value).ownBlock) v0_ r1 ∧ Kd.R (Kd.int .i64) 3 w' w.heap.size (fun k_ => some k_ ≠ (v0_ : Value).ownBlock) v1_ r2 ∧ Below w.heap.size w w' := by
 have hu26 := Try.underlying26
 have hu60 := Try.underlying60
 have HR0_0 := A_.mk hr0_0
 have HC0_0 := A_.mk hc0_0
 clear hr0_0 hc0_0
 have HR0_1 := A_.mk hr0_1
 have HC0_1 := A_.mk hc0_1
 clear hr0_1 hc0_1
 have HR1_7 := A_.mk hr1_7
 have HC1_7 := A_.mk hc1_7
 clear hr1_7 hc1_7
 have HB := A_.mk (Below.refl w.heap.size w)
 have H : ((impl_copyCredits.f l0_0 l0_1).bind fun bt458 => ((impl_CanSend.f k l0_0 l0_1 a1_0 a1_1 a1_2 a1_3 a1_4 a1_5 a1_6 l1_7).bind fun t465 => (if t465 = true then ((impl_ClassOf.f k a1_0 a1_1 a1_2 a1_3 a1_4 a1_5 a1_6 l1_7).bind fun t466 => (if 0 ≤ t466 then (if t466 < (bt458.1.length : Int) then (if t466 < (bt458.2.length : Int) then ((impl_PacketUnits.f k a1_0 a1_1 a1_2 a1_3 a1_4 a1_5 a1_6 l1_7).bind fun t470 => (some ((bt458.1.set (t466 : Int).toNat (wrap64 ((rd bt458.1 t466) - 1))), (bt458.2.set (t466 : Int).toNat (wrap64 ((rd bt458.2 t466) - t470))), true))) else (none)) else (none)) else (none))) else (some (bt458.1, bt458.2, false))))) = some (r1, r2, r3) := h
 clear h
 replace H := ob_ H
 obtain ⟨⟨t458, t461⟩, A30, H⟩ := H
 replace H : ((impl_CanSend.f k l0_0 l0_1 a1_0 a1_1 a1_2 a1_3 a1_4 a1_5 a1_6 l1_7).bind fun t465 => (if t465 = true then ((impl_ClassOf.f k a1_0 a1_1 a1_2 a1_3 a1_4 a1_5 a1_6 l1_7).bind fun t466 => (if 0 ≤ t466 then (if t466 < (t458.length : Int) then (if t466 < (t461.length : Int) then ((impl_PacketUnits.f k a1_0 a1_1 a1_2 a1_3 a1_4 a1_5 a1_6 l1_7).bind fun t470 => (some ((t458.set (t466 : Int).toNat (wrap64 ((rd t458 t466) - 1))), (t461.set (t466 : Int).toNat (wrap64 ((rd t461 t466) - t470))), true))) else (none)) else (none)) else (none))) else (some (t458, t461, false)))) = some (r1, r2, r3) := H
 have A3 := A_.mk A30
 clear A30
 replace H := ob_ H
 obtain ⟨t465, A40, H⟩ := H
 have A4 := A_.mk A40
 clear A40
 by_cases c5 : t465 = true
 rotate_left
 ·replace c5 := Bool.eq_false_iff.mpr c5
  subst c5
  have H1 : (some (t458, t461, false)) = some (r1, r2, r3) := by rw [if_neg (show ¬ (false = true) by decide)] at H; exact H
  clear H
  have H := H1
  clear H1
  simp only [Option.some.injEq, Prod.mk.injEq] at H
  obtain ⟨rfl, rfl, rfl⟩ := H
  go_enter Try.func82, Try.ntmps82
  go_wp2_with (first | ((with_reducible refine gd_ (N := 2) rfl ?_); refine by_ 2 (cs := #[.slice A0_0 l0_0.length c0_0, .slice A0_1 l0_1.length c0_1]) (t := 26) ?_; intro gb455 hg w42 hbox hb; have n0_ := A_.mk (bt_ (beY HB.out) hb); have n1_ := A_.mk (hbox); have n2_ := A_.mk ((by rw [hg]; exact (bz_ (beY HB.out)) : w.heap.size ≤ gb455)); have n3_ := A_.mk ((by rw [hg]; exact (bz_ (beY HB.out)) : w.heap.size ≤ gb455)); clear HB; have HB := n0_; have BK455 := n1_; have GW455 := n2_; have GE455 := n3_; clear n0_ n1_ n2_ n3_ hb hbox hg) | ((with_reducible refine gd_ (N := 3) rfl ?_); refine by_ 3 (cs := #[.int .i64 a1_0, .int .i64 a1_1, .int .i64 a1_2, .int .i64 a1_3, .int .i64 a1_4, .int .i64 a1_5, .int .i64 a1_6, .slice A1_7 l1_7.length c1_7]) (t := 60) ?_; intro gb456 hg w43 hbox hb; have n0_ := A_.mk (bb_ (bY BK455.out) hb); have n1_ := A_.mk (bt_ (by repeat (first | (with_reducible first | exact HB.out | apply ba_ | apply bd_ | apply be_ | refine bs_ ?_ GE455.out) | exact HB.out)) hb); have n2_ := A_.mk (hbox); have n3_ := A_.mk ((by rw [hg]; exact (bz_ (by repeat (first | (with_reducible first | exact HB.out | apply ba_ | apply bd_ | apply be_ | refine bs_ ?_ GE455.out) | exact HB.out))) : w.heap.size ≤ gb456)); have n4_ := A_.mk ((by rw [hg]; exact (bz_ (by repeat (first | (with_reducible first | exact HB.out | apply ba_ | apply bd_ | apply be_ | refine bs_ ?_ GE455.out) | exact HB.out))) : w.heap.size ≤ gb456)); have n5_ := A_.mk ((by rw [hg]; exact Nat.ne_of_lt (blk_lt (bY BK455.out)) : gb455 ≠ gb456)); have n6_ := A_.mk ((by rw [hg]; exact Nat.ne_of_gt (blk_lt (bY BK455.out)) : gb456 ≠ gb455)); clear BK455 HB; have BK455 := n0_; have HB := n1_; have BK456 := n2_; have GW456 := n3_; have GE456 := n4_; have NB455_456 := n5_; have NB456_455 := n6_; clear n0_ n1_ n2_ n3_ n4_ n5_ n6_ hb hbox hg) | ((with_reducible refine gd_ (N := 4) rfl ?_); refine by_ 4 (cs := #[.slice none 0 0, .slice none 0 0]) (t := 26) ?_; intro gb457 hg w44 hbox hb; have n0_ := A_.mk (bb_ (bY BK455.out) hb); have n1_ := A_.mk (bb_ (bY BK456.out) hb); have n2_ := A_.mk (bt_ (by repeat (first | (with_reducible first | exact HB.out | apply ba_ | apply bd_ | apply be_ | refine bs_ ?_ GE455.out | refine bs_ ?_ GE456.out) | exact HB.out)) hb); have n3_ := A_.mk (hbox); have n4_ := A_.mk ((by rw [hg]; exact (bz_ (by repeat (first | (with_reducible first | exact HB.out | apply ba_ | apply bd_ | apply be_ | refine bs_ ?_ GE455.out | refine bs_ ?_ GE456.out) | exact HB.out))) : w.heap.size ≤ gb457)); have n5_ := A_.mk ((by rw [hg]; exact (bz_ (by repeat (first | (with_reducible first | exact HB.out | apply ba_ | apply bd_ | apply be_ | refine bs_ ?_ GE455.out | refine bs_ ?_ GE456.out) | exact HB.out))) : w.heap.size ≤ gb457)); have n6_ := A_.mk ((by rw [hg]; exact Nat.ne_of_lt (blk_lt (bY BK455.out)) : gb455 ≠ gb457)); have n7_ := A_.mk ((by rw [hg]; exact Nat.ne_of_gt (blk_lt (bY BK455.out)) : gb457 ≠ gb455)); have n8_ := A_.mk ((by rw [hg]; exact Nat.ne_of_lt (blk_lt (bY BK456.out)) : gb456 ≠ gb457)); have n9_ := A_.mk ((by rw [hg]; exact Nat.ne_of_gt (blk_lt (bY BK456.out)) : gb457 ≠ gb456)); clear BK455 BK456 HB; have BK455 := n0_; have BK456 := n1_; have HB := n2_; have BK457 := n3_; have GW457 := n4_; have GE457 := n5_; have NB455_457 := n6_; have NB457_455 := n7_; have NB456_457 := n8_; have NB457_456 := n9_; clear n0_ n1_ n2_ n3_ n4_ n5_ n6_ n7_ n8_ n9_ hb hbox hg; have hnb45 := NB455_456.out; have hnc45 := NB456_455.out; have hnb46 := NB455_457.out; have hnc46 := NB457_455.out; have hcz47_0 : w44.cell? ⟨gb455, 0, none⟩ = some (.slice A0_0 l0_0.length c0_0) := (bc_ BK455.out 0).trans rfl; have hcz47_1 : w44.cell? ⟨gb455, 1, none⟩ = some (.slice A0_1 l0_1.length c0_1) := (bc_ BK455.out 1).trans rfl; have hfz47_0 := bf_ BK455.out 0; have hfz47_1 := bf_ BK455.out 1) | ((with_reducible refine gc_ (f := 44) rfl ?_); refine gl_ (some 9) Try.func44 #[.agg #[.slice A0_0 l0_0.length c0_0, .slice A0_1 l0_1.length c0_1]] ?_; (with_reducible refine (impl_copyCredits.calls _ _ l0_0 _ _ l0_1 t458 t461 _ ?side1 ?side2 ?side3 ?side4 A3.out).mono ?_); (case side1 => exact cY ((Kd.C_below HR0_0.out HB.out))); (case side2 => exact HC0_0.out); (case side3 => exact cY ((Kd.C_below HR0_1.out HB.out))); (case side4 => exact HC0_1.out); rintro e w48 ⟨v459, v462, rfl, ho0, ho1, hb⟩; refine ⟨_, rfl, ?_⟩; have n0_ := A_.mk (Kd.R_lower ho0 (bz_ (by repeat (first | (with_reducible first | exact HB.out | apply ba_ | apply bd_ | apply be_ | refine bs_ ?_ GE455.out | refine bs_ ?_ GE456.out | refine bs_ ?_ GE457.out) | exact HB.out)))); have n1_ := A_.mk (Kd.R_lower ho1 (bz_ (by repeat (first | (with_reducible first | exact HB.out | apply ba_ | apply bd_ | apply be_ | refine bs_ ?_ GE455.out | refine bs_ ?_ GE456.out | refine bs_ ?_ GE457.out) | exact HB.out)))); have n2_ := A_.mk (bb_ (bY BK455.out) hb); have n3_ := A_.mk (bb_ (bY BK456.out) hb); have n4_ := A_.mk (bb_ (bY BK457.out) hb); have n5_ := A_.mk (bt_ (by repeat (first | (with_reducible first | exact HB.out | apply ba_ | apply bd_ | apply be_ | refine bs_ ?_ GE455.out | refine bs_ ?_ GE456.out | refine bs_ ?_ GE457.out) | exact HB.out)) hb); clear BK455 BK456 BK457 HB; have HO460 := n0_; have HO463 := n1_; have BK455 := n2_; have BK456 := n3_; have BK457 := n4_; have HB := n5_; clear n0_ n1_ n2_ n3_ n4_ n5_; (try clear hb); (try clear hb2); (try clear hk); (try clear hi); (try clear ho0); (try clear ho1)) | ((with_reducible refine gd_ (N := 6) rfl ?_); refine by_ 6 (cs := #[.slice none 0 0, .slice none 0 0]) (t := 26) ?_; intro gb464 hg w49 hbox hb; have n0_ := A_.mk (Kd.R_below (rY HO460.out) hb); have n1_ := A_.mk (Kd.R_below (rY HO463.out) hb); have n2_ := A_.mk (bb_ (bY BK455.out) hb); have n3_ := A_.mk (bb_ (bY BK456.out) hb); have n4_ := A_.mk (bb_ (bY BK457.out) hb); have n5_ := A_.mk (bt_ (by repeat (first | (with_reducible first | exact HB.out | apply ba_ | apply bd_ | apply be_ | refine bs_ ?_ GE455.out | refine bs_ ?_ GE456.out | refine bs_ ?_ GE457.out) | exact HB.out)) hb); have n6_ := A_.mk (hbox); have n7_ := A_.mk ((by rw [hg]; exact (bz_ (by repeat (first | (with_reducible first | exact HB.out | apply ba_ | apply bd_ | apply be_ | refine bs_ ?_ GE455.out | refine bs_ ?_ GE456.out | refine bs_ ?_ GE457.out) | exact HB.out))) : w.heap.size ≤ gb464)); have n8_ := A_.mk ((by rw [hg]; exact (bz_ (by repeat (first | (with_reducible first | exact HB.out | apply ba_ | apply bd_ | apply be_ | refine bs_ ?_ GE455.out | refine bs_ ?_ GE456.out | refine bs_ ?_ GE457.out) | exact HB.out))) : w.heap.size ≤ gb464)); have n9_ := A_.mk ((by rw [hg]; exact Nat.ne_of_lt (blk_lt (bY BK455.out)) : gb455 ≠ gb464)); have n10_ := A_.mk ((by rw [hg]; exact Nat.ne_of_gt (blk_lt (bY BK455.out)) : gb464 ≠ gb455)); have n11_ := A_.mk ((by rw [hg]; exact Nat.ne_of_lt (blk_lt (bY BK456.out)) : gb456 ≠ gb464)); have n12_ := A_.mk ((by rw [hg]; exact Nat.ne_of_gt (blk_lt (bY BK456.out)) : gb464 ≠ gb456)); have n13_ := A_.mk ((by rw [hg]; exact Nat.ne_of_lt (blk_lt (bY BK457.out)) : gb457 ≠ gb464)); have n14_ := A_.mk ((by rw [hg]; exact Nat.ne_of_gt (blk_lt (bY BK457.out)) : gb464 ≠ gb457)); clear HO460 HO463 BK455 BK456 BK457 HB; have HO460 := n0_; have HO463 := n1_; have BK455 := n2_; have BK456 := n3_; have BK457 := n4_; have HB := n5_; have BK464 := n6_; have GW464 := n7_; have GE464 := n8_; have NB455_464 := n9_; have NB464_455 := n10_; have NB456_464 := n11_; have NB464_456 := n12_; have NB457_464 := n13_; have NB464_457 := n14_; clear n0_ n1_ n2_ n3_ n4_ n5_ n6_ n7_ n8_ n9_ n10_ n11_ n12_ n13_ n14_ hb hbox hg; obtain ⟨Ao50, co50, eo50⟩ := Kd.R_slice HO460.out; subst eo50; have hnb51 := NB464_455.out; have hnc51 := NB455_464.out; have hnb52 := NB464_456.out; have hnc52 := NB456_464.out; have hnb53 := NB464_457.out; have hnc53 := NB457_464.out; have hcz54_0 : w49.cell? ⟨gb464, 0, none⟩ = some (.slice none 0 0) := (bc_ BK464.out 0).trans rfl; have hcz54_1 : w49.cell? ⟨gb464, 1, none⟩ = some (.slice none 0 0) := (bc_ BK464.out 1).trans rfl; have hfz54_0 := bf_ BK464.out 0; have hfz54_1 := bf_ BK464.out 1; obtain ⟨Ao55, co55, eo55⟩ := Kd.R_slice HO463.out; subst eo55; have hcz56_0 : w49.cell? ⟨gb455, 0, none⟩ = some (.slice A0_0 l0_0.length c0_0) := (bc_ BK455.out 0).trans rfl; have hcz56_1 : w49.cell? ⟨gb455, 1, none⟩ = some (.slice A0_1 l0_1.length c0_1) := (bc_ BK455.out 1).trans rfl; have hfz56_0 := bf_ BK455.out 0; have hfz56_1 := bf_ BK455.out 1; have hnb57 := NB456_457.out; have hnc57 := NB457_456.out; have hcz58_0 : w49.cell? ⟨gb456, 0, none⟩ = some (.int .i64 a1_0) := (bc_ BK456.out 0).trans rfl; have hcz58_1 : w49.cell? ⟨gb456, 1, none⟩ = some (.int .i64 a1_1) := (bc_ BK456.out 1).trans rfl; have hcz58_2 : w49.cell? ⟨gb456, 2, none⟩ = some (.int .i64 a1_2) := (bc_ BK456.out 2).trans rfl; have hcz58_3 : w49.cell? ⟨gb456, 3, none⟩ = some (.int .i64 a1_3) := (bc_ BK456.out 3).trans rfl; have hcz58_4 : w49.cell? ⟨gb456, 4, none⟩ = some (.int .i64 a1_4) := (bc_ BK456.out 4).trans rfl; have hcz58_5 : w49.cell? ⟨gb456, 5, none⟩ = some (.int .i64 a1_5) := (bc_ BK456.out 5).trans rfl; have hcz58_6 : w49.cell? ⟨gb456, 6, none⟩ = some (.int .i64 a1_6) := (bc_ BK456.out 6).trans rfl; have hcz58_7 : w49.cell? ⟨gb456, 7, none⟩ = some (.slice A1_7 l1_7.length c1_7) := (bc_ BK456.out 7).trans rfl; have hfz58_0 := bf_ BK456.out 0; have hfz58_1 := bf_ BK456.out 1; have hfz58_2 := bf_ BK456.out 2; have hfz58_3 := bf_ BK456.out 3; have hfz58_4 := bf_ BK456.out 4; have hfz58_5 := bf_ BK456.out 5; have hfz58_6 := bf_ BK456.out 6; have hfz58_7 := bf_ BK456.out 7) | ((with_reducible refine gc_ (f := 64) rfl ?_); refine gl_ (some 12) Try.func64 #[.agg #[.slice A0_0 l0_0.length c0_0, .slice A0_1 l0_1.length c0_1], .agg #[.int .i64 a1_0, .int .i64 a1_1, .int .i64 a1_2, .int .i64 a1_3, .int .i64 a1_4, .int .i64 a1_5, .int .i64 a1_6, .slice A1_7 l1_7.length c1_7]] ?_; (with_reducible refine (impl_CanSend.calls k _ _ l0_0 _ _ l0_1 a1_0 a1_1 a1_2 a1_3 a1_4 a1_5 a1_6 _ _ l1_7 false _ ?side1 ?side2 ?side3 ?side4 ?side5 ?side6 A4.out).mono ?_); (case side1 => exact Kd.C_below HR0_0.out (by repeat (first | (with_reducible first | exact HB.out | apply ba_ | apply bd_ | apply be_ | refine bs_ ?_ GE455.out | refine bs_ ?_ GE456.out | refine bs_ ?_ GE457.out | refine bs_ ?_ GE464.out) | exact HB.out))); (case side2 => exact HC0_0.out); (case side3 => exact Kd.C_below HR0_1.out (by repeat (first | (with_reducible first | exact HB.out | apply ba_ | apply bd_ | apply be_ | refine bs_ ?_ GE455.out | refine bs_ ?_ GE456.out | refine bs_ ?_ GE457.out | refine bs_ ?_ GE464.out) | exact HB.out))); (case side4 => exact HC0_1.out); (case side5 => exact Kd.C_below HR1_7.out (by repeat (first | (with_reducible first | exact HB.out | apply ba_ | apply bd_ | apply be_ | refine bs_ ?_ GE455.out | refine bs_ ?_ GE456.out | refine bs_ ?_ GE457.out | refine bs_ ?_ GE464.out) | exact HB.out))); (case side6 => exact HC1_7.out); rintro e w59 ⟨rfl, hb⟩; refine ⟨_, rfl, ?_⟩; have n0_ := A_.mk (Kd.R_below (by (repeat apply rX); exact (Kd.R_mono (Kd.R_far (p := ⟨gb464, 1, none⟩) (Kd.R_far (p := ⟨gb464, 0, none⟩) (Kd.R_types HO460.out BK464.out (by decide)) (fun _ hk => hk.2) (.slice Ao50 t458.length co50)) (fun _ hk => hk.2) (.slice Ao55 t461.length co55)) (fun _ h_ => h_.1))) hb); have n1_ := A_.mk (Kd.R_below (by (repeat apply rX); exact (Kd.R_mono (Kd.R_far (p := ⟨gb464, 1, none⟩) (Kd.R_far (p := ⟨gb464, 0, none⟩) (Kd.R_types HO463.out BK464.out (by decide)) (fun _ hk => hk.2) (.slice Ao50 t458.length co50)) (fun _ hk => hk.2) (.slice Ao55 t461.length co55)) (fun _ h_ => h_.1))) hb); have n2_ := A_.mk (bb_ (g := gb455) (o := .cells #[.slice A0_0 l0_0.length c0_0, .slice A0_1 l0_1.length c0_1] 26 (0, 0)) (by (repeat apply bX); refine blk_far ?_ NB455_464.out _; (repeat apply bX); refine blk_far ?_ NB455_464.out _; (repeat apply bX); exact BK455.out) hb); have n3_ := A_.mk (bb_ (g := gb456) (o := .cells #[.int .i64 a1_0, .int .i64 a1_1, .int .i64 a1_2, .int .i64 a1_3, .int .i64 a1_4, .int .i64 a1_5, .int .i64 a1_6, .slice A1_7 l1_7.length c1_7] 60 (0, 0)) (by (repeat apply bX); refine blk_far ?_ NB456_464.out _; (repeat apply bX); refine blk_far ?_ NB456_464.out _; (repeat apply bX); exact BK456.out) hb); have n4_ := A_.mk (bb_ (g := gb457) (o := .cells #[.slice none 0 0, .slice none 0 0] 26 (0, 0)) (by (repeat apply bX); refine blk_far ?_ NB457_464.out _; (repeat apply bX); refine blk_far ?_ NB457_464.out _; (repeat apply bX); exact BK457.out) hb); have n5_ := A_.mk (bb_ (g := gb464) (o := .cells #[.slice Ao50 t458.length co50, .slice Ao55 t461.length co55] 26 (0, 0)) (by (repeat apply bX); refine bp_ (cs := #[.slice Ao50 t458.length co50, .slice none 0 0]) ?_ 1 _ rfl; (repeat apply bX); refine bp_ (cs := #[.slice none 0 0, .slice none 0 0]) ?_ 0 _ rfl; (repeat apply bX); exact BK464.out) hb); have n6_ := A_.mk (bt_ (by repeat (first | (with_reducible first | exact HB.out | apply ba_ | apply bd_ | apply be_ | refine bs_ ?_ GE455.out | refine bs_ ?_ GE456.out | refine bs_ ?_ GE457.out | refine bs_ ?_ GE464.out) | exact HB.out)) hb); clear HO460 HO463 BK455 BK456 BK457 BK464 HB; have HO460 := n0_; have HO463 := n1_; have BK455 := n2_; have BK456 := n3_; have BK457 := n4_; have BK464 := n5_; have HB := n6_; clear n0_ n1_ n2_ n3_ n4_ n5_ n6_; (try clear hb); (try clear hb2); (try clear hk); (try clear hi); have hcz60_0 : w59.cell? ⟨gb464, 0, none⟩ = some (.slice Ao50 t458.length co50) := (bc_ BK464.out 0).trans rfl; have hcz60_1 : w59.cell? ⟨gb464, 1, none⟩ = some (.slice Ao55 t461.length co55) := (bc_ BK464.out 1).trans rfl; have hfz60_0 := bf_ BK464.out 0; have hfz60_1 := bf_ BK464.out 1; have hcz61_0 : w59.cell? ⟨gb457, 0, none⟩ = some (.slice none 0 0) := (bc_ BK457.out 0).trans rfl; have hcz61_1 : w59.cell? ⟨gb457, 1, none⟩ = some (.slice none 0 0) := (bc_ BK457.out 1).trans rfl; have hfz61_0 := bf_ BK457.out 0; have hfz61_1 := bf_ BK457.out 1))
  refine bodyPost_ret (results_ct rfl _ _ gb457 26 #[.slice Ao50 t458.length co50, .slice Ao55 t461.length co55] (0, 0) _ rfl (by (repeat apply bX); refine bp_ (cs := #[.slice Ao50 t458.length co50, .slice none 0 0]) ?_ 1 _ rfl; (repeat apply bX); refine bp_ (cs := #[.slice none 0 0, .slice none 0 0]) ?_ 0 _ rfl; (repeat apply bX); exact BK457.out) Try.underlying26 rfl (by kernel_rfl)) rfl ?_
  exact ⟨_, _, by first | rfl | (simp [errW_none, errW_some] <;> rfl) | (simp [*, errW_none, errW_some] <;> rfl), by (repeat apply rX); exact Kd.R_mono (Kd.R_far (p := ⟨gb457, 1, none⟩) (Kd.R_far (p := ⟨gb457, 0, none⟩) (Kd.R_types HO460.out BK457.out (by decide)) (fun _ hk => hk.2) (.slice Ao50 t458.length co50)) (fun _ hk => hk.2) (.slice Ao55 t461.length co55)) (fun _ hk => hk.1), by (repeat apply rX); exact Kd.R_mono (Kd.R_far (p := ⟨gb457, 1, none⟩) (Kd.R_far (p := ⟨gb457, 0, none⟩) (Kd.R_types HO463.out BK457.out (by decide)) (fun _ hk => hk.2) (.slice Ao50 t458.length co50)) (fun _ hk => hk.2) (.slice Ao55 t461.length co55)) (fun _ hk => hk.1), by repeat (first | (with_reducible first | exact HB.out | apply ba_ | apply bd_ | apply be_ | refine bs_ ?_ GE455.out | refine bs_ ?_ GE456.out | refine bs_ ?_ GE457.out | refine bs_ ?_ GE464.out) | exact HB.out)⟩
 subst c5
 have H1 : ((impl_ClassOf.f k a1_0 a1_1 a1_2 a1_3 a1_4 a1_5 a1_6 l1_7).bind fun t466 => (if 0 ≤ t466 then (if t466 < (t458.length : Int) then (if t466 < (t461.length : Int) then ((impl_PacketUnits.f k a1_0 a1_1 a1_2 a1_3 a1_4 a1_5 a1_6 l1_7).bind fun t470 => (some ((t458.set (t466 : Int).toNat (wrap64 ((rd t458 t466) - 1))), (t461.set (t466 : Int).toNat (wrap64 ((rd t461 t466) - t470))), true))) else (none)) else (none)) else (none))) = some (r1, r2, r3) := by rw [if_pos rfl] at H; exact H
 clear H
 have H := H1
 clear H1
 replace H := ob_ H
 obtain ⟨t466, A60, H⟩ := H
 have A6 := A_.mk A60
 clear A60
 by_cases c7 : 0 ≤ t466
 rotate_left
 ·rw [if_neg c7] at H
  exact absurd H (by simp)
 rw [if_pos c7] at H
 have c7b0 : decide (0 ≤ t466) = true := decide_eq_true c7
 clear c7
 by_cases c8 : t466 < (t458.length : Int)
 rotate_left
 ·rw [if_neg c8] at H
  exact absurd H (by simp)
 rw [if_pos c8] at H
 have c8b0 : decide (t466 < (t458.length : Int)) = true := decide_eq_true c8
 clear c8
 obtain ⟨y468, hy468⟩ : ∃ y_ : List Int, y_ = (t458.set (t466 : Int).toNat (wrap64 ((rd t458 t466) - 1))) := ⟨_, rfl⟩
 replace H : (if t466 < (t461.length : Int) then ((impl_PacketUnits.f k a1_0 a1_1 a1_2 a1_3 a1_4 a1_5 a1_6 l1_7).bind fun t470 => (some (y468, (t461.set (t466 : Int).toNat (wrap64 ((rd t461 t466) - t470))), true))) else (none)) = some (r1, r2, r3) := by first | (rw [hy468]; with_reducible exact H) | (have H2_ := (Option.bind_some _ _).symm.trans H; rw [hy468]; with_reducible exact H2_) | (have H2_ := (Option.bind_some _ _).symm.trans H; with_reducible exact H2_) | with_reducible exact H | (rw [hy468]; exact H) | exact H
 have Ny468 := A_.mk hy468
 clear hy468
 by_cases c10 : t466 < (t461.length : Int)
 rotate_left
 ·rw [if_neg c10] at H
  exact absurd H (by simp)
 rw [if_pos c10] at H
 have c10b0 : decide (t466 < (t461.length : Int)) = true := decide_eq_true c10
 clear c10
 replace H := ob_ H
 obtain ⟨t470, A110, H⟩ := H
 have A11 := A_.mk A110
 clear A110
 obtain ⟨y471, hy471⟩ : ∃ y_ : List Int, y_ = (t461.set (t466 : Int).toNat (wrap64 ((rd t461 t466) - t470))) := ⟨_, rfl⟩
 replace H : (some (y468, y471, true)) = some (r1, r2, r3) := by first | (rw [hy471]; with_reducible exact H) | (have H2_ := (Option.bind_some _ _).symm.trans H; rw [hy471]; with_reducible exact H2_) | (have H2_ := (Option.bind_some _ _).symm.trans H; with_reducible exact H2_) | with_reducible exact H | (rw [hy471]; exact H) | exact H
 have Ny471 := A_.mk hy471
 clear hy471
 simp only [Option.some.injEq, Prod.mk.injEq] at H
 obtain ⟨rfl, rfl, rfl⟩ := H
 go_enter Try.func82, Try.ntmps82
 try go_wp2_with (first | ((with_reducible refine gd_ (N := 2) rfl ?_); refine by_ 2 (cs := #[.slice A0_0 l0_0.length c0_0, .slice A0_1 l0_1.length c0_1]) (t := 26) ?_; intro gb455 hg w13 hbox hb; have n0_ := A_.mk (bt_ (beY HB.out) hb); have n1_ := A_.mk (hbox); have n2_ := A_.mk ((by rw [hg]; exact (bz_ (beY HB.out)) : w.heap.size ≤ gb455)); have n3_ := A_.mk ((by rw [hg]; exact (bz_ (beY HB.out)) : w.heap.size ≤ gb455)); clear HB; have HB := n0_; have BK455 := n1_; have GW455 := n2_; have GE455 := n3_; clear n0_ n1_ n2_ n3_ hb hbox hg) | ((with_reducible refine gd_ (N := 3) rfl ?_); refine by_ 3 (cs := #[.int .i64 a1_0, .int .i64 a1_1, .int .i64 a1_2, .int .i64 a1_3, .int .i64 a1_4, .int .i64 a1_5, .int .i64 a1_6, .slice A1_7 l1_7.length c1_7]) (t := 60) ?_; intro gb456 hg w14 hbox hb; have n0_ := A_.mk (bb_ (bY BK455.out) hb); have n1_ := A_.mk (bt_ (by repeat (first | (with_reducible first | exact HB.out | apply ba_ | apply bd_ | apply be_ | refine bs_ ?_ GE455.out) | exact HB.out)) hb); have n2_ := A_.mk (hbox); have n3_ := A_.mk ((by rw [hg]; exact (bz_ (by repeat (first | (with_reducible first | exact HB.out | apply ba_ | apply bd_ | apply be_ | refine bs_ ?_ GE455.out) | exact HB.out))) : w.heap.size ≤ gb456)); have n4_ := A_.mk ((by rw [hg]; exact (bz_ (by repeat (first | (with_reducible first | exact HB.out | apply ba_ | apply bd_ | apply be_ | refine bs_ ?_ GE455.out) | exact HB.out))) : w.heap.size ≤ gb456)); have n5_ := A_.mk ((by rw [hg]; exact Nat.ne_of_lt (blk_lt (bY BK455.out)) : gb455 ≠ gb456)); have n6_ := A_.mk ((by rw [hg]; exact Nat.ne_of_gt (blk_lt (bY BK455.out)) : gb456 ≠ gb455)); clear BK455 HB; have BK455 := n0_; have HB := n1_; have BK456 := n2_; have GW456 := n3_; have GE456 := n4_; have NB455_456 := n5_; have NB456_455 := n6_; clear n0_ n1_ n2_ n3_ n4_ n5_ n6_ hb hbox hg) | ((with_reducible refine gd_ (N := 4) rfl ?_); refine by_ 4 (cs := #[.slice none 0 0, .slice none 0 0]) (t := 26) ?_; intro gb457 hg w15 hbox hb; have n0_ := A_.mk (bb_ (bY BK455.out) hb); have n1_ := A_.mk (bb_ (bY BK456.out) hb); have n2_ := A_.mk (bt_ (by repeat (first | (with_reducible first | exact HB.out | apply ba_ | apply bd_ | apply be_ | refine bs_ ?_ GE455.out | refine bs_ ?_ GE456.out) | exact HB.out)) hb); have n3_ := A_.mk (hbox); have n4_ := A_.mk ((by rw [hg]; exact (bz_ (by repeat (first | (with_reducible first | exact HB.out | apply ba_ | apply bd_ | apply be_ | refine bs_ ?_ GE455.out | refine bs_ ?_ GE456.out) | exact HB.out))) : w.heap.size ≤ gb457)); have n5_ := A_.mk ((by rw [hg]; exact (bz_ (by repeat (first | (with_reducible first | exact HB.out | apply ba_ | apply bd_ | apply be_ | refine bs_ ?_ GE455.out | refine bs_ ?_ GE456.out) | exact HB.out))) : w.heap.size ≤ gb457)); have n6_ := A_.mk ((by rw [hg]; exact Nat.ne_of_lt (blk_lt (bY BK455.out)) : gb455 ≠ gb457)); have n7_ := A_.mk ((by rw [hg]; exact Nat.ne_of_gt (blk_lt (bY BK455.out)) : gb457 ≠ gb455)); have n8_ := A_.mk ((by rw [hg]; exact Nat.ne_of_lt (blk_lt (bY BK456.out)) : gb456 ≠ gb457)); have n9_ := A_.mk ((by rw [hg]; exact Nat.ne_of_gt (blk_lt (bY BK456.out)) : gb457 ≠ gb456)); clear BK455 BK456 HB; have BK455 := n0_; have BK456 := n1_; have HB := n2_; have BK457 := n3_; have GW457 := n4_; have GE457 := n5_; have NB455_457 := n6_; have NB457_455 := n7_; have NB456_457 := n8_; have NB457_456 := n9_; clear n0_ n1_ n2_ n3_ n4_ n5_ n6_ n7_ n8_ n9_ hb hbox hg; have hnb16 := NB455_456.out; have hnc16 := NB456_455.out; have hnb17 := NB455_457.out; have hnc17 := NB457_455.out; have hcz18_0 : w15.cell? ⟨gb455, 0, none⟩ = some (.slice A0_0 l0_0.length c0_0) := (bc_ BK455.out 0).trans rfl; have hcz18_1 : w15.cell? ⟨gb455, 1, none⟩ = some (.slice A0_1 l0_1.length c0_1) := (bc_ BK455.out 1).trans rfl; have hfz18_0 := bf_ BK455.out 0; have hfz18_1 := bf_ BK455.out 1) | ((with_reducible refine gc_ (f := 44) rfl ?_); refine gl_ (some 9) Try.func44 #[.agg #[.slice A0_0 l0_0.length c0_0, .slice A0_1 l0_1.length c0_1]] ?_; (with_reducible refine (impl_copyCredits.calls _ _ l0_0 _ _ l0_1 t458 t461 _ ?side1 ?side2 ?side3 ?side4 A3.out).mono ?_); (case side1 => exact cY ((Kd.C_below HR0_0.out HB.out))); (case side2 => exact HC0_0.out); (case side3 => exact cY ((Kd.C_below HR0_1.out HB.out))); (case side4 => exact HC0_1.out); rintro e w19 ⟨v459, v462, rfl, ho0, ho1, hb⟩; refine ⟨_, rfl, ?_⟩; have n0_ := A_.mk (Kd.R_lower ho0 (bz_ (by repeat (first | (with_reducible first | exact HB.out | apply ba_ | apply bd_ | apply be_ | refine bs_ ?_ GE455.out | refine bs_ ?_ GE456.out | refine bs_ ?_ GE457.out) | exact HB.out)))); have n1_ := A_.mk (Kd.R_lower ho1 (bz_ (by repeat (first | (with_reducible first | exact HB.out | apply ba_ | apply bd_ | apply be_ | refine bs_ ?_ GE455.out | refine bs_ ?_ GE456.out | refine bs_ ?_ GE457.out) | exact HB.out)))); have n2_ := A_.mk (bb_ (bY BK455.out) hb); have n3_ := A_.mk (bb_ (bY BK456.out) hb); have n4_ := A_.mk (bb_ (bY BK457.out) hb); have n5_ := A_.mk (bt_ (by repeat (first | (with_reducible first | exact HB.out | apply ba_ | apply bd_ | apply be_ | refine bs_ ?_ GE455.out | refine bs_ ?_ GE456.out | refine bs_ ?_ GE457.out) | exact HB.out)) hb); clear BK455 BK456 BK457 HB; have HO460 := n0_; have HO463 := n1_; have BK455 := n2_; have BK456 := n3_; have BK457 := n4_; have HB := n5_; clear n0_ n1_ n2_ n3_ n4_ n5_; (try clear hb); (try clear hb2); (try clear hk); (try clear hi); (try clear ho0); (try clear ho1)) | ((with_reducible refine gd_ (N := 6) rfl ?_); refine by_ 6 (cs := #[.slice none 0 0, .slice none 0 0]) (t := 26) ?_; intro gb464 hg w20 hbox hb; have n0_ := A_.mk (Kd.R_below (rY HO460.out) hb); have n1_ := A_.mk (Kd.R_below (rY HO463.out) hb); have n2_ := A_.mk (bb_ (bY BK455.out) hb); have n3_ := A_.mk (bb_ (bY BK456.out) hb); have n4_ := A_.mk (bb_ (bY BK457.out) hb); have n5_ := A_.mk (bt_ (by repeat (first | (with_reducible first | exact HB.out | apply ba_ | apply bd_ | apply be_ | refine bs_ ?_ GE455.out | refine bs_ ?_ GE456.out | refine bs_ ?_ GE457.out) | exact HB.out)) hb); have n6_ := A_.mk (hbox); have n7_ := A_.mk ((by rw [hg]; exact (bz_ (by repeat (first | (with_reducible first | exact HB.out | apply ba_ | apply bd_ | apply be_ | refine bs_ ?_ GE455.out | refine bs_ ?_ GE456.out | refine bs_ ?_ GE457.out) | exact HB.out))) : w.heap.size ≤ gb464)); have n8_ := A_.mk ((by rw [hg]; exact (bz_ (by repeat (first | (with_reducible first | exact HB.out | apply ba_ | apply bd_ | apply be_ | refine bs_ ?_ GE455.out | refine bs_ ?_ GE456.out | refine bs_ ?_ GE457.out) | exact HB.out))) : w.heap.size ≤ gb464)); have n9_ := A_.mk ((by rw [hg]; exact Nat.ne_of_lt (blk_lt (bY BK455.out)) : gb455 ≠ gb464)); have n10_ := A_.mk ((by rw [hg]; exact Nat.ne_of_gt (blk_lt (bY BK455.out)) : gb464 ≠ gb455)); have n11_ := A_.mk ((by rw [hg]; exact Nat.ne_of_lt (blk_lt (bY BK456.out)) : gb456 ≠ gb464)); have n12_ := A_.mk ((by rw [hg]; exact Nat.ne_of_gt (blk_lt (bY BK456.out)) : gb464 ≠ gb456)); have n13_ := A_.mk ((by rw [hg]; exact Nat.ne_of_lt (blk_lt (bY BK457.out)) : gb457 ≠ gb464)); have n14_ := A_.mk ((by rw [hg]; exact Nat.ne_of_gt (blk_lt (bY BK457.out)) : gb464 ≠ gb457)); clear HO460 HO463 BK455 BK456 BK457 HB; have HO460 := n0_; have HO463 := n1_; have BK455 := n2_; have BK456 := n3_; have BK457 := n4_; have HB := n5_; have BK464 := n6_; have GW464 := n7_; have GE464 := n8_; have NB455_464 := n9_; have NB464_455 := n10_; have NB456_464 := n11_; have NB464_456 := n12_; have NB457_464 := n13_; have NB464_457 := n14_; clear n0_ n1_ n2_ n3_ n4_ n5_ n6_ n7_ n8_ n9_ n10_ n11_ n12_ n13_ n14_ hb hbox hg; obtain ⟨Ao21, co21, eo21⟩ := Kd.R_slice HO460.out; subst eo21; have hnb22 := NB464_455.out; have hnc22 := NB455_464.out; have hnb23 := NB464_456.out; have hnc23 := NB456_464.out; have hnb24 := NB464_457.out; have hnc24 := NB457_464.out; have hcz25_0 : w20.cell? ⟨gb464, 0, none⟩ = some (.slice none 0 0) := (bc_ BK464.out 0).trans rfl; have hcz25_1 : w20.cell? ⟨gb464, 1, none⟩ = some (.slice none 0 0) := (bc_ BK464.out 1).trans rfl; have hfz25_0 := bf_ BK464.out 0; have hfz25_1 := bf_ BK464.out 1; obtain ⟨Ao26, co26, eo26⟩ := Kd.R_slice HO463.out; subst eo26; have hcz27_0 : w20.cell? ⟨gb455, 0, none⟩ = some (.slice A0_0 l0_0.length c0_0) := (bc_ BK455.out 0).trans rfl; have hcz27_1 : w20.cell? ⟨gb455, 1, none⟩ = some (.slice A0_1 l0_1.length c0_1) := (bc_ BK455.out 1).trans rfl; have hfz27_0 := bf_ BK455.out 0; have hfz27_1 := bf_ BK455.out 1; have hnb28 := NB456_457.out; have hnc28 := NB457_456.out; have hcz29_0 : w20.cell? ⟨gb456, 0, none⟩ = some (.int .i64 a1_0) := (bc_ BK456.out 0).trans rfl; have hcz29_1 : w20.cell? ⟨gb456, 1, none⟩ = some (.int .i64 a1_1) := (bc_ BK456.out 1).trans rfl; have hcz29_2 : w20.cell? ⟨gb456, 2, none⟩ = some (.int .i64 a1_2) := (bc_ BK456.out 2).trans rfl; have hcz29_3 : w20.cell? ⟨gb456, 3, none⟩ = some (.int .i64 a1_3) := (bc_ BK456.out 3).trans rfl; have hcz29_4 : w20.cell? ⟨gb456, 4, none⟩ = some (.int .i64 a1_4) := (bc_ BK456.out 4).trans rfl; have hcz29_5 : w20.cell? ⟨gb456, 5, none⟩ = some (.int .i64 a1_5) := (bc_ BK456.out 5).trans rfl; have hcz29_6 : w20.cell? ⟨gb456, 6, none⟩ = some (.int .i64 a1_6) := (bc_ BK456.out 6).trans rfl; have hcz29_7 : w20.cell? ⟨gb456, 7, none⟩ = some (.slice A1_7 l1_7.length c1_7) := (bc_ BK456.out 7).trans rfl; have hfz29_0 := bf_ BK456.out 0; have hfz29_1 := bf_ BK456.out 1; have hfz29_2 := bf_ BK456.out 2; have hfz29_3 := bf_ BK456.out 3; have hfz29_4 := bf_ BK456.out 4; have hfz29_5 := bf_ BK456.out 5; have hfz29_6 := bf_ BK456.out 6; have hfz29_7 := bf_ BK456.out 7) | ((with_reducible refine gc_ (f := 64) rfl ?_); refine gl_ (some 12) Try.func64 #[.agg #[.slice A0_0 l0_0.length c0_0, .slice A0_1 l0_1.length c0_1], .agg #[.int .i64 a1_0, .int .i64 a1_1, .int .i64 a1_2, .int .i64 a1_3, .int .i64 a1_4, .int .i64 a1_5, .int .i64 a1_6, .slice A1_7 l1_7.length c1_7]] ?_; (with_reducible refine (impl_CanSend.calls k _ _ l0_0 _ _ l0_1 a1_0 a1_1 a1_2 a1_3 a1_4 a1_5 a1_6 _ _ l1_7 true _ ?side1 ?side2 ?side3 ?side4 ?side5 ?side6 A4.out).mono ?_); (case side1 => exact Kd.C_below HR0_0.out (by repeat (first | (with_reducible first | exact HB.out | apply ba_ | apply bd_ | apply be_ | refine bs_ ?_ GE455.out | refine bs_ ?_ GE456.out | refine bs_ ?_ GE457.out | refine bs_ ?_ GE464.out) | exact HB.out))); (case side2 => exact HC0_0.out); (case side3 => exact Kd.C_below HR0_1.out (by repeat (first | (with_reducible first | exact HB.out | apply ba_ | apply bd_ | apply be_ | refine bs_ ?_ GE455.out | refine bs_ ?_ GE456.out | refine bs_ ?_ GE457.out | refine bs_ ?_ GE464.out) | exact HB.out))); (case side4 => exact HC0_1.out); (case side5 => exact Kd.C_below HR1_7.out (by repeat (first | (with_reducible first | exact HB.out | apply ba_ | apply bd_ | apply be_ | refine bs_ ?_ GE455.out | refine bs_ ?_ GE456.out | refine bs_ ?_ GE457.out | refine bs_ ?_ GE464.out) | exact HB.out))); (case side6 => exact HC1_7.out); rintro e w30 ⟨rfl, hb⟩; refine ⟨_, rfl, ?_⟩; have n0_ := A_.mk (Kd.R_below (by (repeat apply rX); exact (Kd.R_mono (Kd.R_far (p := ⟨gb464, 1, none⟩) (Kd.R_far (p := ⟨gb464, 0, none⟩) (Kd.R_types HO460.out BK464.out (by decide)) (fun _ hk => hk.2) (.slice Ao21 t458.length co21)) (fun _ hk => hk.2) (.slice Ao26 t461.length co26)) (fun _ h_ => h_.1))) hb); have n1_ := A_.mk (Kd.R_below (by (repeat apply rX); exact (Kd.R_mono (Kd.R_far (p := ⟨gb464, 1, none⟩) (Kd.R_far (p := ⟨gb464, 0, none⟩) (Kd.R_types HO463.out BK464.out (by decide)) (fun _ hk => hk.2) (.slice Ao21 t458.length co21)) (fun _ hk => hk.2) (.slice Ao26 t461.length co26)) (fun _ h_ => h_.1))) hb); have n2_ := A_.mk (bb_ (g := gb455) (o := .cells #[.slice A0_0 l0_0.length c0_0, .slice A0_1 l0_1.length c0_1] 26 (0, 0)) (by (repeat apply bX); refine blk_far ?_ NB455_464.out _; (repeat apply bX); refine blk_far ?_ NB455_464.out _; (repeat apply bX); exact BK455.out) hb); have n3_ := A_.mk (bb_ (g := gb456) (o := .cells #[.int .i64 a1_0, .int .i64 a1_1, .int .i64 a1_2, .int .i64 a1_3, .int .i64 a1_4, .int .i64 a1_5, .int .i64 a1_6, .slice A1_7 l1_7.length c1_7] 60 (0, 0)) (by (repeat apply bX); refine blk_far ?_ NB456_464.out _; (repeat apply bX); refine blk_far ?_ NB456_464.out _; (repeat apply bX); exact BK456.out) hb); have n4_ := A_.mk (bb_ (g := gb457) (o := .cells #[.slice none 0 0, .slice none 0 0] 26 (0, 0)) (by (repeat apply bX); refine blk_far ?_ NB457_464.out _; (repeat apply bX); refine blk_far ?_ NB457_464.out _; (repeat apply bX); exact BK457.out) hb); have n5_ := A_.mk (bb_ (g := gb464) (o := .cells #[.slice Ao21 t458.length co21, .slice Ao26 t461.length co26] 26 (0, 0)) (by (repeat apply bX); refine bp_ (cs := #[.slice Ao21 t458.length co21, .slice none 0 0]) ?_ 1 _ rfl; (repeat apply bX); refine bp_ (cs := #[.slice none 0 0, .slice none 0 0]) ?_ 0 _ rfl; (repeat apply bX); exact BK464.out) hb); have n6_ := A_.mk (bt_ (by repeat (first | (with_reducible first | exact HB.out | apply ba_ | apply bd_ | apply be_ | refine bs_ ?_ GE455.out | refine bs_ ?_ GE456.out | refine bs_ ?_ GE457.out | refine bs_ ?_ GE464.out) | exact HB.out)) hb); clear HO460 HO463 BK455 BK456 BK457 BK464 HB; have HO460 := n0_; have HO463 := n1_; have BK455 := n2_; have BK456 := n3_; have BK457 := n4_; have BK464 := n5_; have HB := n6_; clear n0_ n1_ n2_ n3_ n4_ n5_ n6_; (try clear hb); (try clear hb2); (try clear hk); (try clear hi); have hcz31_0 : w30.cell? ⟨gb456, 0, none⟩ = some (.int .i64 a1_0) := (bc_ BK456.out 0).trans rfl; have hcz31_1 : w30.cell? ⟨gb456, 1, none⟩ = some (.int .i64 a1_1) := (bc_ BK456.out 1).trans rfl; have hcz31_2 : w30.cell? ⟨gb456, 2, none⟩ = some (.int .i64 a1_2) := (bc_ BK456.out 2).trans rfl; have hcz31_3 : w30.cell? ⟨gb456, 3, none⟩ = some (.int .i64 a1_3) := (bc_ BK456.out 3).trans rfl; have hcz31_4 : w30.cell? ⟨gb456, 4, none⟩ = some (.int .i64 a1_4) := (bc_ BK456.out 4).trans rfl; have hcz31_5 : w30.cell? ⟨gb456, 5, none⟩ = some (.int .i64 a1_5) := (bc_ BK456.out 5).trans rfl; have hcz31_6 : w30.cell? ⟨gb456, 6, none⟩ = some (.int .i64 a1_6) := (bc_ BK456.out 6).trans rfl; have hcz31_7 : w30.cell? ⟨gb456, 7, none⟩ = some (.slice A1_7 l1_7.length c1_7) := (bc_ BK456.out 7).trans rfl; have hfz31_0 := bf_ BK456.out 0; have hfz31_1 := bf_ BK456.out 1; have hfz31_2 := bf_ BK456.out 2; have hfz31_3 := bf_ BK456.out 3; have hfz31_4 := bf_ BK456.out 4; have hfz31_5 := bf_ BK456.out 5; have hfz31_6 := bf_ BK456.out 6; have hfz31_7 := bf_ BK456.out 7) | ((with_reducible refine gc_ (f := 79) rfl ?_); refine gl_ (some 16) Try.func79 #[.agg #[.int .i64 a1_0, .int .i64 a1_1, .int .i64 a1_2, .int .i64 a1_3, .int .i64 a1_4, .int .i64 a1_5, .int .i64 a1_6, .slice A1_7 l1_7.length c1_7]] ?_; (with_reducible refine (impl_ClassOf.calls k a1_0 a1_1 a1_2 a1_3 a1_4 a1_5 a1_6 _ _ l1_7 t466 _ ?side1 ?side2 A6.out).mono ?_); (case side1 => exact cY ((Kd.C_below HR1_7.out HB.out))); (case side2 => exact HC1_7.out); rintro e w32 ⟨rfl, hb⟩; refine ⟨_, rfl, ?_⟩; have n0_ := A_.mk (Kd.R_below (rY HO460.out) hb); have n1_ := A_.mk (Kd.R_below (rY HO463.out) hb); have n2_ := A_.mk (bb_ (bY BK455.out) hb); have n3_ := A_.mk (bb_ (bY BK456.out) hb); have n4_ := A_.mk (bb_ (bY BK457.out) hb); have n5_ := A_.mk (bb_ (bY BK464.out) hb); have n6_ := A_.mk (bt_ (by repeat (first | (with_reducible first | exact HB.out | apply ba_ | apply bd_ | apply be_ | refine bs_ ?_ GE455.out | refine bs_ ?_ GE456.out | refine bs_ ?_ GE457.out | refine bs_ ?_ GE464.out) | exact HB.out)) hb); clear HO460 HO463 BK455 BK456 BK457 BK464 HB; have HO460 := n0_; have HO463 := n1_; have BK455 := n2_; have BK456 := n3_; have BK457 := n4_; have BK464 := n5_; have HB := n6_; clear n0_ n1_ n2_ n3_ n4_ n5_ n6_; (try clear hb); (try clear hb2); (try clear hk); (try clear hi); have hcz33_0 : w32.cell? ⟨gb464, 0, none⟩ = some (.slice Ao21 t458.length co21) := (bc_ BK464.out 0).trans rfl; have hcz33_1 : w32.cell? ⟨gb464, 1, none⟩ = some (.slice Ao26 t461.length co26) := (bc_ BK464.out 1).trans rfl; have hfz33_0 := bf_ BK464.out 0; have hfz33_1 := bf_ BK464.out 1; have p467 : 0 ≤ (t466 : Int) := od_; have q467 : t466 < (t458.length : Int) := od_; obtain ⟨ad467, e467, hx467_0⟩ := Kd.at_int (Kd.R_reads' HO460.out).2.2 t466 p467 q467; cases e467; replace p467 := eq_true p467; replace q467 := eq_true q467; have p9 : 0 ≤ (t466 : Int) := od_; have q9 : (t466 : Int) < ((t458.length : Int) : Int) := od_; obtain ⟨go9, co9, eo9, gb9, gl9, cl9, HG9⟩ := Kd.R_form HO460.out (by omega); (first | cases eo9 | (injection eo9 with ea_ en_ ec_; (first | subst ea_ | (injection ea_ with ea_; subst ea_)); subst ec_; clear en_)); have GB9 := A_.mk gb9; have GG9 := A_.mk HG9; clear gb9 gl9 HG9; (first | simp only [add_plain] at hx467_0 | skip); obtain ⟨hx9_0, hf9_0⟩ := Kd.R_celln 0 HO460.out (t466 : Int) p9 q9; replace p9 := eq_true p9; replace q9 := eq_true q9; obtain ⟨hy34_, hz34_⟩ := Kd.R_celln 0 HO460.out (t466 : Int) (od_) (od_); have HP34 := Kd.R_putg HO460.out (t466 : Int) (wrap64 ((rd t458 t466) - 1))) | ((with_reducible refine gs_ (t := 3) (p := 23) rfl ?_); refine se_ (t := 3) (p := 23) (v := ?vo_w35) (w1 := (w32.setCell ⟨go9, (t466 : Int).toNat, none⟩ (.int .i64 (wrap64 ((rd t458 t466) - 1))))) ?hg ?ho ?hn ?hr ?_; (case ho => rfl); (case hg => rfl); (case hn => rfl); (case hr => first | (go_simp; done) | (go_simp; rfl)); intro w35 hw; have hg : w32.grownBy w35 (some go9) := (by rw [hw]; exact HP34.2); have hp_ : Kd.R (Kd.int .i64) 3 w35 w.heap.size (fun k_ => some k_ ≠ (.slice Ao26 t461.length co26 : Value).ownBlock) (.slice (some ⟨go9, 0, none⟩) t458.length co21) y468 := (by rw [hw, Ny468.out]; exact HP34.1); clear HP34; have n0_ := A_.mk (blk_grown (g := gb455) (o := .cells #[.slice A0_0 l0_0.length c0_0, .slice A0_1 l0_1.length c0_1] 26 (0, 0)) (bY BK455.out) hg (Kd.R_ne HO460.out BK455.out (by decide))); have n1_ := A_.mk (blk_grown (g := gb456) (o := .cells #[.int .i64 a1_0, .int .i64 a1_1, .int .i64 a1_2, .int .i64 a1_3, .int .i64 a1_4, .int .i64 a1_5, .int .i64 a1_6, .slice A1_7 l1_7.length c1_7] 60 (0, 0)) (bY BK456.out) hg (Kd.R_ne HO460.out BK456.out (by decide))); have n2_ := A_.mk (blk_grown (g := gb457) (o := .cells #[.slice none 0 0, .slice none 0 0] 26 (0, 0)) (bY BK457.out) hg (Kd.R_ne HO460.out BK457.out (by decide))); have n3_ := A_.mk (hp_); have n4_ := A_.mk (Kd.R_after (v := (.slice (some ⟨go9, 0, none⟩) t458.length co21)) (v1 := (.slice (some ⟨go9, 0, none⟩) t458.length co21)) (ok := (fun _ => True)) (by (repeat apply rX); exact Kd.R_mono HO463.out (fun _ hk => ⟨trivial, hk⟩)) hg (.inl rfl)); have n5_ := A_.mk (blk_grown (g := gb464) (o := .cells #[.slice (some ⟨go9, 0, none⟩) t458.length co21, .slice Ao26 t461.length co26] 26 (0, 0)) (bY BK464.out) hg (Kd.R_ne HO460.out BK464.out (by decide))); have n6_ := A_.mk ((by rw [hw]; exact bs_ (HB.out) GB9.out : Below w.heap.size w w35)); clear BK455 BK456 BK457 HO460 HO463 BK464 HB; have BK455 := n0_; have BK456 := n1_; have BK457 := n2_; have HO460 := n3_; have HO463 := n4_; have BK464 := n5_; have HB := n6_; clear n0_ n1_ n2_ n3_ n4_ n5_ n6_ hg hw hp_))
 have n0_ := A_.mk (Kd.R_drew HO460.out)
 have n1_ := A_.mk (Kd.R_drew HO463.out)
 have n2_ := A_.mk (bw_ BK455.out)
 have n3_ := A_.mk (bw_ BK456.out)
 have n4_ := A_.mk (bw_ BK457.out)
 have n5_ := A_.mk (bw_ BK464.out)
 have n6_ := A_.mk (be_ HB.out)
 clear HO460 HO463 BK455 BK456 BK457 BK464 HB
 have HO460 := n0_
 have HO463 := n1_
 have BK455 := n2_
 have BK456 := n3_
 have BK457 := n4_
 have BK464 := n5_
 have HB := n6_
 clear n0_ n1_ n2_ n3_ n4_ n5_ n6_
 have p469 : 0 ≤ (t466 : Int) := od_
 have q469 : t466 < (t461.length : Int) := od_
 obtain ⟨ad469, e469, hx469_0⟩ := Kd.at_int (Kd.R_reads' HO463.out).2.2 t466 p469 q469
 cases e469
 replace p469 := eq_true p469
 replace q469 := eq_true q469
 refine start_ (n := 10) (S := fun w' => w'.cell? ⟨gb464, 0, none⟩ = some (.slice (some ⟨go9, 0, none⟩) t458.length co21) ∧ w'.cell? ⟨gb464, 1, none⟩ = some (.slice (some ad469) t461.length co26) ∧ w'.cell? ⟨gb456, 0, none⟩ = some (.int .i64 a1_0) ∧ w'.cell? ⟨gb456, 1, none⟩ = some (.int .i64 a1_1) ∧ w'.cell? ⟨gb456, 2, none⟩ = some (.int .i64 a1_2) ∧ w'.cell? ⟨gb456, 3, none⟩ = some (.int .i64 a1_3) ∧ w'.cell? ⟨gb456, 4, none⟩ = some (.int .i64 a1_4) ∧ w'.cell? ⟨gb456, 5, none⟩ = some (.int .i64 a1_5) ∧ w'.cell? ⟨gb456, 6, none⟩ = some (.int .i64 a1_6) ∧ w'.cell? ⟨gb456, 7, none⟩ = some (.slice A1_7 l1_7.length c1_7) ∧ w'.cell? (ad469.add (t466).toNat) = some (.int .i64 (rd t461 t466))) (ds := [9]) #[F, F, F, F, F, F, F, F, F, F] (by kernel_rfl) rfl rfl ⟨(bc_ BK464.out 0).trans rfl, (bc_ BK464.out 1).trans rfl, (bc_ BK456.out 0).trans rfl, (bc_ BK456.out 1).trans rfl, (bc_ BK456.out 2).trans rfl, (bc_ BK456.out 3).trans rfl, (bc_ BK456.out 4).trans rfl, (bc_ BK456.out 5).trans rfl, (bc_ BK456.out 6).trans rfl, (bc_ BK456.out 7).trans rfl, hx469_0⟩ (fun hHeld => ?_); refine with_tabW impl_SpendCredits.tab6 impl_SpendCredits.bits6 (fun HT_ HW_ => ?_)
 generalize w35.drew = w36 at HO460 HO463 BK455 BK456 BK457 BK464 HB hx469_0 hHeld ⊢
 refine pr_ (i := 0) (N := some 24) #[T, F, F, F, F, F, F, F, F, F] rfl HT_.out ?_
 refine pr_ (i := 2) (N := some 26) #[T, F, T, F, F, F, F, F, F, F] rfl HT_.out ?_
 refine take_ (i := 1) (N := some 25) (v := ?_) (a' := ?_) #[T, T, T, F, F, F, F, F, F, F] rfl rfl (take_ofW HT_.out HW_.out (by kernel_rfl)) (fun _ _ _ h => h) (Or.inl ⟨by rfl, ?_⟩) hHeld ?_ ?_
 rotate_left
 ·rintro w' ⟨s0, s1, s2, s3, s4, s5, s6, s7, s8, s9, s10⟩
  go_simp
  with_reducible rfl
 rotate_left
 ·simp only [pS]
  rfl
 refine pr_ (i := 3) (N := some 27) #[T, T, T, T, F, F, F, F, F, F] rfl HT_.out ?_
 refine take_ (i := 4) (N := some 28) (v := ?_) (a' := ?_) #[T, T, T, T, T, F, F, F, F, F] rfl rfl (take_ofW HT_.out HW_.out (by kernel_rfl)) (fun _ _ _ h => h) (Or.inl ⟨by rfl, ?_⟩) hHeld ?_ ?_
 rotate_left
 ·rintro w' ⟨s0, s1, s2, s3, s4, s5, s6, s7, s8, s9, s10⟩
  go_simp
  with_reducible rfl
 rotate_left
 ·simp only [pS]
  rfl
 refine take_ (i := 5) (N := some 29) (v := ?_) (a' := ?_) #[T, T, T, T, T, T, F, F, F, F] rfl rfl (take_ofW HT_.out HW_.out (by kernel_rfl)) (fun _ _ _ h => h) (Or.inl ⟨by rfl, ?_⟩) hHeld ?_ ?_
 rotate_left
 ·rintro w' ⟨s0, s1, s2, s3, s4, s5, s6, s7, s8, s9, s10⟩
  go_simp
  with_reducible rfl
 rotate_left
 ·simp only [pS]
  rfl
 refine one_ (i := 6) (N := some 30) #[T, T, T, T, T, T, T, F, F, F] rfl rfl (one_of HT_.out (by kernel_rfl)) (by decide) (fun K hK => ?_)
 refine goes_ Try.func85 (by kernel_rfl) rfl #[.agg #[.int .i64 a1_0, .int .i64 a1_1, .int .i64 a1_2, .int .i64 a1_3, .int .i64 a1_4, .int .i64 a1_5, .int .i64 a1_6, .slice A1_7 l1_7.length c1_7]] (by rfl) rfl rfl (by (try simp only [List.map_toArray, List.map_cons, List.map_nil]); first | done | rfl) ?_
 with_reducible refine (impl_PacketUnits.calls k a1_0 a1_1 a1_2 a1_3 a1_4 a1_5 a1_6 _ _ l1_7 t470 _ ?side1 ?side2 A11.out).mono ?_
 (case side1 => exact cY ((Kd.C_below HR1_7.out HB.out)))
 (case side2 => exact HC1_7.out)
 rintro e w37 ⟨rfl, hb⟩
 have HS10_ := (hb.cell (wl_ _ _ (hHeld.2.2.2.2.2.2.2.2.2.2))).trans (hHeld.2.2.2.2.2.2.2.2.2.2)
 refine ⟨_, rfl, ?_⟩
 have n0_ := A_.mk (Kd.R_below (rY HO460.out) hb)
 have n1_ := A_.mk (Kd.R_below (rY HO463.out) hb)
 have n2_ := A_.mk (bb_ (bY BK455.out) hb)
 have n3_ := A_.mk (bb_ (bY BK456.out) hb)
 have n4_ := A_.mk (bb_ (bY BK457.out) hb)
 have n5_ := A_.mk (bb_ (bY BK464.out) hb)
 have n6_ := A_.mk (bt_ (by repeat (first | (with_reducible first | exact HB.out | apply ba_ | apply bd_ | apply be_ | refine bs_ ?_ GE455.out | refine bs_ ?_ GE456.out | refine bs_ ?_ GE457.out | refine bs_ ?_ GE464.out) | exact HB.out)) hb)
 clear HO460 HO463 BK455 BK456 BK457 BK464 HB
 have HO460 := n0_
 have HO463 := n1_
 have BK455 := n2_
 have BK456 := n3_
 have BK457 := n4_
 have BK464 := n5_
 have HB := n6_
 clear n0_ n1_ n2_ n3_ n4_ n5_ n6_
 have p12 : 0 ≤ (t466 : Int) := od_
 have q12 : (t466 : Int) < ((t461.length : Int) : Int) := od_
 obtain ⟨go12, co12, eo12, gb12, gl12, cl12, HG12⟩ := Kd.R_form HO463.out (by omega)
 (first | cases eo12 | (injection eo12 with ea_ en_ ec_; (first | subst ea_ | (injection ea_ with ea_; subst ea_)); subst ec_; clear en_))
 have GB12 := A_.mk gb12
 have GG12 := A_.mk HG12
 clear gb12 gl12 HG12
 (first | simp only [add_plain] at hx469_0 | skip)
 obtain ⟨hx12_0, hf12_0⟩ := Kd.R_celln 0 HO463.out (t466 : Int) p12 q12
 replace p12 := eq_true p12
 replace q12 := eq_true q12
 have HP38 := Kd.R_putn HO463.out (t466 : Int) (wrap64 ((rd t461 t466) - t470))
 rw [← Ny471.out] at HP38
 have HQ38 := A_.mk HP38
 clear HP38
 refine hK.out _ _ ⟨(bc_ BK464.out 0).trans rfl, (bc_ BK464.out 1).trans rfl, (bc_ BK456.out 0).trans rfl, (bc_ BK456.out 1).trans rfl, (bc_ BK456.out 2).trans rfl, (bc_ BK456.out 3).trans rfl, (bc_ BK456.out 4).trans rfl, (bc_ BK456.out 5).trans rfl, (bc_ BK456.out 6).trans rfl, (bc_ BK456.out 7).trans rfl, HS10_⟩ (fun hHeld => ?_)
 clear hK K
 refine norm_ (a' := ?_) ?_ ?_
 rotate_left
 ·show Act.put _ (some 30) _ = _
  simp only [pS]
  rfl
 refine pr_ (i := 7) (N := some 31) #[T, T, T, T, T, T, T, T, F, F] rfl HT_.out ?_
 refine pr_ (i := 8) (N := some 32) #[T, T, T, T, T, T, T, T, T, F] rfl HT_.out ?_
 refine last_ (i := 9) (N := none) #[T, T, T, T, T, T, T, T, T, T] rfl rfl (one_of HT_.out (by kernel_rfl)) (by decide) (fun K hK => ?_)
 refine skip_ (w1 := ?_) (by rfl) rfl ?_ ?_
 rotate_left
 ·go_simp
  rfl
 refine hK.out _ _ ?_
 clear hK K
 refine done_ (done_of HT_.out (by kernel_rfl)) ?_
 have n0_ : A_ (Kd.R (Kd.int .i64) 3 (w37.setCell ⟨go12, (t466 : Int).toNat, none⟩ (.int .i64 (wrap64 ((rd t461 t466) - t470)))) w.heap.size (fun k_ => some k_ ≠ (.slice (some ⟨go12, 0, none⟩) t461.length co26 : Value).ownBlock) (.slice (some ⟨go9, 0, none⟩) t458.length co21) y468) := ⟨by (repeat apply rX); exact Kd.R_mono (Kd.R_far (p := ⟨go12, (t466 : Int).toNat, none⟩) (Kd.R_mono HO460.out (fun k_ hk => (⟨hk, fun e_ => hk (by rw [e_]; rfl)⟩ : _ ∧ k_ ≠ go12))) (fun _ hk => hk.2) (.int .i64 (wrap64 ((rd t461 t466) - t470)))) (fun _ hk => hk.1)⟩
 have n1_ : A_ (Kd.R (Kd.int .i64) 3 (w37.setCell ⟨go12, (t466 : Int).toNat, none⟩ (.int .i64 (wrap64 ((rd t461 t466) - t470)))) w.heap.size (fun k_ => some k_ ≠ (.slice (some ⟨go9, 0, none⟩) t458.length co21 : Value).ownBlock) (.slice (some ⟨go12, 0, none⟩) t461.length co26) y471) := ⟨by (repeat apply rX); exact Kd.R_mono HQ38.out (fun _ hk => hk.2)⟩
 have n2_ : A_ ((w37.setCell ⟨go12, (t466 : Int).toNat, none⟩ (.int .i64 (wrap64 ((rd t461 t466) - t470)))).heap[gb455]? = some (.cells #[.slice A0_0 l0_0.length c0_0, .slice A0_1 l0_1.length c0_1] 26 (0, 0))) := ⟨by (repeat apply bX); refine blk_far ?_ (by have h_ := Kd.R_ne HO463.out BK455.out (by decide); intro e_; exact h_ (by rw [e_]; rfl)) _; (repeat apply bX); exact BK455.out⟩
 have n3_ : A_ ((w37.setCell ⟨go12, (t466 : Int).toNat, none⟩ (.int .i64 (wrap64 ((rd t461 t466) - t470)))).heap[gb456]? = some (.cells #[.int .i64 a1_0, .int .i64 a1_1, .int .i64 a1_2, .int .i64 a1_3, .int .i64 a1_4, .int .i64 a1_5, .int .i64 a1_6, .slice A1_7 l1_7.length c1_7] 60 (0, 0))) := ⟨by (repeat apply bX); refine blk_far ?_ (by have h_ := Kd.R_ne HO463.out BK456.out (by decide); intro e_; exact h_ (by rw [e_]; rfl)) _; (repeat apply bX); exact BK456.out⟩
 have n4_ : A_ ((w37.setCell ⟨go12, (t466 : Int).toNat, none⟩ (.int .i64 (wrap64 ((rd t461 t466) - t470)))).heap[gb457]? = some (.cells #[.slice none 0 0, .slice none 0 0] 26 (0, 0))) := ⟨by (repeat apply bX); refine blk_far ?_ (by have h_ := Kd.R_ne HO463.out BK457.out (by decide); intro e_; exact h_ (by rw [e_]; rfl)) _; (repeat apply bX); exact BK457.out⟩
 have n5_ : A_ ((w37.setCell ⟨go12, (t466 : Int).toNat, none⟩ (.int .i64 (wrap64 ((rd t461 t466) - t470)))).heap[gb464]? = some (.cells #[.slice (some ⟨go9, 0, none⟩) t458.length co21, .slice (some ⟨go12, 0, none⟩) t461.length co26] 26 (0, 0))) := ⟨by (repeat apply bX); refine blk_far ?_ (by have h_ := Kd.R_ne HO463.out BK464.out (by decide); intro e_; exact h_ (by rw [e_]; rfl)) _; (repeat apply bX); exact BK464.out⟩
 have n6_ : A_ (Below w.heap.size w (w37.setCell ⟨go12, (t466 : Int).toNat, none⟩ (.int .i64 (wrap64 ((rd t461 t466) - t470))))) := ⟨by repeat (first | (with_reducible first | exact HB.out | apply ba_ | apply bd_ | apply be_ | refine bs_ ?_ GB12.out | refine bs_ ?_ GE455.out | refine bs_ ?_ GE456.out | refine bs_ ?_ GE457.out | refine bs_ ?_ GE464.out) | exact HB.out)⟩
 generalize (w37.setCell ⟨go12, (t466 : Int).toNat, none⟩ (.int .i64 (wrap64 ((rd t461 t466) - t470)))) = w39 at n0_ n1_ n2_ n3_ n4_ n5_ n6_ ⊢
 have HO460 := n0_
 have HO463 := n1_
 have BK455 := n2_
 have BK456 := n3_
 have BK457 := n4_
 have BK464 := n5_
 have HB := n6_
 clear n0_ n1_ n2_ n3_ n4_ n5_ n6_
 obtain ⟨hcz40_0, hcz40_1, hfz40_0, hfz40_1⟩ := b2 BK464.out
 obtain ⟨hcz41_0, hcz41_1, hfz41_0, hfz41_1⟩ := b2 BK457.out
 try go_wp2
 refine bodyPost_ret (results_ct rfl _ _ gb457 26 #[.slice (some ⟨go9, 0, none⟩) t458.length co21, .slice (some ⟨go12, 0, none⟩) t461.length co26] (0, 0) _ rfl (by (repeat apply bX); refine bp_ (cs := #[.slice (some ⟨go9, 0, none⟩) t458.length co21, .slice none 0 0]) ?_ 1 _ rfl; (repeat apply bX); refine bp_ (cs := #[.slice none 0 0, .slice none 0 0]) ?_ 0 _ rfl; (repeat apply bX); exact BK457.out) Try.underlying26 rfl (by kernel_rfl)) rfl ?_
 exact ⟨_, _, by first | rfl | (simp [errW_none, errW_some] <;> rfl) | (simp [*, errW_none, errW_some] <;> rfl), by (repeat apply rX); exact Kd.R_mono (Kd.R_far (p := ⟨gb457, 1, none⟩) (Kd.R_far (p := ⟨gb457, 0, none⟩) (Kd.R_types HO460.out BK457.out (by decide)) (fun _ hk => hk.2) (.slice (some ⟨go9, 0, none⟩) t458.length co21)) (fun _ hk => hk.2) (.slice (some ⟨go12, 0, none⟩) t461.length co26)) (fun _ hk => hk.1), by (repeat apply rX); exact Kd.R_mono (Kd.R_far (p := ⟨gb457, 1, none⟩) (Kd.R_far (p := ⟨gb457, 0, none⟩) (Kd.R_types HO463.out BK457.out (by decide)) (fun _ hk => hk.2) (.slice (some ⟨go9, 0, none⟩) t458.length co21)) (fun _ hk => hk.2) (.slice (some ⟨go12, 0, none⟩) t461.length co26)) (fun _ hk => hk.1), by repeat (first | (with_reducible first | exact HB.out | apply ba_ | apply bd_ | apply be_ | refine bs_ ?_ GE455.out | refine bs_ ?_ GE456.out | refine bs_ ?_ GE457.out | refine bs_ ?_ GE464.out) | exact HB.out)⟩
/-! ### slices_Delete_60: function 83 (one element), told by hand -/
theorem R_cleared {α : Type} (d : Kd α) {W : World} {base e g n c : Nat} {ok : Nat → Prop} {xs : List α} (HO : d.R e W base ok (.slice (some ⟨g, 0, none⟩) n c) xs) (hn : n < c) (zs : List Value) (hz : zs.length = d.sz) :
  d.R e (W.setCells g (n * d.sz) zs) base ok (.slice (some ⟨g, 0, none⟩) n c) xs ∧ W.grownBy (W.setCells g (n * d.sz) zs) (some g) ∧ (∀ j, j < d.sz → (W.cell? ⟨g, n * d.sz + j, none⟩).isSome = true) ∧ (∀ j, W.frozen? ⟨g, j, none⟩ = false) := by
 obtain ⟨hl, hnc, _⟩ := Kd.R_reads' HO
 obtain ⟨hok, inner, hown, hr⟩ := HO
 rcases hown.2 with ⟨hv, _⟩ | ⟨g', cap', cur, hv, hb, hh, h3, hcm, hcs, htake⟩
 ·cases hv
 injection hv with ha _ hc
 injection ha with ha
 injection ha with hg
 subst hg; subst hc
 have hle : (n + 1) * d.sz ≤ c * d.sz := Nat.mul_le_mul_right _ hn
 rw [Nat.succ_mul] at hle
 obtain ⟨cur', h4, h5, h6⟩ := setCells_row zs (n * d.sz) W cur hh (by omega)
 obtain ⟨s1, s2, s3, s4⟩ := setCells_same g zs (n * d.sz) W
 have hfar : ∀ k', k' ≠ g → (W.setCells g (n * d.sz) zs).heap[k']? = W.heap[k']? := fun k' hk' => setCells_far zs _ k' hk'
 refine ⟨⟨hok, inner, ⟨hown.1, .inr ⟨g, c, cur', by rw [hl], hb, h4, h3, hcm, by rw [h5, hcs], ?_⟩⟩, hr.imp_ (fun p q hp => d.M_move (fun k' hk' => hfar k' (fun he => hk'.2 (by simp [Value.ownBlock, he]))) hp)⟩, ⟨s1, s2, s3, by rw [s4]; exact Nat.le_refl _, fun k' _ hk' => hfar k' (fun he => hk' (by rw [he]))⟩, fun j hj => ?_, fun j => bf_ hh _⟩
 ·rw [h6, ← htake, ← hl, List.append_assoc, List.take_append_of_le_length (by rw [List.length_take, Array.length_toList]; omega), List.take_take, Nat.min_self]
 ·rw [cell_of_row W g _ cur _ (0, 0) hh]
  simp
  omega
theorem N_cleared {α : Type} (d : Kd α) {W : World} {base e g n c : Nat} {ok : Nat → Prop} {xs : List α} (HO : Kd.N d e W base ok (.slice (some ⟨g, 0, none⟩) n c) xs) (hn : n < c) (zs : List Value) (hz : zs.length = d.sz) :
  Kd.N d e (W.setCells g (n * d.sz) zs) base ok (.slice (some ⟨g, 0, none⟩) n c) xs ∧ W.grownBy (W.setCells g (n * d.sz) zs) (some g) ∧ (∀ j, j < d.sz → (W.cell? ⟨g, n * d.sz + j, none⟩).isSome = true) ∧ (∀ j, W.frozen? ⟨g, j, none⟩ = false) := by
 obtain ⟨h0, rows, hl, hR, hf⟩ := HO
 obtain ⟨h1, h2, h3, h4⟩ := R_cleared (Kd.raw d.sz) hR hn zs hz
 exact ⟨⟨h0, rows, hl, h1, fun j x cs hx hc => Kd.FK_step (hf j x cs hx hc) (fun k hk hlt => h2.block k hlt (fun he => hk.2 (by rw [he]; simp [Value.ownBlock])))⟩, h2, h3, h4⟩
theorem run_clear_one {P : Program} (w : World) (t e ty : TypeId) (z : Value) (ht : P.underlying t = some (.slice e)) (hv : ∀ w, (zeroValue e).run P w = .ok z w) (zs : List Value) (hz : z.cells = zs.toArray) (h1 : ∀ u ∈ zs, u.oneCell' = true) (b o c : Nat)
  (hc : ∀ j, j < zs.length → (w.cell? ⟨b, o + j, none⟩).isSome = true) (hf : ∀ j, j < zs.length → w.frozen? ⟨b, o + j, none⟩ = false) :
  (Builtin.clear_ #[t] ty #[.slice (some ⟨b, o, none⟩) 1 c]).run P w = .ok (.tuple #[]) (w.setCells b o zs) := by
 have hzc : (Builtin.zeroCells z.cells 1).toList = zs := by
  rw [hz]
  simp [Builtin.zeroCells]
  apply List.ext_getElem
  ·simp
  ·intro i h1 h2
   simp at h1 ⊢
   simp [Nat.mod_eq_of_lt h2]
   rw [List.getElem?_eq_getElem h2]; rfl
 have hst := run_storeCells_cells (P := P) b o zs 0 w (by simpa using hc) (by simpa using hf) h1
 simp only [Nat.add_zero] at hst
 simp [Builtin.clear_, run_underlying ht, hv, hzc, hst]
set_option maxHeartbeats 8000000 in
set_option maxRecDepth 100000 in
theorem slices_Delete_60.calls (P0_ : Nat → Prop) (g n c : Nat) (l0 : List S60) (i : Int) (w0 w : World) (hB : Below w0.heap.size w0 w) (ho : Kd.N k60 60 w w0.heap.size P0_ (.slice (some ⟨g, 0, none⟩) n c) l0) (h0 : 0 ≤ i) (h1 : i < (n : Int)) :
  Calls Try.prog 83 #[.slice (some ⟨g, 0, none⟩) n c, .int .i64 i, .int .i64 (wrap64 (i + 1))] w fun e w' => e = .returned (.slice (some ⟨g, 0, none⟩) (n - 1) c) ∧ Kd.N k60 60 w' w0.heap.size P0_ (.slice (some ⟨g, 0, none⟩) (n - 1) c) (l0.eraseIdx i.toNat) ∧ Below w0.heap.size w0 w' ∧ Kept w w' (fun k_ => k_ = g) := by
 obtain ⟨m, rfl⟩ : ∃ m : Nat, i = m := ⟨i.toNat, by omega⟩
 have hnc := (Kd.N_reads' ho).2.1
 have hcm : c ≤ 9223372036854775807 := by
  obtain ⟨_, _, _, ⟨_, inner, hown, _⟩, _⟩ := ho
  rcases hown.2 with ⟨hv, _⟩ | ⟨g', cap', cur, hv, _, _, _, hcm, _⟩
  ·cases hv
  ·cases hv; exact hcm
 obtain ⟨p, rfl⟩ : ∃ p, n = p + 1 := ⟨n - 1, by omega⟩
 have hm : m < p + 1 := by omega
 have hm2 : m ≤ p := by omega
 have hw : wrap64 ((m : Int) + 1) = ((m + 1 : Nat) : Int) := by unfold wrap64; omega
 rw [hw]
 have hbase := hB.size
 have HO := A_.mk ho
 have HB := A_.mk hB
 have hne : ¬ m = m + 1 := by omega
 have hc1 : m + 1 ≤ p + 1 := hm
 have hc2 : m ≤ c := by omega
 have hc3 : m + 1 ≤ c := by omega
 have hc4 : m ≤ m + 1 := by omega
 have hc5 : m ≤ p + 1 := by omega
 have hi1 : (0 : Int) ≤ (m : Int) + 1 := by omega
 have hi2 : (m : Int) + 1 ≤ ((p + 1 : Nat) : Int) := by omega
 clear ho hB hw h0 h1
 go_enter Try.func83, Try.ntmps83
 go_wp2_with fail
 refine start_ (n := 8) (S := fun w' => True) (ds := []) #[F, F, F, F, F, F, F, F] (by kernel_rfl) rfl rfl trivial (fun hHeld => ?_)
 refine pd_ (i := 0) (N := some 20) #[T, F, F, F, F, F, F, F] rfl ?_
 refine pd_ (i := 1) (N := some 21) #[T, T, F, F, F, F, F, F] rfl ?_
 refine pd_ (i := 2) (N := some 22) #[T, T, T, F, F, F, F, F] rfl ?_
 refine pd_ (i := 3) (N := some 23) #[T, T, T, T, F, F, F, F] rfl ?_
 refine pd_ (i := 4) (N := some 24) #[T, T, T, T, T, F, F, F] rfl ?_
 refine pd_ (i := 5) (N := some 25) #[T, T, T, T, T, T, F, F] rfl ?_
 refine one_ (i := 6) (N := some 26) #[T, T, T, T, T, T, T, F] rfl rfl (by kernel_rfl) (by decide) (fun K hK => ?_)
 refine Kd.N_delete_step k60 w0.heap.size (by rfl) (.tmp 22) (.tmp 25) 27 60 rfl Try.underlying27 (by kernel_rfl) (g := g) (n := p + 1) (c := c) (k := m) (m := p - m) rfl rfl ?hA (by omega) (Kd.N_drew HO.out) hm (below_drew HB.out) hbase ?_
 case hA =>
  by_cases hz : c = m + 1
  ·rw [if_pos hz, if_pos hz]
  rw [if_neg hz, if_neg hz]; show _ = some (Addr.add ⟨g, 0, none⟩ ((m + 1) * 8)); rw [add_at, Nat.zero_add]
 intro w1 ho hb hg
 refine hK.out _ _ trivial (fun hHeld => ?_)
 clear hK K
 refine norm_ (a' := ?_) ?_ ?_
 rotate_left
 ·show Act.put _ (some 26) _ = _
  simp only [pS]
  rfl
 refine pd_ (i := 7) (N := some 0) #[T, T, T, T, T, T, T, T] rfl ?_
 refine done_ (by kernel_rfl) ?_
 have hpc : p < c := by omega
 rw [Nat.add_sub_cancel] at ho
 obtain ⟨hN2, hg2, hcs, hfr⟩ := N_cleared k60 ho hpc [.int .i64 0, .int .i64 0, .int .i64 0, .int .i64 0, .int .i64 0, .int .i64 0, .int .i64 0, .slice none 0 0] rfl
 have hcl : ∀ ty, (Builtin.clear_ #[27] ty #[.slice (some ⟨g, p * 8, none⟩) 1 (c - p)]).run Try.prog w1 = .ok (.tuple #[]) (w1.setCells g (p * 8) [.int .i64 0, .int .i64 0, .int .i64 0, .int .i64 0, .int .i64 0, .int .i64 0, .int .i64 0, .slice none 0 0]) :=
  fun ty => run_clear_one w1 27 60 ty (.agg #[.int .i64 0, .int .i64 0, .int .i64 0, .int .i64 0, .int .i64 0, .int .i64 0, .int .i64 0, .slice none 0 0]) Try.underlying27 (fun _ => by kernel_rfl) [.int .i64 0, .int .i64 0, .int .i64 0, .int .i64 0, .int .i64 0, .int .i64 0, .int .i64 0, .slice none 0 0] rfl (by decide) g (p * 8) (c - p) (fun j hj => hcs j hj) (fun j hj => hfr _)
 replace hN2 : Kd.N k60 60 (w1.setCells g (p * 8) [.int .i64 0, .int .i64 0, .int .i64 0, .int .i64 0, .int .i64 0, .int .i64 0, .int .i64 0, .slice none 0 0]) w0.heap.size P0_ (.slice (some ⟨g, 0, none⟩) p c) (l0.eraseIdx m) := hN2
 replace hg2 : w1.grownBy (w1.setCells g (p * 8) [.int .i64 0, .int .i64 0, .int .i64 0, .int .i64 0, .int .i64 0, .int .i64 0, .int .i64 0, .slice none 0 0]) (some g) := hg2
 generalize w1.setCells g (p * 8) [.int .i64 0, .int .i64 0, .int .i64 0, .int .i64 0, .int .i64 0, .int .i64 0, .int .i64 0, .slice none 0 0] = W2 at hN2 hg2 hcl
 have HN := A_.mk hN2
 have HG := A_.mk hg
 have HG2 := A_.mk hg2
 have HB2 := A_.mk (hb.grown hg2 (Nat.le_trans hbase hg.size) (fun k hk => by injection hk with hk; subst hk; exact (Kd.N_base ho) _ (by simp [Value.ownBlock])))
 have hp1 : p ≤ c := by omega
 have hp2 : p + 1 ≤ c := by omega
 have hp3 : p ≤ p + 1 := by omega
 have hp4 : ¬ c = p := by omega
 clear hN2 hg hg2 hcs hfr ho hb
 go_wp2
 all_goals (go_ret; first | exact ⟨rfl, HN.out, HB2.out, Kept.of_grown HG2.out (Kept.of_grown HG.out (Kept.drew (Kept.refl w _)) (fun k hk => .inl (by injection hk with hk; exact hk.symm))) (fun k hk => .inl (by injection hk with hk; exact hk.symm))⟩ | (subst h; exact ⟨rfl, HN.out, HB2.out, Kept.of_grown HG2.out (Kept.of_grown HG.out (Kept.drew (Kept.refl w _)) (fun k hk => .inl (by injection hk with hk; exact hk.symm))) (fun k hk => .inl (by injection hk with hk; exact hk.symm))⟩))
end Go.Proofs.Ytbdehpmfemgooaa.PFnQueues
