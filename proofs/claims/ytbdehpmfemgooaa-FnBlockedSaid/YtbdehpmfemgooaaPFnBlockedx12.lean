-- Written by a program of this session (wip/xp): not trusted, Lean checks it.
import Derived.Test.YtbdehpmfemgooaaPFnBlockedx0
import Derived.Test.YtbdehpmfemgooaaPFnBlockedx7
import Derived.Test.YtbdehpmfemgooaaPFnBlockedx9
import Derived.Test.YtbdehpmfemgooaaPFnBlockedx10
import Derived.Test.YtbdehpmfemgooaaPFnBlockedx11
namespace Go.Proofs.Ytbdehpmfemgooaa.PFnBlocked
open Go.RowKit Go.Proofs.YtbdehpmfemgooaaW.PrintWords Go.Proofs.YtbdehpmfemgooaaW.PrintLast Go.Proofs.YtbdehpmfemgooaaW.PrintMore
attribute [local go_sem] max2_int min2_int max_two min_two max_three min_three max_four min_four   -- for this text's walks alone
set_option linter.unusedVariables false
set_option linter.unusedSimpArgs false

/-! ### impl_copyQueue: function 60 -/
def impl_copyQueue.f (k : Nat) (l0_0 : List (S60)) (l0_1 : List Int) (l0_2 : List Int) (l0_3 : List (S60)) : Option ((List (S60)) × List Int × List Int × (List (S60))) := (impl_copyPackets.f k l0_0).bind fun t432 => ((impl_copyCredits.f l0_1 l0_2).bind fun bt435 => ((impl_copyPackets.f k l0_3).bind fun t441 => (some (t432, bt435.1, bt435.2, t441))))
def impl_copyQueue.T1 : Bool × List (List Nat × List Nat) := (true, [([], []), ([0], [0]), ([1], [1]), ([], []), ([3], [3]), ([4, 2], [4]), ([], []), ([6], [6]), ([7, 5], [7]), ([2, 5, 8], [2, 5, 8]), ([9, 8, 0, 1, 2, 3, 4, 5, 6, 7, 8, 9], [9])])
def impl_copyQueue.B1 : List Nat := [0, 1, 3, 0, 8, 31, 0, 64, 255, 511, 1023]
theorem impl_copyQueue.tab1 : rtab .any (opsOf Try.f60 1) = impl_copyQueue.T1 := by kernel_rfl
theorem impl_copyQueue.bits1 : waitsOk impl_copyQueue.T1.2 impl_copyQueue.B1 = true := by kernel_rfl
set_option maxHeartbeats 8000000 in
set_option maxRecDepth 100000 in
theorem impl_copyQueue.calls (k : Nat) (A0_0 : Option Addr) (c0_0 : Nat) (l0_0 : List (S60)) (A0_1 : Option Addr) (c0_1 : Nat) (l0_1 : List Int) (A0_2 : Option Addr) (c0_2 : Nat) (l0_2 : List Int) (A0_3 : Option Addr) (c0_3 : Nat) (l0_3 : List (S60)) (r1 : List (S60)) (r2 : List Int) (r3 : List Int) (r4 : List (S60)) (w : World) (hr0_0 : Kd.C k60 w A0_0 l0_0.length l0_0) (hc0_0 : l0_0.length ≤ c0_0) (hr0_1 : Kd.C (Kd.int .i64) w A0_1 l0_1.length l0_1) (hc0_1 : l0_1.length ≤ c0_1) (hr0_2 : Kd.C (Kd.int .i64) w A0_2 l0_2.length l0_2) (hc0_2 : l0_2.length ≤ c0_2) (hr0_3 : Kd.C k60 w A0_3 l0_3.length l0_3) (hc0_3 : l0_3.length ≤ c0_3) (h : impl_copyQueue.f k l0_0 l0_1 l0_2 l0_3 = some (r1, r2, r3, r4)) :
  Calls Try.prog 60 #[.agg #[.slice A0_0 l0_0.length c0_0, .slice A0_1 l0_1.length c0_1, .slice A0_2 l0_2.length c0_2, .slice A0_3 l0_3.length c0_3]] w fun e w' => ∃ v0_ v1_ v2_ v3_ : Value, e = .returned (.agg #[v0_, v1_, v2_, v3_]) ∧ Kd.S k60 60 w' w.heap.size (fun k_ => some k_ ≠ (v1_ : Value).ownBlock ∧ some k_ ≠ (v2_ : Value).ownBlock ∧ some k_ ≠ (v3_ : Value).ownBlock) v0_ r1 ∧ Kd.R (Kd.int .i64) 3 w' w.heap.size (fun k_ => some k_ ≠ (v2_ : Value).ownBlock) v1_ r2 ∧ Kd.R (Kd.int .i64) 3 w' w.heap.size (fun k_ => some k_ ≠ (v1_ : Value).ownBlock) v2_ r3 ∧ Kd.S k60 60 w' w.heap.size (fun k_ => some k_ ≠ (v0_ : Value).ownBlock ∧ some k_ ≠ (v1_ : Value).ownBlock ∧ some k_ ≠ (v2_ : Value).ownBlock) v3_ r4 ∧ Below w.heap.size w w' := by
 have hu53 := Try.underlying53
 have hu26 := Try.underlying26
 have HR0_0 := Aside0.mk hr0_0
 have HC0_0 := Aside0.mk hc0_0
 clear hr0_0 hc0_0
 have HR0_1 := Aside0.mk hr0_1
 have HC0_1 := Aside0.mk hc0_1
 clear hr0_1 hc0_1
 have HR0_2 := Aside0.mk hr0_2
 have HC0_2 := Aside0.mk hc0_2
 clear hr0_2 hc0_2
 have HR0_3 := Aside0.mk hr0_3
 have HC0_3 := Aside0.mk hc0_3
 clear hr0_3 hc0_3
 have HB := Aside0.mk (Below.refl w.heap.size w)
 have H : ((impl_copyPackets.f k l0_0).bind fun t432 => ((impl_copyCredits.f l0_1 l0_2).bind fun bt435 => ((impl_copyPackets.f k l0_3).bind fun t441 => (some (t432, bt435.1, bt435.2, t441))))) = some (r1, r2, r3, r4) := h
 clear h
 replace H := Option.bind_eq_some_iff.mp H
 obtain ⟨t432, A20, H⟩ := H
 have A2 := Aside0.mk A20
 clear A20
 replace H := Option.bind_eq_some_iff.mp H
 obtain ⟨⟨t435, t438⟩, A30, H⟩ := H
 replace H : ((impl_copyPackets.f k l0_3).bind fun t441 => (some (t432, t435, t438, t441))) = some (r1, r2, r3, r4) := H
 have A3 := Aside0.mk A30
 clear A30
 replace H := Option.bind_eq_some_iff.mp H
 obtain ⟨t441, A40, H⟩ := H
 have A4 := Aside0.mk A40
 clear A40
 simp only [Option.some.injEq, Prod.mk.injEq] at H
 obtain ⟨rfl, rfl, rfl, rfl⟩ := H
 go_enter Try.func60, Try.ntmps60
 try go_wp2_with (first | ((with_reducible refine gd_ (N := 1) rfl ?_); refine bx_ ?hg (N := 1) ?hd (cs := #[.slice A0_0 l0_0.length c0_0, .slice A0_1 l0_1.length c0_1, .slice A0_2 l0_2.length c0_2, .slice A0_3 l0_3.length c0_3]) (t := 53) ?hr ?_; (case hd => rfl); (case hg => rfl); (case hr => first | (go_simp; done) | (go_simp; rfl)); intro gb430 hg w5 hbox hb; have n0_ := Aside0.mk (bt_ (beY HB.out) hb); have n1_ := Aside0.mk (hbox); have n2_ := Aside0.mk ((by rw [hg]; exact (bz_ (beY HB.out)) : w.heap.size ≤ gb430)); have n3_ := Aside0.mk ((by rw [hg]; exact (bz_ (beY HB.out)) : w.heap.size ≤ gb430)); clear HB; have HB := n0_; have BK430 := n1_; have GW430 := n2_; have GE430 := n3_; clear n0_ n1_ n2_ n3_ hb hbox hg) | ((with_reducible refine gd_ (N := 2) rfl ?_); refine bx_ ?hg (N := 2) ?hd (cs := #[.slice none 0 0, .slice none 0 0, .slice none 0 0, .slice none 0 0]) (t := 53) ?hr ?_; (case hd => rfl); (case hg => rfl); (case hr => first | (go_simp; done) | (go_simp; rfl)); intro gb431 hg w6 hbox hb; have n0_ := Aside0.mk (bb_ (bY BK430.out) hb); have n1_ := Aside0.mk (bt_ (by repeat (first | (with_reducible first | exact HB.out | apply ba_ | apply bd_ | apply be_ | refine bs_ ?_ GE430.out) | exact HB.out)) hb); have n2_ := Aside0.mk (hbox); have n3_ := Aside0.mk ((by rw [hg]; exact (bz_ (by repeat (first | (with_reducible first | exact HB.out | apply ba_ | apply bd_ | apply be_ | refine bs_ ?_ GE430.out) | exact HB.out))) : w.heap.size ≤ gb431)); have n4_ := Aside0.mk ((by rw [hg]; exact (bz_ (by repeat (first | (with_reducible first | exact HB.out | apply ba_ | apply bd_ | apply be_ | refine bs_ ?_ GE430.out) | exact HB.out))) : w.heap.size ≤ gb431)); have n5_ := Aside0.mk ((by rw [hg]; exact Nat.ne_of_lt (blk_lt (bY BK430.out)) : gb430 ≠ gb431)); have n6_ := Aside0.mk ((by rw [hg]; exact Nat.ne_of_gt (blk_lt (bY BK430.out)) : gb431 ≠ gb430)); clear BK430 HB; have BK430 := n0_; have HB := n1_; have BK431 := n2_; have GW431 := n3_; have GE431 := n4_; have NB430_431 := n5_; have NB431_430 := n6_; clear n0_ n1_ n2_ n3_ n4_ n5_ n6_ hb hbox hg))
 have n0_ := Aside0.mk (bw_ BK430.out)
 have n1_ := Aside0.mk (bw_ BK431.out)
 have n2_ := Aside0.mk (be_ HB.out)
 clear BK430 BK431 HB
 have BK430 := n0_
 have BK431 := n1_
 have HB := n2_
 clear n0_ n1_ n2_
 refine start_ (n := 11) (S := fun w' => w'.cell? ⟨gb430, 0, none⟩ = some (.slice A0_0 l0_0.length c0_0) ∧ w'.cell? ⟨gb430, 1, none⟩ = some (.slice A0_1 l0_1.length c0_1) ∧ w'.cell? ⟨gb430, 2, none⟩ = some (.slice A0_2 l0_2.length c0_2) ∧ w'.cell? ⟨gb430, 3, none⟩ = some (.slice A0_3 l0_3.length c0_3)) (ds := []) #[F, F, F, F, F, F, F, F, F, F, F] (by kernel_rfl) rfl rfl ⟨(bc_ BK430.out 0).trans rfl, (bc_ BK430.out 1).trans rfl, (bc_ BK430.out 2).trans rfl, (bc_ BK430.out 3).trans rfl⟩ (fun hHeld => ?_); refine with_tabW impl_copyQueue.tab1 impl_copyQueue.bits1 (fun HT_ HW_ => ?_)
 generalize w6.drew = w7 at BK430 BK431 HB hHeld ⊢
 refine pure_ (i := 0) (N := some 3) (v := ?_) (a' := ?_) #[T, F, F, F, F, F, F, F, F, F, F] rfl rfl (any_of HT_.out (by kernel_rfl)) (fun _ _ _ h => h) (Or.inl ⟨by rfl, ?_⟩) ?_ ?_
 rotate_left
 ·intro w'
  go_simp
  with_reducible rfl
 rotate_left
 ·simp only [pS]
  rfl
 refine pure_ (i := 3) (N := some 6) (v := ?_) (a' := ?_) #[T, F, F, T, F, F, F, F, F, F, F] rfl rfl (any_of HT_.out (by kernel_rfl)) (fun _ _ _ h => h) (Or.inl ⟨by rfl, ?_⟩) ?_ ?_
 rotate_left
 ·intro w'
  go_simp
  with_reducible rfl
 rotate_left
 ·simp only [pS]
  rfl
 refine pure_ (i := 6) (N := some 9) (v := ?_) (a' := ?_) #[T, F, F, T, F, F, T, F, F, F, F] rfl rfl (any_of HT_.out (by kernel_rfl)) (fun _ _ _ h => h) (Or.inl ⟨by rfl, ?_⟩) ?_ ?_
 rotate_left
 ·intro w'
  go_simp
  with_reducible rfl
 rotate_left
 ·simp only [pS]
  rfl
 refine take_ (i := 1) (N := some 4) (v := ?_) (a' := ?_) #[T, T, F, T, F, F, T, F, F, F, F] rfl rfl (take_ofW HT_.out HW_.out (by kernel_rfl)) (fun _ _ _ h => h) (Or.inl ⟨by rfl, ?_⟩) hHeld ?_ ?_
 rotate_left
 ·rintro w' ⟨s0, s1, s2, s3⟩
  go_simp
  with_reducible rfl
 rotate_left
 ·simp only [pS]
  rfl
 refine take_ (i := 4) (N := some 7) (v := ?_) (a' := ?_) #[T, T, F, T, T, F, T, F, F, F, F] rfl rfl (take_ofW HT_.out HW_.out (by kernel_rfl)) (fun _ _ _ h => h) (Or.inl ⟨by rfl, ?_⟩) hHeld ?_ ?_
 rotate_left
 ·rintro w' ⟨s0, s1, s2, s3⟩
  go_simp
  with_reducible rfl
 rotate_left
 ·simp only [pS]
  rfl
 refine take_ (i := 7) (N := some 10) (v := ?_) (a' := ?_) #[T, T, F, T, T, F, T, T, F, F, F] rfl rfl (take_ofW HT_.out HW_.out (by kernel_rfl)) (fun _ _ _ h => h) (Or.inl ⟨by rfl, ?_⟩) hHeld ?_ ?_
 rotate_left
 ·rintro w' ⟨s0, s1, s2, s3⟩
  go_simp
  with_reducible rfl
 rotate_left
 ·simp only [pS]
  rfl
 refine one_ (i := 2) (N := some 5) #[T, T, T, T, T, F, T, T, F, F, F] rfl rfl (one_of HT_.out (by kernel_rfl)) (by decide) (fun K hK => ?_)
 refine goes_ Try.func81 (by kernel_rfl) rfl #[.slice A0_0 l0_0.length c0_0] (by rfl) rfl rfl (by (try simp only [List.map_toArray, List.map_cons, List.map_nil]); first | done | rfl) ?_
 with_reducible refine (impl_copyPackets.calls k _ _ l0_0 t432 _ ?side1 ?side2 A2.out).mono ?_
 (case side1 => exact cY ((Kd.C_below HR0_0.out HB.out)))
 (case side2 => exact HC0_0.out)
 rintro e w8 ⟨v433, rfl, ho0, hb⟩
 refine ⟨_, rfl, ?_⟩
 have n0_ := Aside0.mk (Kd.S_lower ho0 (bz_ (by repeat (first | (with_reducible first | exact HB.out | apply ba_ | apply bd_ | apply be_ | refine bs_ ?_ GE430.out | refine bs_ ?_ GE431.out) | exact HB.out))))
 have n1_ := Aside0.mk (bb_ (bY BK430.out) hb)
 have n2_ := Aside0.mk (bb_ (bY BK431.out) hb)
 have n3_ := Aside0.mk (bt_ (by repeat (first | (with_reducible first | exact HB.out | apply ba_ | apply bd_ | apply be_ | refine bs_ ?_ GE430.out | refine bs_ ?_ GE431.out) | exact HB.out)) hb)
 clear BK430 BK431 HB
 have HO434 := n0_
 have BK430 := n1_
 have BK431 := n2_
 have HB := n3_
 clear n0_ n1_ n2_ n3_
 refine hK.out _ _ ⟨(bc_ BK430.out 0).trans rfl, (bc_ BK430.out 1).trans rfl, (bc_ BK430.out 2).trans rfl, (bc_ BK430.out 3).trans rfl⟩ (fun hHeld => ?_)
 clear hK K
 refine norm_ (a' := ?_) ?_ ?_
 rotate_left
 ·show Act.put _ (some 5) _ = _
  simp only [pS]
  rfl
 refine one_ (i := 5) (N := some 8) #[T, T, T, T, T, T, T, T, F, F, F] rfl rfl (one_of HT_.out (by kernel_rfl)) (by decide) (fun K hK => ?_)
 refine goes_ Try.func44 (by kernel_rfl) rfl #[.agg #[.slice A0_1 l0_1.length c0_1, .slice A0_2 l0_2.length c0_2]] (by rfl) rfl rfl (by (try simp only [List.map_toArray, List.map_cons, List.map_nil]); first | done | rfl) ?_
 with_reducible refine (impl_copyCredits.calls _ _ l0_1 _ _ l0_2 t435 t438 _ ?side1 ?side2 ?side3 ?side4 A3.out).mono ?_
 (case side1 => exact cY ((Kd.C_below HR0_1.out HB.out)))
 (case side2 => exact HC0_1.out)
 (case side3 => exact cY ((Kd.C_below HR0_2.out HB.out)))
 (case side4 => exact HC0_2.out)
 rintro e w9 ⟨v436, v439, rfl, ho0, ho1, hb⟩
 refine ⟨_, rfl, ?_⟩
 have n0_ := Aside0.mk (Kd.S_mono (Kd.S_told (Kd.S_told (Kd.S_old (by (with_reducible repeat (first | apply Kd.S_alloc | apply Kd.S_drewN | apply Kd.S_drew)); exact HO434.out) hb) (Kd.R_base ho0)) (Kd.R_base ho1)) (fun _ h_ => h_.1))
 have n1_ := Aside0.mk (Kd.R_lower ho0 (bz_ (by repeat (first | (with_reducible first | exact HB.out | apply ba_ | apply bd_ | apply be_ | refine bs_ ?_ GE430.out | refine bs_ ?_ GE431.out) | exact HB.out))))
 have n2_ := Aside0.mk (Kd.R_lower ho1 (bz_ (by repeat (first | (with_reducible first | exact HB.out | apply ba_ | apply bd_ | apply be_ | refine bs_ ?_ GE430.out | refine bs_ ?_ GE431.out) | exact HB.out))))
 have n3_ := Aside0.mk (bb_ (bY BK430.out) hb)
 have n4_ := Aside0.mk (bb_ (bY BK431.out) hb)
 have n5_ := Aside0.mk (bt_ (by repeat (first | (with_reducible first | exact HB.out | apply ba_ | apply bd_ | apply be_ | refine bs_ ?_ GE430.out | refine bs_ ?_ GE431.out) | exact HB.out)) hb)
 clear HO434 BK430 BK431 HB
 have HO434 := n0_
 have HO437 := n1_
 have HO440 := n2_
 have BK430 := n3_
 have BK431 := n4_
 have HB := n5_
 clear n0_ n1_ n2_ n3_ n4_ n5_
 refine hK.out _ _ ⟨(bc_ BK430.out 0).trans rfl, (bc_ BK430.out 1).trans rfl, (bc_ BK430.out 2).trans rfl, (bc_ BK430.out 3).trans rfl⟩ (fun hHeld => ?_)
 clear hK K
 refine norm_ (a' := ?_) ?_ ?_
 rotate_left
 ·show Act.put _ (some 8) _ = _
  simp only [pS]
  rfl
 refine one_ (i := 8) (N := some 11) #[T, T, T, T, T, T, T, T, T, F, F] rfl rfl (one_of HT_.out (by kernel_rfl)) (by decide) (fun K hK => ?_)
 refine goes_ Try.func81 (by kernel_rfl) rfl #[.slice A0_3 l0_3.length c0_3] (by rfl) rfl rfl (by (try simp only [List.map_toArray, List.map_cons, List.map_nil]); first | done | rfl) ?_
 with_reducible refine (impl_copyPackets.calls k _ _ l0_3 t441 _ ?side1 ?side2 A4.out).mono ?_
 (case side1 => exact cY ((Kd.C_below HR0_3.out HB.out)))
 (case side2 => exact HC0_3.out)
 rintro e w10 ⟨v442, rfl, ho0, hb⟩
 refine ⟨_, rfl, ?_⟩
 have n0_ := Aside0.mk (Kd.S_elder' (by (with_reducible repeat (first | apply Kd.S_alloc | apply Kd.S_drewN | apply Kd.S_drew)); exact HO434.out) (Kd.S_base ho0) hb)
 have n1_ := Aside0.mk (Kd.R_below (rY HO437.out) hb)
 have n2_ := Aside0.mk (Kd.R_below (rY HO440.out) hb)
 have n3_ := Aside0.mk (Kd.S_lower (Kd.S_new' (Kd.S_new' (Kd.S_new' ho0 (Kd.S_lt (by (with_reducible repeat (first | apply Kd.S_alloc | apply Kd.S_drewN | apply Kd.S_drew)); exact HO434.out))) (Kd.R_lt (rY HO437.out))) (Kd.R_lt (rY HO440.out))) (bz_ (by repeat (first | (with_reducible first | exact HB.out | apply ba_ | apply bd_ | apply be_ | refine bs_ ?_ GE430.out | refine bs_ ?_ GE431.out) | exact HB.out))))
 have n4_ := Aside0.mk (bb_ (bY BK430.out) hb)
 have n5_ := Aside0.mk (bb_ (bY BK431.out) hb)
 have n6_ := Aside0.mk (bt_ (by repeat (first | (with_reducible first | exact HB.out | apply ba_ | apply bd_ | apply be_ | refine bs_ ?_ GE430.out | refine bs_ ?_ GE431.out) | exact HB.out)) hb)
 clear HO434 HO437 HO440 BK430 BK431 HB
 have HO434 := n0_
 have HO437 := n1_
 have HO440 := n2_
 have HO443 := n3_
 have BK430 := n4_
 have BK431 := n5_
 have HB := n6_
 clear n0_ n1_ n2_ n3_ n4_ n5_ n6_
 obtain ⟨Ao11, co11, eo11⟩ := Kd.S_slice HO443.out
 (first | subst eo11 | (injection eo11 with f1_ f2_ f3_; have f4_ := f1_.symm; have f5_ := f3_.symm; clear f1_ f2_ f3_; subst f4_; subst f5_))
 obtain ⟨Ao12, co12, eo12⟩ := Kd.R_slice HO440.out
 (first | subst eo12 | (injection eo12 with f1_ f2_ f3_; have f4_ := f1_.symm; have f5_ := f3_.symm; clear f1_ f2_ f3_; subst f4_; subst f5_))
 obtain ⟨Ao13, co13, eo13⟩ := Kd.R_slice HO437.out
 (first | subst eo13 | (injection eo13 with f1_ f2_ f3_; have f4_ := f1_.symm; have f5_ := f3_.symm; clear f1_ f2_ f3_; subst f4_; subst f5_))
 obtain ⟨Ao14, co14, eo14⟩ := Kd.S_slice HO434.out
 (first | subst eo14 | (injection eo14 with f1_ f2_ f3_; have f4_ := f1_.symm; have f5_ := f3_.symm; clear f1_ f2_ f3_; subst f4_; subst f5_))
 refine hK.out _ _ ⟨(bc_ BK430.out 0).trans rfl, (bc_ BK430.out 1).trans rfl, (bc_ BK430.out 2).trans rfl, (bc_ BK430.out 3).trans rfl⟩ (fun hHeld => ?_)
 clear hK K
 refine norm_ (a' := ?_) ?_ ?_
 rotate_left
 ·show Act.put _ (some 11) _ = _
  simp only [pS]
  rfl
 refine pure_ (i := 9) (N := some 12) (v := ?_) (a' := ?_) #[T, T, T, T, T, T, T, T, T, T, F] rfl rfl (any_of HT_.out (by kernel_rfl)) (fun _ _ _ h => h) (Or.inl ⟨by rfl, ?_⟩) ?_ ?_
 rotate_left
 ·intro w'
  go_simp
  with_reducible rfl
 rotate_left
 ·simp only [pS]
  rfl
 refine one_ (i := 10) (N := none) #[T, T, T, T, T, T, T, T, T, T, T] rfl rfl (one_of HT_.out (by kernel_rfl)) (by decide) (fun K hK => ?_)
 have hs15 : w10.cell? ⟨gb431, 0, none⟩ = some (.slice none 0 0) := (bc_ BK431.out 0).trans rfl
 have hfs15 := bf_ BK431.out 0
 have hns15_0 := NB430_431.out
 have hms15_0 := NB431_430.out
 have hs16 : w10.cell? ⟨gb431, 1, none⟩ = some (.slice none 0 0) := (bc_ BK431.out 1).trans rfl
 have hfs16 := bf_ BK431.out 1
 have hns16_0 := NB430_431.out
 have hms16_0 := NB431_430.out
 have hs17 : w10.cell? ⟨gb431, 2, none⟩ = some (.slice none 0 0) := (bc_ BK431.out 2).trans rfl
 have hfs17 := bf_ BK431.out 2
 have hns17_0 := NB430_431.out
 have hms17_0 := NB431_430.out
 have hs18 : w10.cell? ⟨gb431, 3, none⟩ = some (.slice none 0 0) := (bc_ BK431.out 3).trans rfl
 have hfs18 := bf_ BK431.out 3
 have hns18_0 := NB430_431.out
 have hms18_0 := NB431_430.out
 refine skip_ (w1 := ?_) (by rfl) rfl ?_ ?_
 rotate_left
 ·go_simp
  rfl
 refine hK.out _ _ ⟨((cell_far (p := ⟨gb431, _, none⟩) NB430_431.out _).trans (((cell_far (p := ⟨gb431, _, none⟩) NB430_431.out _).trans (((cell_far (p := ⟨gb431, _, none⟩) NB430_431.out _).trans (((cell_far (p := ⟨gb431, _, none⟩) NB430_431.out _).trans (hHeld.1)))))))), ((cell_far (p := ⟨gb431, _, none⟩) NB430_431.out _).trans (((cell_far (p := ⟨gb431, _, none⟩) NB430_431.out _).trans (((cell_far (p := ⟨gb431, _, none⟩) NB430_431.out _).trans (((cell_far (p := ⟨gb431, _, none⟩) NB430_431.out _).trans (hHeld.2.1)))))))), ((cell_far (p := ⟨gb431, _, none⟩) NB430_431.out _).trans (((cell_far (p := ⟨gb431, _, none⟩) NB430_431.out _).trans (((cell_far (p := ⟨gb431, _, none⟩) NB430_431.out _).trans (((cell_far (p := ⟨gb431, _, none⟩) NB430_431.out _).trans (hHeld.2.2.1)))))))), ((cell_far (p := ⟨gb431, _, none⟩) NB430_431.out _).trans (((cell_far (p := ⟨gb431, _, none⟩) NB430_431.out _).trans (((cell_far (p := ⟨gb431, _, none⟩) NB430_431.out _).trans (((cell_far (p := ⟨gb431, _, none⟩) NB430_431.out _).trans (hHeld.2.2.2))))))))⟩ (fun hHeld => ?_)
 clear hK K
 refine done_ (done_of HT_.out (by kernel_rfl)) ?_
 try go_wp2
 refine bodyPost_ret (results_cell_row rfl _ _ gb431 53 #[.slice Ao14 t432.length co14, .slice Ao13 t435.length co13, .slice Ao12 t438.length co12, .slice Ao11 t441.length co11] (0, 0) _ rfl (by (repeat apply bX); refine bp_ (cs := #[.slice Ao14 t432.length co14, .slice Ao13 t435.length co13, .slice Ao12 t438.length co12, .slice none 0 0]) ?_ 3 _ rfl; (repeat apply bX); refine bp_ (cs := #[.slice Ao14 t432.length co14, .slice Ao13 t435.length co13, .slice none 0 0, .slice none 0 0]) ?_ 2 _ rfl; (repeat apply bX); refine bp_ (cs := #[.slice Ao14 t432.length co14, .slice none 0 0, .slice none 0 0, .slice none 0 0]) ?_ 1 _ rfl; (repeat apply bX); refine bp_ (cs := #[.slice none 0 0, .slice none 0 0, .slice none 0 0, .slice none 0 0]) ?_ 0 _ rfl; (repeat apply bX); exact BK431.out) Try.underlying53 rfl (by kernel_rfl)) rfl ?_
 exact ⟨_, _, _, _, by first | rfl | (simp [errW_none, errW_some] <;> rfl) | (simp [*, errW_none, errW_some] <;> rfl), by (with_reducible repeat (first | apply Kd.S_alloc | apply Kd.S_drewN | apply Kd.S_drew)); exact Kd.S_mono (Kd.S_far (p := ⟨gb431, 3, none⟩) (Kd.S_far (p := ⟨gb431, 2, none⟩) (Kd.S_far (p := ⟨gb431, 1, none⟩) (Kd.S_far (p := ⟨gb431, 0, none⟩) (Kd.S_types HO434.out BK431.out (by decide)) (fun _ hk => hk.2) (.slice Ao14 t432.length co14)) (fun _ hk => hk.2) (.slice Ao13 t435.length co13)) (fun _ hk => hk.2) (.slice Ao12 t438.length co12)) (fun _ hk => hk.2) (.slice Ao11 t441.length co11)) (fun _ hk => ⟨hk.1.1.1.2, ⟨hk.1.1.2, hk.1.2⟩⟩), by (repeat apply rX); exact Kd.R_mono (Kd.R_far (p := ⟨gb431, 3, none⟩) (Kd.R_far (p := ⟨gb431, 2, none⟩) (Kd.R_far (p := ⟨gb431, 1, none⟩) (Kd.R_far (p := ⟨gb431, 0, none⟩) (Kd.R_types HO437.out BK431.out (by decide)) (fun _ hk => hk.2) (.slice Ao14 t432.length co14)) (fun _ hk => hk.2) (.slice Ao13 t435.length co13)) (fun _ hk => hk.2) (.slice Ao12 t438.length co12)) (fun _ hk => hk.2) (.slice Ao11 t441.length co11)) (fun _ hk => hk.1), by (repeat apply rX); exact Kd.R_mono (Kd.R_far (p := ⟨gb431, 3, none⟩) (Kd.R_far (p := ⟨gb431, 2, none⟩) (Kd.R_far (p := ⟨gb431, 1, none⟩) (Kd.R_far (p := ⟨gb431, 0, none⟩) (Kd.R_types HO440.out BK431.out (by decide)) (fun _ hk => hk.2) (.slice Ao14 t432.length co14)) (fun _ hk => hk.2) (.slice Ao13 t435.length co13)) (fun _ hk => hk.2) (.slice Ao12 t438.length co12)) (fun _ hk => hk.2) (.slice Ao11 t441.length co11)) (fun _ hk => hk.1), by (with_reducible repeat (first | apply Kd.S_alloc | apply Kd.S_drewN | apply Kd.S_drew)); exact Kd.S_mono (Kd.S_far (p := ⟨gb431, 3, none⟩) (Kd.S_far (p := ⟨gb431, 2, none⟩) (Kd.S_far (p := ⟨gb431, 1, none⟩) (Kd.S_far (p := ⟨gb431, 0, none⟩) (Kd.S_types HO443.out BK431.out (by decide)) (fun _ hk => hk.2) (.slice Ao14 t432.length co14)) (fun _ hk => hk.2) (.slice Ao13 t435.length co13)) (fun _ hk => hk.2) (.slice Ao12 t438.length co12)) (fun _ hk => hk.2) (.slice Ao11 t441.length co11)) (fun _ hk => ⟨hk.1.1.1.2, ⟨hk.1.1.2, hk.1.2⟩⟩), by repeat (first | (with_reducible first | exact HB.out | apply ba_ | apply bd_ | apply be_ | refine bs_ ?_ GE430.out | refine bs_ ?_ GE431.out) | exact HB.out)⟩
/-! ### impl_SpendCredits: function 82 -/
def impl_SpendCredits.f (k : Nat) (l0_0 : List Int) (l0_1 : List Int) (a1_0 : Int) (a1_1 : Int) (a1_2 : Int) (a1_3 : Int) (a1_4 : Int) (a1_5 : Int) (a1_6 : Int) (l1_7 : List Int) : Option (List Int × List Int × Bool) := (impl_copyCredits.f l0_0 l0_1).bind fun bt447 => ((impl_CanSend.f k l0_0 l0_1 a1_0 a1_1 a1_2 a1_3 a1_4 a1_5 a1_6 l1_7).bind fun t454 => (if t454 = true then ((impl_ClassOf.f k a1_0 a1_1 a1_2 a1_3 a1_4 a1_5 a1_6 l1_7).bind fun t455 => (if 0 ≤ t455 then (if t455 < (bt447.1.length : Int) then (if t455 < (bt447.2.length : Int) then ((impl_PacketUnits.f k a1_0 a1_1 a1_2 a1_3 a1_4 a1_5 a1_6 l1_7).bind fun t459 => (some ((bt447.1.set (t455 : Int).toNat (wrap64 ((rd bt447.1 t455) - 1))), (bt447.2.set (t455 : Int).toNat (wrap64 ((rd bt447.2 t455) - t459))), true))) else (none)) else (none)) else (none))) else (some (bt447.1, bt447.2, false))))
def impl_SpendCredits.T6 : Bool × List (List Nat × List Nat) := (true, [([], []), ([0], [0]), ([], []), ([1, 2], [1, 2]), ([3], [3]), ([], []), ([5], [5]), ([4, 6], [4, 6]), ([1, 2, 0, 1, 2, 3, 4, 5, 6, 7], [1, 2]), ([8, 7, 6, 0, 1, 2, 3, 4, 5, 6, 7], [7, 8])])
def impl_SpendCredits.B6 : List Nat := [0, 1, 0, 7, 15, 0, 32, 127, 255, 511]
theorem impl_SpendCredits.tab6 : rtab .any (opsOf Try.f82 6) = impl_SpendCredits.T6 := by kernel_rfl
theorem impl_SpendCredits.bits6 : waitsOk impl_SpendCredits.T6.2 impl_SpendCredits.B6 = true := by kernel_rfl
set_option maxHeartbeats 8000000 in
set_option maxRecDepth 100000 in
theorem impl_SpendCredits.calls (k : Nat) (A0_0 : Option Addr) (c0_0 : Nat) (l0_0 : List Int) (A0_1 : Option Addr) (c0_1 : Nat) (l0_1 : List Int) (a1_0 : Int) (a1_1 : Int) (a1_2 : Int) (a1_3 : Int) (a1_4 : Int) (a1_5 : Int) (a1_6 : Int) (A1_7 : Option Addr) (c1_7 : Nat) (l1_7 : List Int) (r1 : List Int) (r2 : List Int) (r3 : Bool) (w : World) (hr0_0 : Kd.C (Kd.int .i64) w A0_0 l0_0.length l0_0) (hc0_0 : l0_0.length ≤ c0_0) (hr0_1 : Kd.C (Kd.int .i64) w A0_1 l0_1.length l0_1) (hc0_1 : l0_1.length ≤ c0_1) (hr1_7 : Kd.C (Kd.int .i64) w A1_7 l1_7.length l1_7) (hc1_7 : l1_7.length ≤ c1_7) (h : impl_SpendCredits.f k l0_0 l0_1 a1_0 a1_1 a1_2 a1_3 a1_4 a1_5 a1_6 l1_7 = some (r1, r2, r3)) :
  Calls Try.prog 82 #[.agg #[.slice A0_0 l0_0.length c0_0, .slice A0_1 l0_1.length c0_1], .agg #[.int .i64 a1_0, .int .i64 a1_1, .int .i64 a1_2, .int .i64 a1_3, .int .i64 a1_4, .int .i64 a1_5, .int .i64 a1_6, .slice A1_7 l1_7.length c1_7]] w fun e w' => ∃ v0_ v1_ : Value, e = .returned (.tuple #[.agg #[v0_, v1_], .bool r3]) ∧ Kd.R (Kd.int .i64) 3 w' w.heap.size (fun k_ => some k_ ≠ (v1_ : Value).ownBlock) v0_ r1 ∧ Kd.R (Kd.int .i64) 3 w' w.heap.size (fun k_ => some k_ ≠ (v0_ : Value).ownBlock) v1_ r2 ∧ Below w.heap.size w w' := by
 have hu26 := Try.underlying26
 have hu60 := Try.underlying60
 have HR0_0 := Aside0.mk hr0_0
 have HC0_0 := Aside0.mk hc0_0
 clear hr0_0 hc0_0
 have HR0_1 := Aside0.mk hr0_1
 have HC0_1 := Aside0.mk hc0_1
 clear hr0_1 hc0_1
 have HR1_7 := Aside0.mk hr1_7
 have HC1_7 := Aside0.mk hc1_7
 clear hr1_7 hc1_7
 have HB := Aside0.mk (Below.refl w.heap.size w)
 have H : ((impl_copyCredits.f l0_0 l0_1).bind fun bt447 => ((impl_CanSend.f k l0_0 l0_1 a1_0 a1_1 a1_2 a1_3 a1_4 a1_5 a1_6 l1_7).bind fun t454 => (if t454 = true then ((impl_ClassOf.f k a1_0 a1_1 a1_2 a1_3 a1_4 a1_5 a1_6 l1_7).bind fun t455 => (if 0 ≤ t455 then (if t455 < (bt447.1.length : Int) then (if t455 < (bt447.2.length : Int) then ((impl_PacketUnits.f k a1_0 a1_1 a1_2 a1_3 a1_4 a1_5 a1_6 l1_7).bind fun t459 => (some ((bt447.1.set (t455 : Int).toNat (wrap64 ((rd bt447.1 t455) - 1))), (bt447.2.set (t455 : Int).toNat (wrap64 ((rd bt447.2 t455) - t459))), true))) else (none)) else (none)) else (none))) else (some (bt447.1, bt447.2, false))))) = some (r1, r2, r3) := h
 clear h
 replace H := Option.bind_eq_some_iff.mp H
 obtain ⟨⟨t447, t450⟩, A30, H⟩ := H
 replace H : ((impl_CanSend.f k l0_0 l0_1 a1_0 a1_1 a1_2 a1_3 a1_4 a1_5 a1_6 l1_7).bind fun t454 => (if t454 = true then ((impl_ClassOf.f k a1_0 a1_1 a1_2 a1_3 a1_4 a1_5 a1_6 l1_7).bind fun t455 => (if 0 ≤ t455 then (if t455 < (t447.length : Int) then (if t455 < (t450.length : Int) then ((impl_PacketUnits.f k a1_0 a1_1 a1_2 a1_3 a1_4 a1_5 a1_6 l1_7).bind fun t459 => (some ((t447.set (t455 : Int).toNat (wrap64 ((rd t447 t455) - 1))), (t450.set (t455 : Int).toNat (wrap64 ((rd t450 t455) - t459))), true))) else (none)) else (none)) else (none))) else (some (t447, t450, false)))) = some (r1, r2, r3) := H
 have A3 := Aside0.mk A30
 clear A30
 replace H := Option.bind_eq_some_iff.mp H
 obtain ⟨t454, A40, H⟩ := H
 have A4 := Aside0.mk A40
 clear A40
 by_cases c5 : t454 = true
 rotate_left
 ·replace c5 := Bool.eq_false_iff.mpr c5
  subst c5
  have H1 : (some (t447, t450, false)) = some (r1, r2, r3) := by rw [if_neg (show ¬ (false = true) by decide)] at H; exact H
  clear H
  have H := H1
  clear H1
  simp only [Option.some.injEq, Prod.mk.injEq] at H
  obtain ⟨rfl, rfl, rfl⟩ := H
  go_enter Try.func82, Try.ntmps82
  go_wp2_with (first | ((with_reducible refine gd_ (N := 2) rfl ?_); refine bx_ ?hg (N := 2) ?hd (cs := #[.slice A0_0 l0_0.length c0_0, .slice A0_1 l0_1.length c0_1]) (t := 26) ?hr ?_; (case hd => rfl); (case hg => rfl); (case hr => first | (go_simp; done) | (go_simp; rfl)); intro gb444 hg w42 hbox hb; have n0_ := Aside0.mk (bt_ (beY HB.out) hb); have n1_ := Aside0.mk (hbox); have n2_ := Aside0.mk ((by rw [hg]; exact (bz_ (beY HB.out)) : w.heap.size ≤ gb444)); have n3_ := Aside0.mk ((by rw [hg]; exact (bz_ (beY HB.out)) : w.heap.size ≤ gb444)); clear HB; have HB := n0_; have BK444 := n1_; have GW444 := n2_; have GE444 := n3_; clear n0_ n1_ n2_ n3_ hb hbox hg) | ((with_reducible refine gd_ (N := 3) rfl ?_); refine bx_ ?hg (N := 3) ?hd (cs := #[.int .i64 a1_0, .int .i64 a1_1, .int .i64 a1_2, .int .i64 a1_3, .int .i64 a1_4, .int .i64 a1_5, .int .i64 a1_6, .slice A1_7 l1_7.length c1_7]) (t := 60) ?hr ?_; (case hd => rfl); (case hg => rfl); (case hr => first | (go_simp; done) | (go_simp; rfl)); intro gb445 hg w43 hbox hb; have n0_ := Aside0.mk (bb_ (bY BK444.out) hb); have n1_ := Aside0.mk (bt_ (by repeat (first | (with_reducible first | exact HB.out | apply ba_ | apply bd_ | apply be_ | refine bs_ ?_ GE444.out) | exact HB.out)) hb); have n2_ := Aside0.mk (hbox); have n3_ := Aside0.mk ((by rw [hg]; exact (bz_ (by repeat (first | (with_reducible first | exact HB.out | apply ba_ | apply bd_ | apply be_ | refine bs_ ?_ GE444.out) | exact HB.out))) : w.heap.size ≤ gb445)); have n4_ := Aside0.mk ((by rw [hg]; exact (bz_ (by repeat (first | (with_reducible first | exact HB.out | apply ba_ | apply bd_ | apply be_ | refine bs_ ?_ GE444.out) | exact HB.out))) : w.heap.size ≤ gb445)); have n5_ := Aside0.mk ((by rw [hg]; exact Nat.ne_of_lt (blk_lt (bY BK444.out)) : gb444 ≠ gb445)); have n6_ := Aside0.mk ((by rw [hg]; exact Nat.ne_of_gt (blk_lt (bY BK444.out)) : gb445 ≠ gb444)); clear BK444 HB; have BK444 := n0_; have HB := n1_; have BK445 := n2_; have GW445 := n3_; have GE445 := n4_; have NB444_445 := n5_; have NB445_444 := n6_; clear n0_ n1_ n2_ n3_ n4_ n5_ n6_ hb hbox hg) | ((with_reducible refine gd_ (N := 4) rfl ?_); refine bx_ ?hg (N := 4) ?hd (cs := #[.slice none 0 0, .slice none 0 0]) (t := 26) ?hr ?_; (case hd => rfl); (case hg => rfl); (case hr => first | (go_simp; done) | (go_simp; rfl)); intro gb446 hg w44 hbox hb; have n0_ := Aside0.mk (bb_ (bY BK444.out) hb); have n1_ := Aside0.mk (bb_ (bY BK445.out) hb); have n2_ := Aside0.mk (bt_ (by repeat (first | (with_reducible first | exact HB.out | apply ba_ | apply bd_ | apply be_ | refine bs_ ?_ GE444.out | refine bs_ ?_ GE445.out) | exact HB.out)) hb); have n3_ := Aside0.mk (hbox); have n4_ := Aside0.mk ((by rw [hg]; exact (bz_ (by repeat (first | (with_reducible first | exact HB.out | apply ba_ | apply bd_ | apply be_ | refine bs_ ?_ GE444.out | refine bs_ ?_ GE445.out) | exact HB.out))) : w.heap.size ≤ gb446)); have n5_ := Aside0.mk ((by rw [hg]; exact (bz_ (by repeat (first | (with_reducible first | exact HB.out | apply ba_ | apply bd_ | apply be_ | refine bs_ ?_ GE444.out | refine bs_ ?_ GE445.out) | exact HB.out))) : w.heap.size ≤ gb446)); have n6_ := Aside0.mk ((by rw [hg]; exact Nat.ne_of_lt (blk_lt (bY BK444.out)) : gb444 ≠ gb446)); have n7_ := Aside0.mk ((by rw [hg]; exact Nat.ne_of_gt (blk_lt (bY BK444.out)) : gb446 ≠ gb444)); have n8_ := Aside0.mk ((by rw [hg]; exact Nat.ne_of_lt (blk_lt (bY BK445.out)) : gb445 ≠ gb446)); have n9_ := Aside0.mk ((by rw [hg]; exact Nat.ne_of_gt (blk_lt (bY BK445.out)) : gb446 ≠ gb445)); clear BK444 BK445 HB; have BK444 := n0_; have BK445 := n1_; have HB := n2_; have BK446 := n3_; have GW446 := n4_; have GE446 := n5_; have NB444_446 := n6_; have NB446_444 := n7_; have NB445_446 := n8_; have NB446_445 := n9_; clear n0_ n1_ n2_ n3_ n4_ n5_ n6_ n7_ n8_ n9_ hb hbox hg; have hnb45 := NB444_445.out; have hnc45 := NB445_444.out; have hnb46 := NB444_446.out; have hnc46 := NB446_444.out; have hcz47_0 : w44.cell? ⟨gb444, 0, none⟩ = some (.slice A0_0 l0_0.length c0_0) := (bc_ BK444.out 0).trans rfl; have hcz47_1 : w44.cell? ⟨gb444, 1, none⟩ = some (.slice A0_1 l0_1.length c0_1) := (bc_ BK444.out 1).trans rfl; have hfz47_0 := bf_ BK444.out 0; have hfz47_1 := bf_ BK444.out 1) | ((with_reducible refine gc_ (f := 44) rfl ?_); refine goesL_ (some 9) rfl rfl Try.func44 (by kernel_rfl) rfl #[.agg #[.slice A0_0 l0_0.length c0_0, .slice A0_1 l0_1.length c0_1]] rfl (by (try simp only [List.map_toArray, List.map_cons, List.map_nil]); first | done | rfl) ?_; (with_reducible refine (impl_copyCredits.calls _ _ l0_0 _ _ l0_1 t447 t450 _ ?side1 ?side2 ?side3 ?side4 A3.out).mono ?_); (case side1 => exact cY ((Kd.C_below HR0_0.out HB.out))); (case side2 => exact HC0_0.out); (case side3 => exact cY ((Kd.C_below HR0_1.out HB.out))); (case side4 => exact HC0_1.out); rintro e w48 ⟨v448, v451, rfl, ho0, ho1, hb⟩; refine ⟨_, rfl, ?_⟩; have n0_ := Aside0.mk (Kd.R_lower ho0 (bz_ (by repeat (first | (with_reducible first | exact HB.out | apply ba_ | apply bd_ | apply be_ | refine bs_ ?_ GE444.out | refine bs_ ?_ GE445.out | refine bs_ ?_ GE446.out) | exact HB.out)))); have n1_ := Aside0.mk (Kd.R_lower ho1 (bz_ (by repeat (first | (with_reducible first | exact HB.out | apply ba_ | apply bd_ | apply be_ | refine bs_ ?_ GE444.out | refine bs_ ?_ GE445.out | refine bs_ ?_ GE446.out) | exact HB.out)))); have n2_ := Aside0.mk (bb_ (bY BK444.out) hb); have n3_ := Aside0.mk (bb_ (bY BK445.out) hb); have n4_ := Aside0.mk (bb_ (bY BK446.out) hb); have n5_ := Aside0.mk (bt_ (by repeat (first | (with_reducible first | exact HB.out | apply ba_ | apply bd_ | apply be_ | refine bs_ ?_ GE444.out | refine bs_ ?_ GE445.out | refine bs_ ?_ GE446.out) | exact HB.out)) hb); clear BK444 BK445 BK446 HB; have HO449 := n0_; have HO452 := n1_; have BK444 := n2_; have BK445 := n3_; have BK446 := n4_; have HB := n5_; clear n0_ n1_ n2_ n3_ n4_ n5_; (try clear hb); (try clear hb2); (try clear hk); (try clear hi); (try clear ho0); (try clear ho1)) | ((with_reducible refine gd_ (N := 6) rfl ?_); refine bx_ ?hg (N := 6) ?hd (cs := #[.slice none 0 0, .slice none 0 0]) (t := 26) ?hr ?_; (case hd => rfl); (case hg => rfl); (case hr => first | (go_simp; done) | (go_simp; rfl)); intro gb453 hg w49 hbox hb; have n0_ := Aside0.mk (Kd.R_below (rY HO449.out) hb); have n1_ := Aside0.mk (Kd.R_below (rY HO452.out) hb); have n2_ := Aside0.mk (bb_ (bY BK444.out) hb); have n3_ := Aside0.mk (bb_ (bY BK445.out) hb); have n4_ := Aside0.mk (bb_ (bY BK446.out) hb); have n5_ := Aside0.mk (bt_ (by repeat (first | (with_reducible first | exact HB.out | apply ba_ | apply bd_ | apply be_ | refine bs_ ?_ GE444.out | refine bs_ ?_ GE445.out | refine bs_ ?_ GE446.out) | exact HB.out)) hb); have n6_ := Aside0.mk (hbox); have n7_ := Aside0.mk ((by rw [hg]; exact (bz_ (by repeat (first | (with_reducible first | exact HB.out | apply ba_ | apply bd_ | apply be_ | refine bs_ ?_ GE444.out | refine bs_ ?_ GE445.out | refine bs_ ?_ GE446.out) | exact HB.out))) : w.heap.size ≤ gb453)); have n8_ := Aside0.mk ((by rw [hg]; exact (bz_ (by repeat (first | (with_reducible first | exact HB.out | apply ba_ | apply bd_ | apply be_ | refine bs_ ?_ GE444.out | refine bs_ ?_ GE445.out | refine bs_ ?_ GE446.out) | exact HB.out))) : w.heap.size ≤ gb453)); have n9_ := Aside0.mk ((by rw [hg]; exact Nat.ne_of_lt (blk_lt (bY BK444.out)) : gb444 ≠ gb453)); have n10_ := Aside0.mk ((by rw [hg]; exact Nat.ne_of_gt (blk_lt (bY BK444.out)) : gb453 ≠ gb444)); have n11_ := Aside0.mk ((by rw [hg]; exact Nat.ne_of_lt (blk_lt (bY BK445.out)) : gb445 ≠ gb453)); have n12_ := Aside0.mk ((by rw [hg]; exact Nat.ne_of_gt (blk_lt (bY BK445.out)) : gb453 ≠ gb445)); have n13_ := Aside0.mk ((by rw [hg]; exact Nat.ne_of_lt (blk_lt (bY BK446.out)) : gb446 ≠ gb453)); have n14_ := Aside0.mk ((by rw [hg]; exact Nat.ne_of_gt (blk_lt (bY BK446.out)) : gb453 ≠ gb446)); clear HO449 HO452 BK444 BK445 BK446 HB; have HO449 := n0_; have HO452 := n1_; have BK444 := n2_; have BK445 := n3_; have BK446 := n4_; have HB := n5_; have BK453 := n6_; have GW453 := n7_; have GE453 := n8_; have NB444_453 := n9_; have NB453_444 := n10_; have NB445_453 := n11_; have NB453_445 := n12_; have NB446_453 := n13_; have NB453_446 := n14_; clear n0_ n1_ n2_ n3_ n4_ n5_ n6_ n7_ n8_ n9_ n10_ n11_ n12_ n13_ n14_ hb hbox hg; obtain ⟨Ao50, co50, eo50⟩ := Kd.R_slice HO449.out; subst eo50; have hnb51 := NB453_444.out; have hnc51 := NB444_453.out; have hnb52 := NB453_445.out; have hnc52 := NB445_453.out; have hnb53 := NB453_446.out; have hnc53 := NB446_453.out; have hcz54_0 : w49.cell? ⟨gb453, 0, none⟩ = some (.slice none 0 0) := (bc_ BK453.out 0).trans rfl; have hcz54_1 : w49.cell? ⟨gb453, 1, none⟩ = some (.slice none 0 0) := (bc_ BK453.out 1).trans rfl; have hfz54_0 := bf_ BK453.out 0; have hfz54_1 := bf_ BK453.out 1; obtain ⟨Ao55, co55, eo55⟩ := Kd.R_slice HO452.out; subst eo55; have hcz56_0 : w49.cell? ⟨gb444, 0, none⟩ = some (.slice A0_0 l0_0.length c0_0) := (bc_ BK444.out 0).trans rfl; have hcz56_1 : w49.cell? ⟨gb444, 1, none⟩ = some (.slice A0_1 l0_1.length c0_1) := (bc_ BK444.out 1).trans rfl; have hfz56_0 := bf_ BK444.out 0; have hfz56_1 := bf_ BK444.out 1; have hnb57 := NB445_446.out; have hnc57 := NB446_445.out; have hcz58_0 : w49.cell? ⟨gb445, 0, none⟩ = some (.int .i64 a1_0) := (bc_ BK445.out 0).trans rfl; have hcz58_1 : w49.cell? ⟨gb445, 1, none⟩ = some (.int .i64 a1_1) := (bc_ BK445.out 1).trans rfl; have hcz58_2 : w49.cell? ⟨gb445, 2, none⟩ = some (.int .i64 a1_2) := (bc_ BK445.out 2).trans rfl; have hcz58_3 : w49.cell? ⟨gb445, 3, none⟩ = some (.int .i64 a1_3) := (bc_ BK445.out 3).trans rfl; have hcz58_4 : w49.cell? ⟨gb445, 4, none⟩ = some (.int .i64 a1_4) := (bc_ BK445.out 4).trans rfl; have hcz58_5 : w49.cell? ⟨gb445, 5, none⟩ = some (.int .i64 a1_5) := (bc_ BK445.out 5).trans rfl; have hcz58_6 : w49.cell? ⟨gb445, 6, none⟩ = some (.int .i64 a1_6) := (bc_ BK445.out 6).trans rfl; have hcz58_7 : w49.cell? ⟨gb445, 7, none⟩ = some (.slice A1_7 l1_7.length c1_7) := (bc_ BK445.out 7).trans rfl; have hfz58_0 := bf_ BK445.out 0; have hfz58_1 := bf_ BK445.out 1; have hfz58_2 := bf_ BK445.out 2; have hfz58_3 := bf_ BK445.out 3; have hfz58_4 := bf_ BK445.out 4; have hfz58_5 := bf_ BK445.out 5; have hfz58_6 := bf_ BK445.out 6; have hfz58_7 := bf_ BK445.out 7) | ((with_reducible refine gc_ (f := 64) rfl ?_); refine goesL_ (some 12) rfl rfl Try.func64 (by kernel_rfl) rfl #[.agg #[.slice A0_0 l0_0.length c0_0, .slice A0_1 l0_1.length c0_1], .agg #[.int .i64 a1_0, .int .i64 a1_1, .int .i64 a1_2, .int .i64 a1_3, .int .i64 a1_4, .int .i64 a1_5, .int .i64 a1_6, .slice A1_7 l1_7.length c1_7]] rfl (by (try simp only [List.map_toArray, List.map_cons, List.map_nil]); first | done | rfl) ?_; (with_reducible refine (impl_CanSend.calls k _ _ l0_0 _ _ l0_1 a1_0 a1_1 a1_2 a1_3 a1_4 a1_5 a1_6 _ _ l1_7 false _ ?side1 ?side2 ?side3 ?side4 ?side5 ?side6 A4.out).mono ?_); (case side1 => exact Kd.C_below HR0_0.out (by repeat (first | (with_reducible first | exact HB.out | apply ba_ | apply bd_ | apply be_ | refine bs_ ?_ GE444.out | refine bs_ ?_ GE445.out | refine bs_ ?_ GE446.out | refine bs_ ?_ GE453.out) | exact HB.out))); (case side2 => exact HC0_0.out); (case side3 => exact Kd.C_below HR0_1.out (by repeat (first | (with_reducible first | exact HB.out | apply ba_ | apply bd_ | apply be_ | refine bs_ ?_ GE444.out | refine bs_ ?_ GE445.out | refine bs_ ?_ GE446.out | refine bs_ ?_ GE453.out) | exact HB.out))); (case side4 => exact HC0_1.out); (case side5 => exact Kd.C_below HR1_7.out (by repeat (first | (with_reducible first | exact HB.out | apply ba_ | apply bd_ | apply be_ | refine bs_ ?_ GE444.out | refine bs_ ?_ GE445.out | refine bs_ ?_ GE446.out | refine bs_ ?_ GE453.out) | exact HB.out))); (case side6 => exact HC1_7.out); rintro e w59 ⟨rfl, hb⟩; refine ⟨_, rfl, ?_⟩; have n0_ := Aside0.mk (Kd.R_below (by (repeat apply rX); exact (Kd.R_mono (Kd.R_far (p := ⟨gb453, 1, none⟩) (Kd.R_far (p := ⟨gb453, 0, none⟩) (Kd.R_types HO449.out BK453.out (by decide)) (fun _ hk => hk.2) (.slice Ao50 t447.length co50)) (fun _ hk => hk.2) (.slice Ao55 t450.length co55)) (fun _ h_ => h_.1))) hb); have n1_ := Aside0.mk (Kd.R_below (by (repeat apply rX); exact (Kd.R_mono (Kd.R_far (p := ⟨gb453, 1, none⟩) (Kd.R_far (p := ⟨gb453, 0, none⟩) (Kd.R_types HO452.out BK453.out (by decide)) (fun _ hk => hk.2) (.slice Ao50 t447.length co50)) (fun _ hk => hk.2) (.slice Ao55 t450.length co55)) (fun _ h_ => h_.1))) hb); have n2_ := Aside0.mk (bb_ (g := gb444) (o := .cells #[.slice A0_0 l0_0.length c0_0, .slice A0_1 l0_1.length c0_1] 26 (0, 0)) (by (repeat apply bX); refine blk_far ?_ NB444_453.out _; (repeat apply bX); refine blk_far ?_ NB444_453.out _; (repeat apply bX); exact BK444.out) hb); have n3_ := Aside0.mk (bb_ (g := gb445) (o := .cells #[.int .i64 a1_0, .int .i64 a1_1, .int .i64 a1_2, .int .i64 a1_3, .int .i64 a1_4, .int .i64 a1_5, .int .i64 a1_6, .slice A1_7 l1_7.length c1_7] 60 (0, 0)) (by (repeat apply bX); refine blk_far ?_ NB445_453.out _; (repeat apply bX); refine blk_far ?_ NB445_453.out _; (repeat apply bX); exact BK445.out) hb); have n4_ := Aside0.mk (bb_ (g := gb446) (o := .cells #[.slice none 0 0, .slice none 0 0] 26 (0, 0)) (by (repeat apply bX); refine blk_far ?_ NB446_453.out _; (repeat apply bX); refine blk_far ?_ NB446_453.out _; (repeat apply bX); exact BK446.out) hb); have n5_ := Aside0.mk (bb_ (g := gb453) (o := .cells #[.slice Ao50 t447.length co50, .slice Ao55 t450.length co55] 26 (0, 0)) (by (repeat apply bX); refine bp_ (cs := #[.slice Ao50 t447.length co50, .slice none 0 0]) ?_ 1 _ rfl; (repeat apply bX); refine bp_ (cs := #[.slice none 0 0, .slice none 0 0]) ?_ 0 _ rfl; (repeat apply bX); exact BK453.out) hb); have n6_ := Aside0.mk (bt_ (by repeat (first | (with_reducible first | exact HB.out | apply ba_ | apply bd_ | apply be_ | refine bs_ ?_ GE444.out | refine bs_ ?_ GE445.out | refine bs_ ?_ GE446.out | refine bs_ ?_ GE453.out) | exact HB.out)) hb); clear HO449 HO452 BK444 BK445 BK446 BK453 HB; have HO449 := n0_; have HO452 := n1_; have BK444 := n2_; have BK445 := n3_; have BK446 := n4_; have BK453 := n5_; have HB := n6_; clear n0_ n1_ n2_ n3_ n4_ n5_ n6_; (try clear hb); (try clear hb2); (try clear hk); (try clear hi); have hcz60_0 : w59.cell? ⟨gb453, 0, none⟩ = some (.slice Ao50 t447.length co50) := (bc_ BK453.out 0).trans rfl; have hcz60_1 : w59.cell? ⟨gb453, 1, none⟩ = some (.slice Ao55 t450.length co55) := (bc_ BK453.out 1).trans rfl; have hfz60_0 := bf_ BK453.out 0; have hfz60_1 := bf_ BK453.out 1; have hcz61_0 : w59.cell? ⟨gb446, 0, none⟩ = some (.slice none 0 0) := (bc_ BK446.out 0).trans rfl; have hcz61_1 : w59.cell? ⟨gb446, 1, none⟩ = some (.slice none 0 0) := (bc_ BK446.out 1).trans rfl; have hfz61_0 := bf_ BK446.out 0; have hfz61_1 := bf_ BK446.out 1))
  refine bodyPost_ret (results_ct rfl _ _ gb446 26 #[.slice Ao50 t447.length co50, .slice Ao55 t450.length co55] (0, 0) _ rfl (by (repeat apply bX); refine bp_ (cs := #[.slice Ao50 t447.length co50, .slice none 0 0]) ?_ 1 _ rfl; (repeat apply bX); refine bp_ (cs := #[.slice none 0 0, .slice none 0 0]) ?_ 0 _ rfl; (repeat apply bX); exact BK446.out) Try.underlying26 rfl (by kernel_rfl)) rfl ?_
  exact ⟨_, _, by first | rfl | (simp [errW_none, errW_some] <;> rfl) | (simp [*, errW_none, errW_some] <;> rfl), by (repeat apply rX); exact Kd.R_mono (Kd.R_far (p := ⟨gb446, 1, none⟩) (Kd.R_far (p := ⟨gb446, 0, none⟩) (Kd.R_types HO449.out BK446.out (by decide)) (fun _ hk => hk.2) (.slice Ao50 t447.length co50)) (fun _ hk => hk.2) (.slice Ao55 t450.length co55)) (fun _ hk => hk.1), by (repeat apply rX); exact Kd.R_mono (Kd.R_far (p := ⟨gb446, 1, none⟩) (Kd.R_far (p := ⟨gb446, 0, none⟩) (Kd.R_types HO452.out BK446.out (by decide)) (fun _ hk => hk.2) (.slice Ao50 t447.length co50)) (fun _ hk => hk.2) (.slice Ao55 t450.length co55)) (fun _ hk => hk.1), by repeat (first | (with_reducible first | exact HB.out | apply ba_ | apply bd_ | apply be_ | refine bs_ ?_ GE444.out | refine bs_ ?_ GE445.out | refine bs_ ?_ GE446.out | refine bs_ ?_ GE453.out) | exact HB.out)⟩
 subst c5
 have H1 : ((impl_ClassOf.f k a1_0 a1_1 a1_2 a1_3 a1_4 a1_5 a1_6 l1_7).bind fun t455 => (if 0 ≤ t455 then (if t455 < (t447.length : Int) then (if t455 < (t450.length : Int) then ((impl_PacketUnits.f k a1_0 a1_1 a1_2 a1_3 a1_4 a1_5 a1_6 l1_7).bind fun t459 => (some ((t447.set (t455 : Int).toNat (wrap64 ((rd t447 t455) - 1))), (t450.set (t455 : Int).toNat (wrap64 ((rd t450 t455) - t459))), true))) else (none)) else (none)) else (none))) = some (r1, r2, r3) := by rw [if_pos rfl] at H; exact H
 clear H
 have H := H1
 clear H1
 replace H := Option.bind_eq_some_iff.mp H
 obtain ⟨t455, A60, H⟩ := H
 have A6 := Aside0.mk A60
 clear A60
 by_cases c7 : 0 ≤ t455
 rotate_left
 ·rw [if_neg c7] at H
  exact absurd H (by simp)
 rw [if_pos c7] at H
 have c7b0 : decide (0 ≤ t455) = true := decide_eq_true c7
 clear c7
 by_cases c8 : t455 < (t447.length : Int)
 rotate_left
 ·rw [if_neg c8] at H
  exact absurd H (by simp)
 rw [if_pos c8] at H
 have c8b0 : decide (t455 < (t447.length : Int)) = true := decide_eq_true c8
 clear c8
 obtain ⟨y457, hy457⟩ : ∃ y_ : List Int, y_ = (t447.set (t455 : Int).toNat (wrap64 ((rd t447 t455) - 1))) := ⟨_, rfl⟩
 replace H : (if t455 < (t450.length : Int) then ((impl_PacketUnits.f k a1_0 a1_1 a1_2 a1_3 a1_4 a1_5 a1_6 l1_7).bind fun t459 => (some (y457, (t450.set (t455 : Int).toNat (wrap64 ((rd t450 t455) - t459))), true))) else (none)) = some (r1, r2, r3) := by first | (rw [hy457]; with_reducible exact H) | (have H2_ := (Option.bind_some _ _).symm.trans H; rw [hy457]; with_reducible exact H2_) | (have H2_ := (Option.bind_some _ _).symm.trans H; with_reducible exact H2_) | with_reducible exact H | (rw [hy457]; exact H) | exact H
 have Ny457 := Aside0.mk hy457
 clear hy457
 by_cases c10 : t455 < (t450.length : Int)
 rotate_left
 ·rw [if_neg c10] at H
  exact absurd H (by simp)
 rw [if_pos c10] at H
 have c10b0 : decide (t455 < (t450.length : Int)) = true := decide_eq_true c10
 clear c10
 replace H := Option.bind_eq_some_iff.mp H
 obtain ⟨t459, A110, H⟩ := H
 have A11 := Aside0.mk A110
 clear A110
 obtain ⟨y460, hy460⟩ : ∃ y_ : List Int, y_ = (t450.set (t455 : Int).toNat (wrap64 ((rd t450 t455) - t459))) := ⟨_, rfl⟩
 replace H : (some (y457, y460, true)) = some (r1, r2, r3) := by first | (rw [hy460]; with_reducible exact H) | (have H2_ := (Option.bind_some _ _).symm.trans H; rw [hy460]; with_reducible exact H2_) | (have H2_ := (Option.bind_some _ _).symm.trans H; with_reducible exact H2_) | with_reducible exact H | (rw [hy460]; exact H) | exact H
 have Ny460 := Aside0.mk hy460
 clear hy460
 simp only [Option.some.injEq, Prod.mk.injEq] at H
 obtain ⟨rfl, rfl, rfl⟩ := H
 go_enter Try.func82, Try.ntmps82
 try go_wp2_with (first | ((with_reducible refine gd_ (N := 2) rfl ?_); refine bx_ ?hg (N := 2) ?hd (cs := #[.slice A0_0 l0_0.length c0_0, .slice A0_1 l0_1.length c0_1]) (t := 26) ?hr ?_; (case hd => rfl); (case hg => rfl); (case hr => first | (go_simp; done) | (go_simp; rfl)); intro gb444 hg w13 hbox hb; have n0_ := Aside0.mk (bt_ (beY HB.out) hb); have n1_ := Aside0.mk (hbox); have n2_ := Aside0.mk ((by rw [hg]; exact (bz_ (beY HB.out)) : w.heap.size ≤ gb444)); have n3_ := Aside0.mk ((by rw [hg]; exact (bz_ (beY HB.out)) : w.heap.size ≤ gb444)); clear HB; have HB := n0_; have BK444 := n1_; have GW444 := n2_; have GE444 := n3_; clear n0_ n1_ n2_ n3_ hb hbox hg) | ((with_reducible refine gd_ (N := 3) rfl ?_); refine bx_ ?hg (N := 3) ?hd (cs := #[.int .i64 a1_0, .int .i64 a1_1, .int .i64 a1_2, .int .i64 a1_3, .int .i64 a1_4, .int .i64 a1_5, .int .i64 a1_6, .slice A1_7 l1_7.length c1_7]) (t := 60) ?hr ?_; (case hd => rfl); (case hg => rfl); (case hr => first | (go_simp; done) | (go_simp; rfl)); intro gb445 hg w14 hbox hb; have n0_ := Aside0.mk (bb_ (bY BK444.out) hb); have n1_ := Aside0.mk (bt_ (by repeat (first | (with_reducible first | exact HB.out | apply ba_ | apply bd_ | apply be_ | refine bs_ ?_ GE444.out) | exact HB.out)) hb); have n2_ := Aside0.mk (hbox); have n3_ := Aside0.mk ((by rw [hg]; exact (bz_ (by repeat (first | (with_reducible first | exact HB.out | apply ba_ | apply bd_ | apply be_ | refine bs_ ?_ GE444.out) | exact HB.out))) : w.heap.size ≤ gb445)); have n4_ := Aside0.mk ((by rw [hg]; exact (bz_ (by repeat (first | (with_reducible first | exact HB.out | apply ba_ | apply bd_ | apply be_ | refine bs_ ?_ GE444.out) | exact HB.out))) : w.heap.size ≤ gb445)); have n5_ := Aside0.mk ((by rw [hg]; exact Nat.ne_of_lt (blk_lt (bY BK444.out)) : gb444 ≠ gb445)); have n6_ := Aside0.mk ((by rw [hg]; exact Nat.ne_of_gt (blk_lt (bY BK444.out)) : gb445 ≠ gb444)); clear BK444 HB; have BK444 := n0_; have HB := n1_; have BK445 := n2_; have GW445 := n3_; have GE445 := n4_; have NB444_445 := n5_; have NB445_444 := n6_; clear n0_ n1_ n2_ n3_ n4_ n5_ n6_ hb hbox hg) | ((with_reducible refine gd_ (N := 4) rfl ?_); refine bx_ ?hg (N := 4) ?hd (cs := #[.slice none 0 0, .slice none 0 0]) (t := 26) ?hr ?_; (case hd => rfl); (case hg => rfl); (case hr => first | (go_simp; done) | (go_simp; rfl)); intro gb446 hg w15 hbox hb; have n0_ := Aside0.mk (bb_ (bY BK444.out) hb); have n1_ := Aside0.mk (bb_ (bY BK445.out) hb); have n2_ := Aside0.mk (bt_ (by repeat (first | (with_reducible first | exact HB.out | apply ba_ | apply bd_ | apply be_ | refine bs_ ?_ GE444.out | refine bs_ ?_ GE445.out) | exact HB.out)) hb); have n3_ := Aside0.mk (hbox); have n4_ := Aside0.mk ((by rw [hg]; exact (bz_ (by repeat (first | (with_reducible first | exact HB.out | apply ba_ | apply bd_ | apply be_ | refine bs_ ?_ GE444.out | refine bs_ ?_ GE445.out) | exact HB.out))) : w.heap.size ≤ gb446)); have n5_ := Aside0.mk ((by rw [hg]; exact (bz_ (by repeat (first | (with_reducible first | exact HB.out | apply ba_ | apply bd_ | apply be_ | refine bs_ ?_ GE444.out | refine bs_ ?_ GE445.out) | exact HB.out))) : w.heap.size ≤ gb446)); have n6_ := Aside0.mk ((by rw [hg]; exact Nat.ne_of_lt (blk_lt (bY BK444.out)) : gb444 ≠ gb446)); have n7_ := Aside0.mk ((by rw [hg]; exact Nat.ne_of_gt (blk_lt (bY BK444.out)) : gb446 ≠ gb444)); have n8_ := Aside0.mk ((by rw [hg]; exact Nat.ne_of_lt (blk_lt (bY BK445.out)) : gb445 ≠ gb446)); have n9_ := Aside0.mk ((by rw [hg]; exact Nat.ne_of_gt (blk_lt (bY BK445.out)) : gb446 ≠ gb445)); clear BK444 BK445 HB; have BK444 := n0_; have BK445 := n1_; have HB := n2_; have BK446 := n3_; have GW446 := n4_; have GE446 := n5_; have NB444_446 := n6_; have NB446_444 := n7_; have NB445_446 := n8_; have NB446_445 := n9_; clear n0_ n1_ n2_ n3_ n4_ n5_ n6_ n7_ n8_ n9_ hb hbox hg; have hnb16 := NB444_445.out; have hnc16 := NB445_444.out; have hnb17 := NB444_446.out; have hnc17 := NB446_444.out; have hcz18_0 : w15.cell? ⟨gb444, 0, none⟩ = some (.slice A0_0 l0_0.length c0_0) := (bc_ BK444.out 0).trans rfl; have hcz18_1 : w15.cell? ⟨gb444, 1, none⟩ = some (.slice A0_1 l0_1.length c0_1) := (bc_ BK444.out 1).trans rfl; have hfz18_0 := bf_ BK444.out 0; have hfz18_1 := bf_ BK444.out 1) | ((with_reducible refine gc_ (f := 44) rfl ?_); refine goesL_ (some 9) rfl rfl Try.func44 (by kernel_rfl) rfl #[.agg #[.slice A0_0 l0_0.length c0_0, .slice A0_1 l0_1.length c0_1]] rfl (by (try simp only [List.map_toArray, List.map_cons, List.map_nil]); first | done | rfl) ?_; (with_reducible refine (impl_copyCredits.calls _ _ l0_0 _ _ l0_1 t447 t450 _ ?side1 ?side2 ?side3 ?side4 A3.out).mono ?_); (case side1 => exact cY ((Kd.C_below HR0_0.out HB.out))); (case side2 => exact HC0_0.out); (case side3 => exact cY ((Kd.C_below HR0_1.out HB.out))); (case side4 => exact HC0_1.out); rintro e w19 ⟨v448, v451, rfl, ho0, ho1, hb⟩; refine ⟨_, rfl, ?_⟩; have n0_ := Aside0.mk (Kd.R_lower ho0 (bz_ (by repeat (first | (with_reducible first | exact HB.out | apply ba_ | apply bd_ | apply be_ | refine bs_ ?_ GE444.out | refine bs_ ?_ GE445.out | refine bs_ ?_ GE446.out) | exact HB.out)))); have n1_ := Aside0.mk (Kd.R_lower ho1 (bz_ (by repeat (first | (with_reducible first | exact HB.out | apply ba_ | apply bd_ | apply be_ | refine bs_ ?_ GE444.out | refine bs_ ?_ GE445.out | refine bs_ ?_ GE446.out) | exact HB.out)))); have n2_ := Aside0.mk (bb_ (bY BK444.out) hb); have n3_ := Aside0.mk (bb_ (bY BK445.out) hb); have n4_ := Aside0.mk (bb_ (bY BK446.out) hb); have n5_ := Aside0.mk (bt_ (by repeat (first | (with_reducible first | exact HB.out | apply ba_ | apply bd_ | apply be_ | refine bs_ ?_ GE444.out | refine bs_ ?_ GE445.out | refine bs_ ?_ GE446.out) | exact HB.out)) hb); clear BK444 BK445 BK446 HB; have HO449 := n0_; have HO452 := n1_; have BK444 := n2_; have BK445 := n3_; have BK446 := n4_; have HB := n5_; clear n0_ n1_ n2_ n3_ n4_ n5_; (try clear hb); (try clear hb2); (try clear hk); (try clear hi); (try clear ho0); (try clear ho1)) | ((with_reducible refine gd_ (N := 6) rfl ?_); refine bx_ ?hg (N := 6) ?hd (cs := #[.slice none 0 0, .slice none 0 0]) (t := 26) ?hr ?_; (case hd => rfl); (case hg => rfl); (case hr => first | (go_simp; done) | (go_simp; rfl)); intro gb453 hg w20 hbox hb; have n0_ := Aside0.mk (Kd.R_below (rY HO449.out) hb); have n1_ := Aside0.mk (Kd.R_below (rY HO452.out) hb); have n2_ := Aside0.mk (bb_ (bY BK444.out) hb); have n3_ := Aside0.mk (bb_ (bY BK445.out) hb); have n4_ := Aside0.mk (bb_ (bY BK446.out) hb); have n5_ := Aside0.mk (bt_ (by repeat (first | (with_reducible first | exact HB.out | apply ba_ | apply bd_ | apply be_ | refine bs_ ?_ GE444.out | refine bs_ ?_ GE445.out | refine bs_ ?_ GE446.out) | exact HB.out)) hb); have n6_ := Aside0.mk (hbox); have n7_ := Aside0.mk ((by rw [hg]; exact (bz_ (by repeat (first | (with_reducible first | exact HB.out | apply ba_ | apply bd_ | apply be_ | refine bs_ ?_ GE444.out | refine bs_ ?_ GE445.out | refine bs_ ?_ GE446.out) | exact HB.out))) : w.heap.size ≤ gb453)); have n8_ := Aside0.mk ((by rw [hg]; exact (bz_ (by repeat (first | (with_reducible first | exact HB.out | apply ba_ | apply bd_ | apply be_ | refine bs_ ?_ GE444.out | refine bs_ ?_ GE445.out | refine bs_ ?_ GE446.out) | exact HB.out))) : w.heap.size ≤ gb453)); have n9_ := Aside0.mk ((by rw [hg]; exact Nat.ne_of_lt (blk_lt (bY BK444.out)) : gb444 ≠ gb453)); have n10_ := Aside0.mk ((by rw [hg]; exact Nat.ne_of_gt (blk_lt (bY BK444.out)) : gb453 ≠ gb444)); have n11_ := Aside0.mk ((by rw [hg]; exact Nat.ne_of_lt (blk_lt (bY BK445.out)) : gb445 ≠ gb453)); have n12_ := Aside0.mk ((by rw [hg]; exact Nat.ne_of_gt (blk_lt (bY BK445.out)) : gb453 ≠ gb445)); have n13_ := Aside0.mk ((by rw [hg]; exact Nat.ne_of_lt (blk_lt (bY BK446.out)) : gb446 ≠ gb453)); have n14_ := Aside0.mk ((by rw [hg]; exact Nat.ne_of_gt (blk_lt (bY BK446.out)) : gb453 ≠ gb446)); clear HO449 HO452 BK444 BK445 BK446 HB; have HO449 := n0_; have HO452 := n1_; have BK444 := n2_; have BK445 := n3_; have BK446 := n4_; have HB := n5_; have BK453 := n6_; have GW453 := n7_; have GE453 := n8_; have NB444_453 := n9_; have NB453_444 := n10_; have NB445_453 := n11_; have NB453_445 := n12_; have NB446_453 := n13_; have NB453_446 := n14_; clear n0_ n1_ n2_ n3_ n4_ n5_ n6_ n7_ n8_ n9_ n10_ n11_ n12_ n13_ n14_ hb hbox hg; obtain ⟨Ao21, co21, eo21⟩ := Kd.R_slice HO449.out; subst eo21; have hnb22 := NB453_444.out; have hnc22 := NB444_453.out; have hnb23 := NB453_445.out; have hnc23 := NB445_453.out; have hnb24 := NB453_446.out; have hnc24 := NB446_453.out; have hcz25_0 : w20.cell? ⟨gb453, 0, none⟩ = some (.slice none 0 0) := (bc_ BK453.out 0).trans rfl; have hcz25_1 : w20.cell? ⟨gb453, 1, none⟩ = some (.slice none 0 0) := (bc_ BK453.out 1).trans rfl; have hfz25_0 := bf_ BK453.out 0; have hfz25_1 := bf_ BK453.out 1; obtain ⟨Ao26, co26, eo26⟩ := Kd.R_slice HO452.out; subst eo26; have hcz27_0 : w20.cell? ⟨gb444, 0, none⟩ = some (.slice A0_0 l0_0.length c0_0) := (bc_ BK444.out 0).trans rfl; have hcz27_1 : w20.cell? ⟨gb444, 1, none⟩ = some (.slice A0_1 l0_1.length c0_1) := (bc_ BK444.out 1).trans rfl; have hfz27_0 := bf_ BK444.out 0; have hfz27_1 := bf_ BK444.out 1; have hnb28 := NB445_446.out; have hnc28 := NB446_445.out; have hcz29_0 : w20.cell? ⟨gb445, 0, none⟩ = some (.int .i64 a1_0) := (bc_ BK445.out 0).trans rfl; have hcz29_1 : w20.cell? ⟨gb445, 1, none⟩ = some (.int .i64 a1_1) := (bc_ BK445.out 1).trans rfl; have hcz29_2 : w20.cell? ⟨gb445, 2, none⟩ = some (.int .i64 a1_2) := (bc_ BK445.out 2).trans rfl; have hcz29_3 : w20.cell? ⟨gb445, 3, none⟩ = some (.int .i64 a1_3) := (bc_ BK445.out 3).trans rfl; have hcz29_4 : w20.cell? ⟨gb445, 4, none⟩ = some (.int .i64 a1_4) := (bc_ BK445.out 4).trans rfl; have hcz29_5 : w20.cell? ⟨gb445, 5, none⟩ = some (.int .i64 a1_5) := (bc_ BK445.out 5).trans rfl; have hcz29_6 : w20.cell? ⟨gb445, 6, none⟩ = some (.int .i64 a1_6) := (bc_ BK445.out 6).trans rfl; have hcz29_7 : w20.cell? ⟨gb445, 7, none⟩ = some (.slice A1_7 l1_7.length c1_7) := (bc_ BK445.out 7).trans rfl; have hfz29_0 := bf_ BK445.out 0; have hfz29_1 := bf_ BK445.out 1; have hfz29_2 := bf_ BK445.out 2; have hfz29_3 := bf_ BK445.out 3; have hfz29_4 := bf_ BK445.out 4; have hfz29_5 := bf_ BK445.out 5; have hfz29_6 := bf_ BK445.out 6; have hfz29_7 := bf_ BK445.out 7) | ((with_reducible refine gc_ (f := 64) rfl ?_); refine goesL_ (some 12) rfl rfl Try.func64 (by kernel_rfl) rfl #[.agg #[.slice A0_0 l0_0.length c0_0, .slice A0_1 l0_1.length c0_1], .agg #[.int .i64 a1_0, .int .i64 a1_1, .int .i64 a1_2, .int .i64 a1_3, .int .i64 a1_4, .int .i64 a1_5, .int .i64 a1_6, .slice A1_7 l1_7.length c1_7]] rfl (by (try simp only [List.map_toArray, List.map_cons, List.map_nil]); first | done | rfl) ?_; (with_reducible refine (impl_CanSend.calls k _ _ l0_0 _ _ l0_1 a1_0 a1_1 a1_2 a1_3 a1_4 a1_5 a1_6 _ _ l1_7 true _ ?side1 ?side2 ?side3 ?side4 ?side5 ?side6 A4.out).mono ?_); (case side1 => exact Kd.C_below HR0_0.out (by repeat (first | (with_reducible first | exact HB.out | apply ba_ | apply bd_ | apply be_ | refine bs_ ?_ GE444.out | refine bs_ ?_ GE445.out | refine bs_ ?_ GE446.out | refine bs_ ?_ GE453.out) | exact HB.out))); (case side2 => exact HC0_0.out); (case side3 => exact Kd.C_below HR0_1.out (by repeat (first | (with_reducible first | exact HB.out | apply ba_ | apply bd_ | apply be_ | refine bs_ ?_ GE444.out | refine bs_ ?_ GE445.out | refine bs_ ?_ GE446.out | refine bs_ ?_ GE453.out) | exact HB.out))); (case side4 => exact HC0_1.out); (case side5 => exact Kd.C_below HR1_7.out (by repeat (first | (with_reducible first | exact HB.out | apply ba_ | apply bd_ | apply be_ | refine bs_ ?_ GE444.out | refine bs_ ?_ GE445.out | refine bs_ ?_ GE446.out | refine bs_ ?_ GE453.out) | exact HB.out))); (case side6 => exact HC1_7.out); rintro e w30 ⟨rfl, hb⟩; refine ⟨_, rfl, ?_⟩; have n0_ := Aside0.mk (Kd.R_below (by (repeat apply rX); exact (Kd.R_mono (Kd.R_far (p := ⟨gb453, 1, none⟩) (Kd.R_far (p := ⟨gb453, 0, none⟩) (Kd.R_types HO449.out BK453.out (by decide)) (fun _ hk => hk.2) (.slice Ao21 t447.length co21)) (fun _ hk => hk.2) (.slice Ao26 t450.length co26)) (fun _ h_ => h_.1))) hb); have n1_ := Aside0.mk (Kd.R_below (by (repeat apply rX); exact (Kd.R_mono (Kd.R_far (p := ⟨gb453, 1, none⟩) (Kd.R_far (p := ⟨gb453, 0, none⟩) (Kd.R_types HO452.out BK453.out (by decide)) (fun _ hk => hk.2) (.slice Ao21 t447.length co21)) (fun _ hk => hk.2) (.slice Ao26 t450.length co26)) (fun _ h_ => h_.1))) hb); have n2_ := Aside0.mk (bb_ (g := gb444) (o := .cells #[.slice A0_0 l0_0.length c0_0, .slice A0_1 l0_1.length c0_1] 26 (0, 0)) (by (repeat apply bX); refine blk_far ?_ NB444_453.out _; (repeat apply bX); refine blk_far ?_ NB444_453.out _; (repeat apply bX); exact BK444.out) hb); have n3_ := Aside0.mk (bb_ (g := gb445) (o := .cells #[.int .i64 a1_0, .int .i64 a1_1, .int .i64 a1_2, .int .i64 a1_3, .int .i64 a1_4, .int .i64 a1_5, .int .i64 a1_6, .slice A1_7 l1_7.length c1_7] 60 (0, 0)) (by (repeat apply bX); refine blk_far ?_ NB445_453.out _; (repeat apply bX); refine blk_far ?_ NB445_453.out _; (repeat apply bX); exact BK445.out) hb); have n4_ := Aside0.mk (bb_ (g := gb446) (o := .cells #[.slice none 0 0, .slice none 0 0] 26 (0, 0)) (by (repeat apply bX); refine blk_far ?_ NB446_453.out _; (repeat apply bX); refine blk_far ?_ NB446_453.out _; (repeat apply bX); exact BK446.out) hb); have n5_ := Aside0.mk (bb_ (g := gb453) (o := .cells #[.slice Ao21 t447.length co21, .slice Ao26 t450.length co26] 26 (0, 0)) (by (repeat apply bX); refine bp_ (cs := #[.slice Ao21 t447.length co21, .slice none 0 0]) ?_ 1 _ rfl; (repeat apply bX); refine bp_ (cs := #[.slice none 0 0, .slice none 0 0]) ?_ 0 _ rfl; (repeat apply bX); exact BK453.out) hb); have n6_ := Aside0.mk (bt_ (by repeat (first | (with_reducible first | exact HB.out | apply ba_ | apply bd_ | apply be_ | refine bs_ ?_ GE444.out | refine bs_ ?_ GE445.out | refine bs_ ?_ GE446.out | refine bs_ ?_ GE453.out) | exact HB.out)) hb); clear HO449 HO452 BK444 BK445 BK446 BK453 HB; have HO449 := n0_; have HO452 := n1_; have BK444 := n2_; have BK445 := n3_; have BK446 := n4_; have BK453 := n5_; have HB := n6_; clear n0_ n1_ n2_ n3_ n4_ n5_ n6_; (try clear hb); (try clear hb2); (try clear hk); (try clear hi); have hcz31_0 : w30.cell? ⟨gb445, 0, none⟩ = some (.int .i64 a1_0) := (bc_ BK445.out 0).trans rfl; have hcz31_1 : w30.cell? ⟨gb445, 1, none⟩ = some (.int .i64 a1_1) := (bc_ BK445.out 1).trans rfl; have hcz31_2 : w30.cell? ⟨gb445, 2, none⟩ = some (.int .i64 a1_2) := (bc_ BK445.out 2).trans rfl; have hcz31_3 : w30.cell? ⟨gb445, 3, none⟩ = some (.int .i64 a1_3) := (bc_ BK445.out 3).trans rfl; have hcz31_4 : w30.cell? ⟨gb445, 4, none⟩ = some (.int .i64 a1_4) := (bc_ BK445.out 4).trans rfl; have hcz31_5 : w30.cell? ⟨gb445, 5, none⟩ = some (.int .i64 a1_5) := (bc_ BK445.out 5).trans rfl; have hcz31_6 : w30.cell? ⟨gb445, 6, none⟩ = some (.int .i64 a1_6) := (bc_ BK445.out 6).trans rfl; have hcz31_7 : w30.cell? ⟨gb445, 7, none⟩ = some (.slice A1_7 l1_7.length c1_7) := (bc_ BK445.out 7).trans rfl; have hfz31_0 := bf_ BK445.out 0; have hfz31_1 := bf_ BK445.out 1; have hfz31_2 := bf_ BK445.out 2; have hfz31_3 := bf_ BK445.out 3; have hfz31_4 := bf_ BK445.out 4; have hfz31_5 := bf_ BK445.out 5; have hfz31_6 := bf_ BK445.out 6; have hfz31_7 := bf_ BK445.out 7) | ((with_reducible refine gc_ (f := 79) rfl ?_); refine goesL_ (some 16) rfl rfl Try.func79 (by kernel_rfl) rfl #[.agg #[.int .i64 a1_0, .int .i64 a1_1, .int .i64 a1_2, .int .i64 a1_3, .int .i64 a1_4, .int .i64 a1_5, .int .i64 a1_6, .slice A1_7 l1_7.length c1_7]] rfl (by (try simp only [List.map_toArray, List.map_cons, List.map_nil]); first | done | rfl) ?_; (with_reducible refine (impl_ClassOf.calls k a1_0 a1_1 a1_2 a1_3 a1_4 a1_5 a1_6 _ _ l1_7 t455 _ ?side1 ?side2 A6.out).mono ?_); (case side1 => exact cY ((Kd.C_below HR1_7.out HB.out))); (case side2 => exact HC1_7.out); rintro e w32 ⟨rfl, hb⟩; refine ⟨_, rfl, ?_⟩; have n0_ := Aside0.mk (Kd.R_below (rY HO449.out) hb); have n1_ := Aside0.mk (Kd.R_below (rY HO452.out) hb); have n2_ := Aside0.mk (bb_ (bY BK444.out) hb); have n3_ := Aside0.mk (bb_ (bY BK445.out) hb); have n4_ := Aside0.mk (bb_ (bY BK446.out) hb); have n5_ := Aside0.mk (bb_ (bY BK453.out) hb); have n6_ := Aside0.mk (bt_ (by repeat (first | (with_reducible first | exact HB.out | apply ba_ | apply bd_ | apply be_ | refine bs_ ?_ GE444.out | refine bs_ ?_ GE445.out | refine bs_ ?_ GE446.out | refine bs_ ?_ GE453.out) | exact HB.out)) hb); clear HO449 HO452 BK444 BK445 BK446 BK453 HB; have HO449 := n0_; have HO452 := n1_; have BK444 := n2_; have BK445 := n3_; have BK446 := n4_; have BK453 := n5_; have HB := n6_; clear n0_ n1_ n2_ n3_ n4_ n5_ n6_; (try clear hb); (try clear hb2); (try clear hk); (try clear hi); have hcz33_0 : w32.cell? ⟨gb453, 0, none⟩ = some (.slice Ao21 t447.length co21) := (bc_ BK453.out 0).trans rfl; have hcz33_1 : w32.cell? ⟨gb453, 1, none⟩ = some (.slice Ao26 t450.length co26) := (bc_ BK453.out 1).trans rfl; have hfz33_0 := bf_ BK453.out 0; have hfz33_1 := bf_ BK453.out 1; have p456 : 0 ≤ (t455 : Int) := of_decide_eq_true (by first | (with_reducible assumption) | assumption); have q456 : t455 < (t447.length : Int) := of_decide_eq_true (by first | (with_reducible assumption) | assumption); obtain ⟨ad456, e456, hx456_0⟩ := Kd.at_int (Kd.R_reads' HO449.out).2.2 t455 p456 q456; cases e456; replace p456 := eq_true p456; replace q456 := eq_true q456; have p9 : 0 ≤ (t455 : Int) := of_decide_eq_true (by first | (with_reducible assumption) | assumption); have q9 : (t455 : Int) < ((t447.length : Int) : Int) := of_decide_eq_true (by first | (with_reducible assumption) | assumption); obtain ⟨go9, co9, eo9, gb9, gl9, cl9, HG9⟩ := Kd.R_form HO449.out (by omega); (first | cases eo9 | (injection eo9 with ea_ en_ ec_; (first | subst ea_ | (injection ea_ with ea_; subst ea_)); subst ec_; clear en_)); have GB9 := Aside0.mk gb9; have GG9 := Aside0.mk HG9; clear gb9 gl9 HG9; (first | simp only [add_plain] at hx456_0 | skip); obtain ⟨hx9_0, hf9_0⟩ := Kd.R_celln 0 HO449.out (t455 : Int) p9 q9; replace p9 := eq_true p9; replace q9 := eq_true q9; obtain ⟨hy34_, hz34_⟩ := Kd.R_celln 0 HO449.out (t455 : Int) (of_decide_eq_true (by first | (with_reducible assumption) | assumption)) (of_decide_eq_true (by first | (with_reducible assumption) | assumption)); have HP34 := Kd.R_putg HO449.out (t455 : Int) (wrap64 ((rd t447 t455) - 1))) | ((with_reducible refine gs_ (t := 3) (p := 23) rfl ?_); refine se_ (t := 3) (p := 23) (v := ?vo_w35) (w1 := (w32.setCell ⟨go9, (t455 : Int).toNat, none⟩ (.int .i64 (wrap64 ((rd t447 t455) - 1))))) ?hg ?ho ?hn ?hr ?_; (case ho => rfl); (case hg => rfl); (case hn => rfl); (case hr => first | (go_simp; done) | (go_simp; rfl)); intro w35 hw; have hg : w32.grownBy w35 (some go9) := (by rw [hw]; exact HP34.2); have hp_ : Kd.R (Kd.int .i64) 3 w35 w.heap.size (fun k_ => some k_ ≠ (.slice Ao26 t450.length co26 : Value).ownBlock) (.slice (some ⟨go9, 0, none⟩) t447.length co21) y457 := (by rw [hw, Ny457.out]; exact HP34.1); clear HP34; have n0_ := Aside0.mk (blk_grown (g := gb444) (o := .cells #[.slice A0_0 l0_0.length c0_0, .slice A0_1 l0_1.length c0_1] 26 (0, 0)) (bY BK444.out) hg (Kd.R_ne HO449.out BK444.out (by decide))); have n1_ := Aside0.mk (blk_grown (g := gb445) (o := .cells #[.int .i64 a1_0, .int .i64 a1_1, .int .i64 a1_2, .int .i64 a1_3, .int .i64 a1_4, .int .i64 a1_5, .int .i64 a1_6, .slice A1_7 l1_7.length c1_7] 60 (0, 0)) (bY BK445.out) hg (Kd.R_ne HO449.out BK445.out (by decide))); have n2_ := Aside0.mk (blk_grown (g := gb446) (o := .cells #[.slice none 0 0, .slice none 0 0] 26 (0, 0)) (bY BK446.out) hg (Kd.R_ne HO449.out BK446.out (by decide))); have n3_ := Aside0.mk (hp_); have n4_ := Aside0.mk (Kd.R_after (v := (.slice (some ⟨go9, 0, none⟩) t447.length co21)) (v1 := (.slice (some ⟨go9, 0, none⟩) t447.length co21)) (ok := (fun _ => True)) (by (repeat apply rX); exact Kd.R_mono HO452.out (fun _ hk => ⟨trivial, hk⟩)) hg (.inl rfl)); have n5_ := Aside0.mk (blk_grown (g := gb453) (o := .cells #[.slice (some ⟨go9, 0, none⟩) t447.length co21, .slice Ao26 t450.length co26] 26 (0, 0)) (bY BK453.out) hg (Kd.R_ne HO449.out BK453.out (by decide))); have n6_ := Aside0.mk ((by rw [hw]; exact bs_ (HB.out) GB9.out : Below w.heap.size w w35)); clear BK444 BK445 BK446 HO449 HO452 BK453 HB; have BK444 := n0_; have BK445 := n1_; have BK446 := n2_; have HO449 := n3_; have HO452 := n4_; have BK453 := n5_; have HB := n6_; clear n0_ n1_ n2_ n3_ n4_ n5_ n6_ hg hw hp_))
 have n0_ := Aside0.mk (Kd.R_drew HO449.out)
 have n1_ := Aside0.mk (Kd.R_drew HO452.out)
 have n2_ := Aside0.mk (bw_ BK444.out)
 have n3_ := Aside0.mk (bw_ BK445.out)
 have n4_ := Aside0.mk (bw_ BK446.out)
 have n5_ := Aside0.mk (bw_ BK453.out)
 have n6_ := Aside0.mk (be_ HB.out)
 clear HO449 HO452 BK444 BK445 BK446 BK453 HB
 have HO449 := n0_
 have HO452 := n1_
 have BK444 := n2_
 have BK445 := n3_
 have BK446 := n4_
 have BK453 := n5_
 have HB := n6_
 clear n0_ n1_ n2_ n3_ n4_ n5_ n6_
 have p458 : 0 ≤ (t455 : Int) := of_decide_eq_true (by first | (with_reducible assumption) | assumption)
 have q458 : t455 < (t450.length : Int) := of_decide_eq_true (by first | (with_reducible assumption) | assumption)
 obtain ⟨ad458, e458, hx458_0⟩ := Kd.at_int (Kd.R_reads' HO452.out).2.2 t455 p458 q458
 cases e458
 replace p458 := eq_true p458
 replace q458 := eq_true q458
 refine start_ (n := 10) (S := fun w' => w'.cell? ⟨gb453, 0, none⟩ = some (.slice (some ⟨go9, 0, none⟩) t447.length co21) ∧ w'.cell? ⟨gb453, 1, none⟩ = some (.slice (some ad458) t450.length co26) ∧ w'.cell? ⟨gb445, 0, none⟩ = some (.int .i64 a1_0) ∧ w'.cell? ⟨gb445, 1, none⟩ = some (.int .i64 a1_1) ∧ w'.cell? ⟨gb445, 2, none⟩ = some (.int .i64 a1_2) ∧ w'.cell? ⟨gb445, 3, none⟩ = some (.int .i64 a1_3) ∧ w'.cell? ⟨gb445, 4, none⟩ = some (.int .i64 a1_4) ∧ w'.cell? ⟨gb445, 5, none⟩ = some (.int .i64 a1_5) ∧ w'.cell? ⟨gb445, 6, none⟩ = some (.int .i64 a1_6) ∧ w'.cell? ⟨gb445, 7, none⟩ = some (.slice A1_7 l1_7.length c1_7) ∧ w'.cell? (ad458.add (t455).toNat) = some (.int .i64 (rd t450 t455))) (ds := [9]) #[F, F, F, F, F, F, F, F, F, F] (by kernel_rfl) rfl rfl ⟨(bc_ BK453.out 0).trans rfl, (bc_ BK453.out 1).trans rfl, (bc_ BK445.out 0).trans rfl, (bc_ BK445.out 1).trans rfl, (bc_ BK445.out 2).trans rfl, (bc_ BK445.out 3).trans rfl, (bc_ BK445.out 4).trans rfl, (bc_ BK445.out 5).trans rfl, (bc_ BK445.out 6).trans rfl, (bc_ BK445.out 7).trans rfl, hx458_0⟩ (fun hHeld => ?_); refine with_tabW impl_SpendCredits.tab6 impl_SpendCredits.bits6 (fun HT_ HW_ => ?_)
 generalize w35.drew = w36 at HO449 HO452 BK444 BK445 BK446 BK453 HB hx458_0 hHeld ⊢
 refine pure_ (i := 0) (N := some 24) (v := ?_) (a' := ?_) #[T, F, F, F, F, F, F, F, F, F] rfl rfl (any_of HT_.out (by kernel_rfl)) (fun _ _ _ h => h) (Or.inl ⟨by rfl, ?_⟩) ?_ ?_
 rotate_left
 ·intro w'
  go_simp
  with_reducible rfl
 rotate_left
 ·simp only [pS]
  rfl
 refine pure_ (i := 2) (N := some 26) (v := ?_) (a' := ?_) #[T, F, T, F, F, F, F, F, F, F] rfl rfl (any_of HT_.out (by kernel_rfl)) (fun _ _ _ h => h) (Or.inl ⟨by rfl, ?_⟩) ?_ ?_
 rotate_left
 ·intro w'
  go_simp
  with_reducible rfl
 rotate_left
 ·simp only [pS]
  rfl
 refine take_ (i := 1) (N := some 25) (v := ?_) (a' := ?_) #[T, T, T, F, F, F, F, F, F, F] rfl rfl (take_ofW HT_.out HW_.out (by kernel_rfl)) (fun _ _ _ h => h) (Or.inl ⟨by rfl, ?_⟩) hHeld ?_ ?_
 rotate_left
 ·rintro w' ⟨s0, s1, s2, s3, s4, s5, s6, s7, s8, s9, s10⟩
  go_simp
  with_reducible rfl
 rotate_left
 ·simp only [pS]
  rfl
 refine pure_ (i := 3) (N := some 27) (v := ?_) (a' := ?_) #[T, T, T, T, F, F, F, F, F, F] rfl rfl (any_of HT_.out (by kernel_rfl)) (fun _ _ _ h => h) (Or.inl ⟨by rfl, ?_⟩) ?_ ?_
 rotate_left
 ·intro w'
  go_simp
  with_reducible rfl
 rotate_left
 ·simp only [pS]
  rfl
 refine take_ (i := 4) (N := some 28) (v := ?_) (a' := ?_) #[T, T, T, T, T, F, F, F, F, F] rfl rfl (take_ofW HT_.out HW_.out (by kernel_rfl)) (fun _ _ _ h => h) (Or.inl ⟨by rfl, ?_⟩) hHeld ?_ ?_
 rotate_left
 ·rintro w' ⟨s0, s1, s2, s3, s4, s5, s6, s7, s8, s9, s10⟩
  go_simp
  with_reducible rfl
 rotate_left
 ·simp only [pS]
  rfl
 refine take_ (i := 5) (N := some 29) (v := ?_) (a' := ?_) #[T, T, T, T, T, T, F, F, F, F] rfl rfl (take_ofW HT_.out HW_.out (by kernel_rfl)) (fun _ _ _ h => h) (Or.inl ⟨by rfl, ?_⟩) hHeld ?_ ?_
 rotate_left
 ·rintro w' ⟨s0, s1, s2, s3, s4, s5, s6, s7, s8, s9, s10⟩
  go_simp
  with_reducible rfl
 rotate_left
 ·simp only [pS]
  rfl
 refine one_ (i := 6) (N := some 30) #[T, T, T, T, T, T, T, F, F, F] rfl rfl (one_of HT_.out (by kernel_rfl)) (by decide) (fun K hK => ?_)
 refine goes_ Try.func85 (by kernel_rfl) rfl #[.agg #[.int .i64 a1_0, .int .i64 a1_1, .int .i64 a1_2, .int .i64 a1_3, .int .i64 a1_4, .int .i64 a1_5, .int .i64 a1_6, .slice A1_7 l1_7.length c1_7]] (by rfl) rfl rfl (by (try simp only [List.map_toArray, List.map_cons, List.map_nil]); first | done | rfl) ?_
 with_reducible refine (impl_PacketUnits.calls k a1_0 a1_1 a1_2 a1_3 a1_4 a1_5 a1_6 _ _ l1_7 t459 _ ?side1 ?side2 A11.out).mono ?_
 (case side1 => exact cY ((Kd.C_below HR1_7.out HB.out)))
 (case side2 => exact HC1_7.out)
 rintro e w37 ⟨rfl, hb⟩
 have HS10_ := (hb.cell (World.block_lt_of_cell? _ _ (hHeld.2.2.2.2.2.2.2.2.2.2))).trans (hHeld.2.2.2.2.2.2.2.2.2.2)
 refine ⟨_, rfl, ?_⟩
 have n0_ := Aside0.mk (Kd.R_below (rY HO449.out) hb)
 have n1_ := Aside0.mk (Kd.R_below (rY HO452.out) hb)
 have n2_ := Aside0.mk (bb_ (bY BK444.out) hb)
 have n3_ := Aside0.mk (bb_ (bY BK445.out) hb)
 have n4_ := Aside0.mk (bb_ (bY BK446.out) hb)
 have n5_ := Aside0.mk (bb_ (bY BK453.out) hb)
 have n6_ := Aside0.mk (bt_ (by repeat (first | (with_reducible first | exact HB.out | apply ba_ | apply bd_ | apply be_ | refine bs_ ?_ GE444.out | refine bs_ ?_ GE445.out | refine bs_ ?_ GE446.out | refine bs_ ?_ GE453.out) | exact HB.out)) hb)
 clear HO449 HO452 BK444 BK445 BK446 BK453 HB
 have HO449 := n0_
 have HO452 := n1_
 have BK444 := n2_
 have BK445 := n3_
 have BK446 := n4_
 have BK453 := n5_
 have HB := n6_
 clear n0_ n1_ n2_ n3_ n4_ n5_ n6_
 have p12 : 0 ≤ (t455 : Int) := of_decide_eq_true (by first | (with_reducible assumption) | assumption)
 have q12 : (t455 : Int) < ((t450.length : Int) : Int) := of_decide_eq_true (by first | (with_reducible assumption) | assumption)
 obtain ⟨go12, co12, eo12, gb12, gl12, cl12, HG12⟩ := Kd.R_form HO452.out (by omega)
 (first | cases eo12 | (injection eo12 with ea_ en_ ec_; (first | subst ea_ | (injection ea_ with ea_; subst ea_)); subst ec_; clear en_))
 have GB12 := Aside0.mk gb12
 have GG12 := Aside0.mk HG12
 clear gb12 gl12 HG12
 (first | simp only [add_plain] at hx458_0 | skip)
 obtain ⟨hx12_0, hf12_0⟩ := Kd.R_celln 0 HO452.out (t455 : Int) p12 q12
 replace p12 := eq_true p12
 replace q12 := eq_true q12
 have HP38 := Kd.R_putn HO452.out (t455 : Int) (wrap64 ((rd t450 t455) - t459))
 rw [← Ny460.out] at HP38
 have HQ38 := Aside0.mk HP38
 clear HP38
 refine hK.out _ _ ⟨(bc_ BK453.out 0).trans rfl, (bc_ BK453.out 1).trans rfl, (bc_ BK445.out 0).trans rfl, (bc_ BK445.out 1).trans rfl, (bc_ BK445.out 2).trans rfl, (bc_ BK445.out 3).trans rfl, (bc_ BK445.out 4).trans rfl, (bc_ BK445.out 5).trans rfl, (bc_ BK445.out 6).trans rfl, (bc_ BK445.out 7).trans rfl, HS10_⟩ (fun hHeld => ?_)
 clear hK K
 refine norm_ (a' := ?_) ?_ ?_
 rotate_left
 ·show Act.put _ (some 30) _ = _
  simp only [pS]
  rfl
 refine pure_ (i := 7) (N := some 31) (v := ?_) (a' := ?_) #[T, T, T, T, T, T, T, T, F, F] rfl rfl (any_of HT_.out (by kernel_rfl)) (fun _ _ _ h => h) (Or.inl ⟨by rfl, ?_⟩) ?_ ?_
 rotate_left
 ·intro w'
  go_simp
  with_reducible rfl
 rotate_left
 ·simp only [pS]
  rfl
 refine pure_ (i := 8) (N := some 32) (v := ?_) (a' := ?_) #[T, T, T, T, T, T, T, T, T, F] rfl rfl (any_of HT_.out (by kernel_rfl)) (fun _ _ _ h => h) (Or.inl ⟨by rfl, ?_⟩) ?_ ?_
 rotate_left
 ·intro w'
  go_simp
  with_reducible rfl
 rotate_left
 ·simp only [pS]
  rfl
 refine last_ (i := 9) (N := none) #[T, T, T, T, T, T, T, T, T, T] rfl rfl (one_of HT_.out (by kernel_rfl)) (by decide) (fun K hK => ?_)
 refine skip_ (w1 := ?_) (by rfl) rfl ?_ ?_
 rotate_left
 ·go_simp
  rfl
 refine hK.out _ _ ?_
 clear hK K
 refine done_ (done_of HT_.out (by kernel_rfl)) ?_
 have n0_ : Aside0 (Kd.R (Kd.int .i64) 3 (w37.setCell ⟨go12, (t455 : Int).toNat, none⟩ (.int .i64 (wrap64 ((rd t450 t455) - t459)))) w.heap.size (fun k_ => some k_ ≠ (.slice (some ⟨go12, 0, none⟩) t450.length co26 : Value).ownBlock) (.slice (some ⟨go9, 0, none⟩) t447.length co21) y457) := ⟨by (repeat apply rX); exact Kd.R_mono (Kd.R_far (p := ⟨go12, (t455 : Int).toNat, none⟩) (Kd.R_mono HO449.out (fun k_ hk => (⟨hk, fun e_ => hk (by rw [e_]; rfl)⟩ : _ ∧ k_ ≠ go12))) (fun _ hk => hk.2) (.int .i64 (wrap64 ((rd t450 t455) - t459)))) (fun _ hk => hk.1)⟩
 have n1_ : Aside0 (Kd.R (Kd.int .i64) 3 (w37.setCell ⟨go12, (t455 : Int).toNat, none⟩ (.int .i64 (wrap64 ((rd t450 t455) - t459)))) w.heap.size (fun k_ => some k_ ≠ (.slice (some ⟨go9, 0, none⟩) t447.length co21 : Value).ownBlock) (.slice (some ⟨go12, 0, none⟩) t450.length co26) y460) := ⟨by (repeat apply rX); exact Kd.R_mono HQ38.out (fun _ hk => hk.2)⟩
 have n2_ : Aside0 ((w37.setCell ⟨go12, (t455 : Int).toNat, none⟩ (.int .i64 (wrap64 ((rd t450 t455) - t459)))).heap[gb444]? = some (.cells #[.slice A0_0 l0_0.length c0_0, .slice A0_1 l0_1.length c0_1] 26 (0, 0))) := ⟨by (repeat apply bX); refine blk_far ?_ (by have h_ := Kd.R_ne HO452.out BK444.out (by decide); intro e_; exact h_ (by rw [e_]; rfl)) _; (repeat apply bX); exact BK444.out⟩
 have n3_ : Aside0 ((w37.setCell ⟨go12, (t455 : Int).toNat, none⟩ (.int .i64 (wrap64 ((rd t450 t455) - t459)))).heap[gb445]? = some (.cells #[.int .i64 a1_0, .int .i64 a1_1, .int .i64 a1_2, .int .i64 a1_3, .int .i64 a1_4, .int .i64 a1_5, .int .i64 a1_6, .slice A1_7 l1_7.length c1_7] 60 (0, 0))) := ⟨by (repeat apply bX); refine blk_far ?_ (by have h_ := Kd.R_ne HO452.out BK445.out (by decide); intro e_; exact h_ (by rw [e_]; rfl)) _; (repeat apply bX); exact BK445.out⟩
 have n4_ : Aside0 ((w37.setCell ⟨go12, (t455 : Int).toNat, none⟩ (.int .i64 (wrap64 ((rd t450 t455) - t459)))).heap[gb446]? = some (.cells #[.slice none 0 0, .slice none 0 0] 26 (0, 0))) := ⟨by (repeat apply bX); refine blk_far ?_ (by have h_ := Kd.R_ne HO452.out BK446.out (by decide); intro e_; exact h_ (by rw [e_]; rfl)) _; (repeat apply bX); exact BK446.out⟩
 have n5_ : Aside0 ((w37.setCell ⟨go12, (t455 : Int).toNat, none⟩ (.int .i64 (wrap64 ((rd t450 t455) - t459)))).heap[gb453]? = some (.cells #[.slice (some ⟨go9, 0, none⟩) t447.length co21, .slice (some ⟨go12, 0, none⟩) t450.length co26] 26 (0, 0))) := ⟨by (repeat apply bX); refine blk_far ?_ (by have h_ := Kd.R_ne HO452.out BK453.out (by decide); intro e_; exact h_ (by rw [e_]; rfl)) _; (repeat apply bX); exact BK453.out⟩
 have n6_ : Aside0 (Below w.heap.size w (w37.setCell ⟨go12, (t455 : Int).toNat, none⟩ (.int .i64 (wrap64 ((rd t450 t455) - t459))))) := ⟨by repeat (first | (with_reducible first | exact HB.out | apply ba_ | apply bd_ | apply be_ | refine bs_ ?_ GB12.out | refine bs_ ?_ GE444.out | refine bs_ ?_ GE445.out | refine bs_ ?_ GE446.out | refine bs_ ?_ GE453.out) | exact HB.out)⟩
 generalize (w37.setCell ⟨go12, (t455 : Int).toNat, none⟩ (.int .i64 (wrap64 ((rd t450 t455) - t459)))) = w39 at n0_ n1_ n2_ n3_ n4_ n5_ n6_ ⊢
 have HO449 := n0_
 have HO452 := n1_
 have BK444 := n2_
 have BK445 := n3_
 have BK446 := n4_
 have BK453 := n5_
 have HB := n6_
 clear n0_ n1_ n2_ n3_ n4_ n5_ n6_
 obtain ⟨hcz40_0, hcz40_1, hfz40_0, hfz40_1⟩ := b2 BK453.out
 obtain ⟨hcz41_0, hcz41_1, hfz41_0, hfz41_1⟩ := b2 BK446.out
 try go_wp2
 refine bodyPost_ret (results_ct rfl _ _ gb446 26 #[.slice (some ⟨go9, 0, none⟩) t447.length co21, .slice (some ⟨go12, 0, none⟩) t450.length co26] (0, 0) _ rfl (by (repeat apply bX); refine bp_ (cs := #[.slice (some ⟨go9, 0, none⟩) t447.length co21, .slice none 0 0]) ?_ 1 _ rfl; (repeat apply bX); refine bp_ (cs := #[.slice none 0 0, .slice none 0 0]) ?_ 0 _ rfl; (repeat apply bX); exact BK446.out) Try.underlying26 rfl (by kernel_rfl)) rfl ?_
 exact ⟨_, _, by first | rfl | (simp [errW_none, errW_some] <;> rfl) | (simp [*, errW_none, errW_some] <;> rfl), by (repeat apply rX); exact Kd.R_mono (Kd.R_far (p := ⟨gb446, 1, none⟩) (Kd.R_far (p := ⟨gb446, 0, none⟩) (Kd.R_types HO449.out BK446.out (by decide)) (fun _ hk => hk.2) (.slice (some ⟨go9, 0, none⟩) t447.length co21)) (fun _ hk => hk.2) (.slice (some ⟨go12, 0, none⟩) t450.length co26)) (fun _ hk => hk.1), by (repeat apply rX); exact Kd.R_mono (Kd.R_far (p := ⟨gb446, 1, none⟩) (Kd.R_far (p := ⟨gb446, 0, none⟩) (Kd.R_types HO452.out BK446.out (by decide)) (fun _ hk => hk.2) (.slice (some ⟨go9, 0, none⟩) t447.length co21)) (fun _ hk => hk.2) (.slice (some ⟨go12, 0, none⟩) t450.length co26)) (fun _ hk => hk.1), by repeat (first | (with_reducible first | exact HB.out | apply ba_ | apply bd_ | apply be_ | refine bs_ ?_ GE444.out | refine bs_ ?_ GE445.out | refine bs_ ?_ GE446.out | refine bs_ ?_ GE453.out) | exact HB.out)⟩
/-! ### slices_Delete_60: function 83 (one element), told by hand -/
theorem R_cleared {α : Type} (d : Kd α) {W : World} {base e g n c : Nat} {ok : Nat → Prop} {xs : List α} (HO : d.R e W base ok (.slice (some ⟨g, 0, none⟩) n c) xs) (hn : n < c) (zs : List Value) (hz : zs.length = d.sz) :
  d.R e (W.setCells g (n * d.sz) zs) base ok (.slice (some ⟨g, 0, none⟩) n c) xs ∧ W.grownBy (W.setCells g (n * d.sz) zs) (some g) ∧ (∀ j, j < d.sz → (W.cell? ⟨g, n * d.sz + j, none⟩).isSome = true) ∧ (∀ j, W.frozen? ⟨g, j, none⟩ = false) := by
 obtain ⟨hl, hnc, _⟩ := Kd.R_reads' HO
 obtain ⟨hok, inner, hown, hr⟩ := HO
 rcases hown.2 with ⟨hv, _⟩ | ⟨g', cap', cur, hv, hb, hh, h3, hcm, hcs, htake⟩
 ·cases hv
 injection hv with ha _ hc
 injection ha with ha
 injection ha with hg
 subst hg; subst hc
 have hle : (n + 1) * d.sz ≤ c * d.sz := Nat.mul_le_mul_right _ hn
 rw [Nat.succ_mul] at hle
 obtain ⟨cur', h4, h5, h6⟩ := setCells_row zs (n * d.sz) W cur hh (by omega)
 obtain ⟨s1, s2, s3, s4⟩ := setCells_same g zs (n * d.sz) W
 have hfar : ∀ k', k' ≠ g → (W.setCells g (n * d.sz) zs).heap[k']? = W.heap[k']? := fun k' hk' => setCells_far zs _ k' hk'
 refine ⟨⟨hok, inner, ⟨hown.1, .inr ⟨g, c, cur', by rw [hl], hb, h4, h3, hcm, by rw [h5, hcs], ?_⟩⟩, hr.imp_ (fun p q hp => d.M_move (fun k' hk' => hfar k' (fun he => hk'.2 (by simp [Value.ownBlock, he]))) hp)⟩, ⟨s1, s2, s3, by rw [s4]; exact Nat.le_refl _, fun k' _ hk' => hfar k' (fun he => hk' (by rw [he]))⟩, fun j hj => ?_, fun j => bf_ hh _⟩
 ·rw [h6, ← htake, ← hl, List.append_assoc, List.take_append_of_le_length (by rw [List.length_take, Array.length_toList]; omega), List.take_take, Nat.min_self]
 ·rw [cell_of_row W g _ cur _ (0, 0) hh]
  simp
  omega
theorem S_cleared {α : Type} (d : Kd α) {W : World} {base e g n c : Nat} {ok : Nat → Prop} {xs : List α} (HO : Kd.S d e W base ok (.slice (some ⟨g, 0, none⟩) n c) xs) (hn : n < c) (zs : List Value) (hz : zs.length = d.sz) :
  Kd.S d e (W.setCells g (n * d.sz) zs) base ok (.slice (some ⟨g, 0, none⟩) n c) xs ∧ W.grownBy (W.setCells g (n * d.sz) zs) (some g) ∧ (∀ j, j < d.sz → (W.cell? ⟨g, n * d.sz + j, none⟩).isSome = true) ∧ (∀ j, W.frozen? ⟨g, j, none⟩ = false) := by
 obtain ⟨f, HR⟩ := HO
 obtain ⟨h1, h2, h3, h4⟩ := R_cleared (Kd.tag f d) HR hn zs hz
 exact ⟨⟨f, h1⟩, h2, h3, h4⟩
theorem N_cleared {α : Type} (d : Kd α) {W : World} {base e g n c : Nat} {ok : Nat → Prop} {xs : List α} (HO : Kd.N d e W base ok (.slice (some ⟨g, 0, none⟩) n c) xs) (hn : n < c) (zs : List Value) (hz : zs.length = d.sz) :
  Kd.N d e (W.setCells g (n * d.sz) zs) base ok (.slice (some ⟨g, 0, none⟩) n c) xs ∧ W.grownBy (W.setCells g (n * d.sz) zs) (some g) ∧ (∀ j, j < d.sz → (W.cell? ⟨g, n * d.sz + j, none⟩).isSome = true) ∧ (∀ j, W.frozen? ⟨g, j, none⟩ = false) := by
 obtain ⟨h0, rows, hl, hR, hf⟩ := HO
 obtain ⟨h1, h2, h3, h4⟩ := R_cleared (Kd.raw d.sz) hR hn zs hz
 exact ⟨⟨h0, rows, hl, h1, fun j x cs hx hc => Kd.FK_step (hf j x cs hx hc) (fun k hk hlt => h2.block k hlt (fun he => hk.2 (by rw [he]; simp [Value.ownBlock])))⟩, h2, h3, h4⟩
theorem run_clear_one {P : Program} (w : World) (t e ty : TypeId) (z : Value) (ht : P.underlying t = some (.slice e)) (hv : ∀ w, (zeroValue e).run P w = .ok z w) (zs : List Value) (hz : z.cells = zs.toArray) (h1 : ∀ u ∈ zs, u.oneCell' = true) (b o c : Nat)
  (hc : ∀ j, j < zs.length → (w.cell? ⟨b, o + j, none⟩).isSome = true) (hf : ∀ j, j < zs.length → w.frozen? ⟨b, o + j, none⟩ = false) :
  (Builtin.clear_ #[t] ty #[.slice (some ⟨b, o, none⟩) 1 c]).run P w = .ok (.tuple #[]) (w.setCells b o zs) := by
 have hzc : (Builtin.zeroCells z.cells 1).toList = zs := by
  rw [hz]
  simp [Builtin.zeroCells]
  apply List.ext_getElem
  ·simp
  ·intro i h1 h2
   simp at h1 ⊢
   simp [Nat.mod_eq_of_lt h2]
   rw [List.getElem?_eq_getElem h2]; rfl
 have hst := run_storeCells_cells (P := P) b o zs 0 w (by simpa using hc) (by simpa using hf) h1
 simp only [Nat.add_zero] at hst
 simp [Builtin.clear_, run_underlying ht, hv, hzc, hst]
set_option maxHeartbeats 8000000 in
set_option maxRecDepth 100000 in
theorem slices_Delete_60.calls (P0_ : Nat → Prop) (g n c : Nat) (l0 : List S60) (i : Int) (w0 w : World) (hB : Below w0.heap.size w0 w) (ho : Kd.N k60 60 w w0.heap.size P0_ (.slice (some ⟨g, 0, none⟩) n c) l0) (h0 : 0 ≤ i) (h1 : i < (n : Int)) :
  Calls Try.prog 83 #[.slice (some ⟨g, 0, none⟩) n c, .int .i64 i, .int .i64 (wrap64 (i + 1))] w fun e w' => e = .returned (.slice (some ⟨g, 0, none⟩) (n - 1) c) ∧ Kd.N k60 60 w' w0.heap.size P0_ (.slice (some ⟨g, 0, none⟩) (n - 1) c) (l0.eraseIdx i.toNat) ∧ Below w0.heap.size w0 w' ∧ Kept w w' (fun k_ => k_ = g) := by
 obtain ⟨m, rfl⟩ : ∃ m : Nat, i = m := ⟨i.toNat, by omega⟩
 have hnc := (Kd.N_reads' ho).2.1
 have hcm : c ≤ 9223372036854775807 := by
  obtain ⟨_, _, _, ⟨_, inner, hown, _⟩, _⟩ := ho
  rcases hown.2 with ⟨hv, _⟩ | ⟨g', cap', cur, hv, _, _, _, hcm, _⟩
  ·cases hv
  ·cases hv; exact hcm
 obtain ⟨p, rfl⟩ : ∃ p, n = p + 1 := ⟨n - 1, by omega⟩
 have hm : m < p + 1 := by omega
 have hm2 : m ≤ p := by omega
 have hw : wrap64 ((m : Int) + 1) = ((m + 1 : Nat) : Int) := by unfold wrap64; omega
 rw [hw]
 have hbase := hB.size
 have HO := Aside0.mk ho
 have HB := Aside0.mk hB
 have hne : ¬ m = m + 1 := by omega
 have hc1 : m + 1 ≤ p + 1 := hm
 have hc2 : m ≤ c := by omega
 have hc3 : m + 1 ≤ c := by omega
 have hc4 : m ≤ m + 1 := by omega
 have hc5 : m ≤ p + 1 := by omega
 have hi1 : (0 : Int) ≤ (m : Int) + 1 := by omega
 have hi2 : (m : Int) + 1 ≤ ((p + 1 : Nat) : Int) := by omega
 clear ho hB hw h0 h1
 go_enter Try.func83, Try.ntmps83
 go_wp2_with fail
 refine start_ (n := 8) (S := fun w' => True) (ds := []) #[F, F, F, F, F, F, F, F] (by kernel_rfl) rfl rfl trivial (fun hHeld => ?_)
 refine pure_ (i := 0) (N := some 20) (v := ?_) (a' := ?_) #[T, F, F, F, F, F, F, F] rfl rfl (by kernel_rfl) (fun _ _ _ h => h) (Or.inl ⟨by rfl, ?_⟩) ?_ ?_
 rotate_left
 ·intro w'
  go_simp
  with_reducible rfl
 rotate_left
 ·simp only [pS]
  rfl
 refine pure_ (i := 1) (N := some 21) (v := ?_) (a' := ?_) #[T, T, F, F, F, F, F, F] rfl rfl (by kernel_rfl) (fun _ _ _ h => h) (Or.inl ⟨by rfl, ?_⟩) ?_ ?_
 rotate_left
 ·intro w'
  go_simp
  with_reducible rfl
 rotate_left
 ·simp only [pS]
  rfl
 refine pure_ (i := 2) (N := some 22) (v := ?_) (a' := ?_) #[T, T, T, F, F, F, F, F] rfl rfl (by kernel_rfl) (fun _ _ _ h => h) (Or.inl ⟨by rfl, ?_⟩) ?_ ?_
 rotate_left
 ·intro w'
  go_simp
  with_reducible rfl
 rotate_left
 ·simp only [pS]
  rfl
 refine pure_ (i := 3) (N := some 23) (v := ?_) (a' := ?_) #[T, T, T, T, F, F, F, F] rfl rfl (by kernel_rfl) (fun _ _ _ h => h) (Or.inl ⟨by rfl, ?_⟩) ?_ ?_
 rotate_left
 ·intro w'
  go_simp
  with_reducible rfl
 rotate_left
 ·simp only [pS]
  rfl
 refine pure_ (i := 4) (N := some 24) (v := ?_) (a' := ?_) #[T, T, T, T, T, F, F, F] rfl rfl (by kernel_rfl) (fun _ _ _ h => h) (Or.inl ⟨by rfl, ?_⟩) ?_ ?_
 rotate_left
 ·intro w'
  go_simp
  with_reducible rfl
 rotate_left
 ·simp only [pS]
  rfl
 refine pure_ (i := 5) (N := some 25) (v := ?_) (a' := ?_) #[T, T, T, T, T, T, F, F] rfl rfl (by kernel_rfl) (fun _ _ _ h => h) (Or.inl ⟨by rfl, ?_⟩) ?_ ?_
 rotate_left
 ·intro w'
  go_simp
  with_reducible rfl
 rotate_left
 ·simp only [pS]
  rfl
 refine one_ (i := 6) (N := some 26) #[T, T, T, T, T, T, T, F] rfl rfl (by kernel_rfl) (by decide) (fun K hK => ?_)
 refine Kd.N_delete_step k60 w0.heap.size (by rfl) (.tmp 22) (.tmp 25) 27 60 rfl Try.underlying27 (by kernel_rfl) (g := g) (n := p + 1) (c := c) (k := m) (m := p - m) rfl rfl ?hA (by omega) (Kd.N_drew HO.out) hm (below_drew HB.out) hbase ?_
 case hA =>
  by_cases hz : c = m + 1
  ·rw [if_pos hz, if_pos hz]
  rw [if_neg hz, if_neg hz]; show _ = some (Addr.add ⟨g, 0, none⟩ ((m + 1) * 8)); rw [add_at, Nat.zero_add]
 intro w1 ho hb hg
 refine hK.out _ _ trivial (fun hHeld => ?_)
 clear hK K
 refine norm_ (a' := ?_) ?_ ?_
 rotate_left
 ·show Act.put _ (some 26) _ = _
  simp only [pS]
  rfl
 refine pure_ (i := 7) (N := some 0) (v := ?_) (a' := ?_) #[T, T, T, T, T, T, T, T] rfl rfl (by kernel_rfl) (fun _ _ _ h => h) (Or.inl ⟨by rfl, ?_⟩) ?_ ?_
 rotate_left
 ·intro w'
  go_simp
  with_reducible rfl
 rotate_left
 ·simp only [pS]
  rfl
 refine done_ (by kernel_rfl) ?_
 have hpc : p < c := by omega
 rw [Nat.add_sub_cancel] at ho
 obtain ⟨hN2, hg2, hcs, hfr⟩ := N_cleared k60 ho hpc [.int .i64 0, .int .i64 0, .int .i64 0, .int .i64 0, .int .i64 0, .int .i64 0, .int .i64 0, .slice none 0 0] rfl
 have hcl : ∀ ty, (Builtin.clear_ #[27] ty #[.slice (some ⟨g, p * 8, none⟩) 1 (c - p)]).run Try.prog w1 = .ok (.tuple #[]) (w1.setCells g (p * 8) [.int .i64 0, .int .i64 0, .int .i64 0, .int .i64 0, .int .i64 0, .int .i64 0, .int .i64 0, .slice none 0 0]) :=
  fun ty => run_clear_one w1 27 60 ty (.agg #[.int .i64 0, .int .i64 0, .int .i64 0, .int .i64 0, .int .i64 0, .int .i64 0, .int .i64 0, .slice none 0 0]) Try.underlying27 (fun _ => by kernel_rfl) [.int .i64 0, .int .i64 0, .int .i64 0, .int .i64 0, .int .i64 0, .int .i64 0, .int .i64 0, .slice none 0 0] rfl (by decide) g (p * 8) (c - p) (fun j hj => hcs j hj) (fun j hj => hfr _)
 replace hN2 : Kd.N k60 60 (w1.setCells g (p * 8) [.int .i64 0, .int .i64 0, .int .i64 0, .int .i64 0, .int .i64 0, .int .i64 0, .int .i64 0, .slice none 0 0]) w0.heap.size P0_ (.slice (some ⟨g, 0, none⟩) p c) (l0.eraseIdx m) := hN2
 replace hg2 : w1.grownBy (w1.setCells g (p * 8) [.int .i64 0, .int .i64 0, .int .i64 0, .int .i64 0, .int .i64 0, .int .i64 0, .int .i64 0, .slice none 0 0]) (some g) := hg2
 generalize w1.setCells g (p * 8) [.int .i64 0, .int .i64 0, .int .i64 0, .int .i64 0, .int .i64 0, .int .i64 0, .int .i64 0, .slice none 0 0] = W2 at hN2 hg2 hcl
 have HN := Aside0.mk hN2
 have HG := Aside0.mk hg
 have HG2 := Aside0.mk hg2
 have HB2 := Aside0.mk (hb.grown hg2 (Nat.le_trans hbase hg.size) (fun k hk => by injection hk with hk; subst hk; exact (Kd.N_base ho) _ (by simp [Value.ownBlock])))
 have hp1 : p ≤ c := by omega
 have hp2 : p + 1 ≤ c := by omega
 have hp3 : p ≤ p + 1 := by omega
 have hp4 : ¬ c = p := by omega
 clear hN2 hg hg2 hcs hfr ho hb
 go_wp2
 all_goals (go_ret; first | exact ⟨rfl, HN.out, HB2.out, Kept.of_grown HG2.out (Kept.of_grown HG.out (Kept.drew (Kept.refl w _)) (fun k hk => .inl (by injection hk with hk; exact hk.symm))) (fun k hk => .inl (by injection hk with hk; exact hk.symm))⟩ | (subst h; exact ⟨rfl, HN.out, HB2.out, Kept.of_grown HG2.out (Kept.of_grown HG.out (Kept.drew (Kept.refl w _)) (fun k hk => .inl (by injection hk with hk; exact hk.symm))) (fun k hk => .inl (by injection hk with hk; exact hk.symm))⟩))
end Go.Proofs.Ytbdehpmfemgooaa.PFnBlocked
