-- Written by a program of this session (wip/xp): not trusted, Lean checks it.
import Derived.Test.YtflopendlbciaaaPFnLinkOncex0
import Derived.Test.YtflopendlbciaaaPFnLinkOncex1
namespace Go.Proofs.Ytflopendlbciaaa.PFnLinkOnce
open Go.RowKit Go.Proofs.YtflopendlbciaaaW.PrintWords Go.Proofs.YtflopendlbciaaaW.PrintLast Go.Proofs.YtflopendlbciaaaW.PrintMore
attribute [local go_sem] max2_int min2_int max_two min_two max_three min_three max_four min_four   -- for this text's walks alone
set_option linter.unusedVariables false
set_option linter.unusedSimpArgs false

/-! ### impl_copyFrame: function 45 -/
def impl_copyFrame.f (a0_0 : Int) (l0_1 : List Int) : Option (Int × List Int) := (slices_Clone_int_int.f l0_1).bind fun t174 => (some (a0_0, t174))
set_option maxHeartbeats 8000000 in
set_option maxRecDepth 100000 in
theorem impl_copyFrame.calls (a0_0 : Int) (A0_1 : Option Addr) (c0_1 : Nat) (l0_1 : List Int) (r1 : Int) (r2 : List Int) (w : World) (hr0_1 : Kd.C (Kd.int .i64) w A0_1 l0_1.length l0_1) (hc0_1 : l0_1.length ≤ c0_1) (h : impl_copyFrame.f a0_0 l0_1 = some (r1, r2)) :
  Calls Try.prog 45 #[.agg #[.int .i64 a0_0, .slice A0_1 l0_1.length c0_1]] w fun e w' => ∃ v1_ : Value, e = .returned (.agg #[.int .i64 r1, v1_]) ∧ Kd.R (Kd.int .i64) 3 w' w.heap.size (fun _ => True) v1_ r2 ∧ Below w.heap.size w w' := by
 have hu68 := Try.underlying68
 have HR0_1 := A_.mk hr0_1
 have HC0_1 := A_.mk hc0_1
 clear hr0_1 hc0_1
 have HB := A_.mk (Below.refl w.heap.size w)
 have H : ((slices_Clone_int_int.f l0_1).bind fun t174 => (some (a0_0, t174))) = some (r1, r2) := h
 clear h
 replace H := ob_ H
 obtain ⟨t174, A20, H⟩ := H
 have A2 := A_.mk A20
 clear A20
 simp only [Option.some.injEq, Prod.mk.injEq] at H
 obtain ⟨rfl, rfl⟩ := H
 go_enter Try.func45, Try.ntmps45
 try go_wp2_with (first | ((with_reducible refine gd_ (N := 1) rfl ?_); refine by_ 1 (cs := #[.int .i64 a0_0, .slice A0_1 l0_1.length c0_1]) (t := 68) ?_; intro gb172 hg w3 hbox hb; have n0_ := A_.mk (bt_ (beY HB.out) hb); have n1_ := A_.mk (hbox); have n2_ := A_.mk ((by rw [hg]; exact (bz_ (beY HB.out)) : w.heap.size ≤ gb172)); have n3_ := A_.mk ((by rw [hg]; exact (bz_ (beY HB.out)) : w.heap.size ≤ gb172)); clear HB; have HB := n0_; have BK172 := n1_; have GW172 := n2_; have GE172 := n3_; clear n0_ n1_ n2_ n3_ hb hbox hg) | ((with_reducible refine gd_ (N := 2) rfl ?_); refine by_ 2 (cs := #[.int .i64 0, .slice none 0 0]) (t := 68) ?_; intro gb173 hg w4 hbox hb; have n0_ := A_.mk (bb_ (bY BK172.out) hb); have n1_ := A_.mk (bt_ (by repeat (first | (with_reducible first | exact HB.out | apply ba_ | apply bd_ | apply be_ | refine bs_ ?_ GE172.out) | exact HB.out)) hb); have n2_ := A_.mk (hbox); have n3_ := A_.mk ((by rw [hg]; exact (bz_ (by repeat (first | (with_reducible first | exact HB.out | apply ba_ | apply bd_ | apply be_ | refine bs_ ?_ GE172.out) | exact HB.out))) : w.heap.size ≤ gb173)); have n4_ := A_.mk ((by rw [hg]; exact (bz_ (by repeat (first | (with_reducible first | exact HB.out | apply ba_ | apply bd_ | apply be_ | refine bs_ ?_ GE172.out) | exact HB.out))) : w.heap.size ≤ gb173)); have n5_ := A_.mk ((by rw [hg]; exact Nat.ne_of_lt (blk_lt (bY BK172.out)) : gb172 ≠ gb173)); have n6_ := A_.mk ((by rw [hg]; exact Nat.ne_of_gt (blk_lt (bY BK172.out)) : gb173 ≠ gb172)); clear BK172 HB; have BK172 := n0_; have HB := n1_; have BK173 := n2_; have GW173 := n3_; have GE173 := n4_; have NB172_173 := n5_; have NB173_172 := n6_; clear n0_ n1_ n2_ n3_ n4_ n5_ n6_ hb hbox hg))
 have n0_ := A_.mk (bw_ BK172.out)
 have n1_ := A_.mk (bw_ BK173.out)
 have n2_ := A_.mk (be_ HB.out)
 clear BK172 BK173 HB
 have BK172 := n0_
 have BK173 := n1_
 have HB := n2_
 clear n0_ n1_ n2_
 refine start_ (n := 7) (S := fun w' => w'.cell? ⟨gb172, 0, none⟩ = some (.int .i64 a0_0) ∧ w'.cell? ⟨gb172, 1, none⟩ = some (.slice A0_1 l0_1.length c0_1)) (ds := []) #[F, F, F, F, F, F, F] (by kernel_rfl) rfl rfl ⟨(bc_ BK172.out 0).trans rfl, (bc_ BK172.out 1).trans rfl⟩ (fun hHeld => ?_)
 generalize w4.drew = w5 at BK172 BK173 HB hHeld ⊢
 refine pd_ (i := 0) (N := some 3) #[T, F, F, F, F, F, F] rfl ?_
 refine pd_ (i := 2) (N := some 5) #[T, F, T, F, F, F, F] rfl ?_
 refine tl_ (i := 1) (N := some 4) #[T, T, T, F, F, F, F] rfl hHeld ?_
 refine tl_ (i := 3) (N := some 6) #[T, T, T, T, F, F, F] rfl hHeld ?_
 refine on_ (i := 4) (N := some 7) #[T, T, T, T, T, F, F] rfl (fun K hK => ?_)
 refine gz_ Try.func24 #[.slice A0_1 l0_1.length c0_1] ?_
 with_reducible refine (slices_Clone_int_int.calls _ _ l0_1 t174 _ ?side1 ?side2 A2.out).mono ?_
 (case side1 => exact cY ((Kd.C_below HR0_1.out HB.out)))
 (case side2 => exact HC0_1.out)
 rintro e w6 ⟨v175, rfl, ho0, hb⟩
 refine ⟨_, rfl, ?_⟩
 have n0_ := A_.mk (Kd.R_lower ho0 (bz_ (by repeat (first | (with_reducible first | exact HB.out | apply ba_ | apply bd_ | apply be_ | refine bs_ ?_ GE172.out | refine bs_ ?_ GE173.out) | exact HB.out))))
 have n1_ := A_.mk (bb_ (bY BK172.out) hb)
 have n2_ := A_.mk (bb_ (bY BK173.out) hb)
 have n3_ := A_.mk (bt_ (by repeat (first | (with_reducible first | exact HB.out | apply ba_ | apply bd_ | apply be_ | refine bs_ ?_ GE172.out | refine bs_ ?_ GE173.out) | exact HB.out)) hb)
 clear BK172 BK173 HB
 have HO176 := n0_
 have BK172 := n1_
 have BK173 := n2_
 have HB := n3_
 clear n0_ n1_ n2_ n3_
 obtain ⟨Ao7, co7, eo7⟩ := Kd.R_slice HO176.out
 (first | subst eo7 | (injection eo7 with f1_ f2_ f3_; have f4_ := f1_.symm; have f5_ := f3_.symm; clear f1_ f2_ f3_; subst f4_; subst f5_))
 refine hK.out _ _ ⟨(bc_ BK172.out 0).trans rfl, (bc_ BK172.out 1).trans rfl⟩ (fun hHeld => ?_)
 clear hK K
 refine nm_ ?_
 refine pd_ (i := 5) (N := some 8) #[T, T, T, T, T, T, F] rfl ?_
 refine on_ (i := 6) (N := none) #[T, T, T, T, T, T, T] rfl (fun K hK => ?_)
 have hs8 : w6.cell? ⟨gb173, 0, none⟩ = some (.int .i64 0) := (bc_ BK173.out 0).trans rfl
 have hfs8 := bf_ BK173.out 0
 have hns8_0 := NB172_173.out
 have hms8_0 := NB173_172.out
 have hs9 : w6.cell? ⟨gb173, 1, none⟩ = some (.slice none 0 0) := (bc_ BK173.out 1).trans rfl
 have hfs9 := bf_ BK173.out 1
 have hns9_0 := NB172_173.out
 have hms9_0 := NB173_172.out
 refine skip_ (w1 := ?_) (by rfl) rfl ?_ ?_
 rotate_left
 ·go_simp
  rfl
 refine hK.out _ _ ⟨((cell_far (p := ⟨gb173, _, none⟩) NB172_173.out _).trans (((cell_far (p := ⟨gb173, _, none⟩) NB172_173.out _).trans (hHeld.1)))), ((cell_far (p := ⟨gb173, _, none⟩) NB172_173.out _).trans (((cell_far (p := ⟨gb173, _, none⟩) NB172_173.out _).trans (hHeld.2))))⟩ (fun hHeld => ?_)
 clear hK K
 refine done_ (by kernel_rfl) ?_
 try go_wp2
 refine bodyPost_ret (results_cell_row rfl _ _ gb173 68 #[.int .i64 a0_0, .slice Ao7 t174.length co7] (0, 0) _ rfl (by (repeat apply bX); refine bp_ (cs := #[.int .i64 a0_0, .slice none 0 0]) ?_ 1 _ rfl; (repeat apply bX); refine bp_ (cs := #[.int .i64 0, .slice none 0 0]) ?_ 0 _ rfl; (repeat apply bX); exact BK173.out) Try.underlying68 rfl (by kernel_rfl)) rfl ?_
 exact ⟨_, by first | rfl | (simp [errW_none, errW_some] <;> rfl) | (simp [*, errW_none, errW_some] <;> rfl), by (repeat apply rX); exact Kd.R_mono (Kd.R_far (p := ⟨gb173, 1, none⟩) (Kd.R_far (p := ⟨gb173, 0, none⟩) (Kd.R_types HO176.out BK173.out (by decide)) (fun _ hk => hk.2) (.int .i64 a0_0)) (fun _ hk => hk.2) (.slice Ao7 t174.length co7)) (fun _ hk => trivial), by repeat (first | (with_reducible first | exact HB.out | apply ba_ | apply bd_ | apply be_ | refine bs_ ?_ GE172.out | refine bs_ ?_ GE173.out) | exact HB.out)⟩
/-! ### impl_copySender: function 21 -/
def impl_copySender.l0 : Nat → List (S68) → Int → Int → Int → List (S68) → Int → Option (Int × (List (S68)) × Int)
 | 0, _, _, _, _, _, _ => none
 | k + 1, x12, x13, x14, x180000, x180001, x180002 => if x14 < x13 then (if 0 ≤ x14 then (if x14 < (x12.length : Int) then ((impl_copyFrame.f ((rd_T68 x12 x14).f0) ((rd_T68 x12 x14).f1)).bind fun bt182 => (if x180001.length < 4398046511104 then (impl_copySender.l0 k x12 x13 (wrap64 (x14 + 1)) x180000 (x180001 ++ [(⟨bt182.1, bt182.2⟩ : S68)]) x180002) else (none))) else (none)) else (none)) else (some (x180000, x180001, x180002))
def impl_copySender.f (k : Nat) (a0_0 : Int) (l0_1 : List (S68)) (a0_2 : Int) : Option (Int × (List (S68)) × Int) := impl_copySender.l0 k l0_1 (l0_1.length : Int) 0 a0_0 ([] : List (S68)) a0_2
def impl_copySender.T5 : Bool × List (List Nat × List Nat) := (true, [([], []), ([0], [0]), ([], []), ([2], [2]), ([3], [3]), ([1, 4, 3], [1, 4]), ([0, 1, 2, 3, 4, 5], []), ([6, 5, 5, 0, 1, 2, 3, 4, 5], [5, 6])])
def impl_copySender.B5 : List Nat := [0, 1, 0, 4, 12, 31, 63, 127]
theorem impl_copySender.tab5 : rtab .any (opsOf Try.f21 5) = impl_copySender.T5 := by kernel_rfl
theorem impl_copySender.bits5 : waitsOk impl_copySender.T5.2 impl_copySender.B5 = true := by kernel_rfl
set_option maxHeartbeats 8000000 in
set_option maxRecDepth 100000 in
theorem impl_copySender.calls (k : Nat) (a0_0 : Int) (A0_1 : Option Addr) (c0_1 : Nat) (l0_1 : List (S68)) (a0_2 : Int) (r1 : Int) (r2 : List (S68)) (r3 : Int) (w : World) (hr0_1 : Kd.C k68 w A0_1 l0_1.length l0_1) (hc0_1 : l0_1.length ≤ c0_1) (h : impl_copySender.f k a0_0 l0_1 a0_2 = some (r1, r2, r3)) :
  Calls Try.prog 21 #[.agg #[.int .i64 a0_0, .slice A0_1 l0_1.length c0_1, .int .i64 a0_2]] w fun e w' => ∃ v1_ : Value, e = .returned (.agg #[.int .i64 r1, v1_, .int .i64 r3]) ∧ Kd.S k68 68 w' w.heap.size (fun _ => True) v1_ r2 ∧ Below w.heap.size w w' := by
 have hu28 := Try.underlying28
 have hu68 := Try.underlying68
 have HR0_1 := A_.mk hr0_1
 have HC0_1 := A_.mk hc0_1
 clear hr0_1 hc0_1
 have HB := A_.mk (Below.refl w.heap.size w)
 have H : (impl_copySender.l0 k l0_1 (l0_1.length : Int) 0 a0_0 ([] : List (S68)) a0_2) = some (r1, r2, r3) := h
 clear h
 have H' := A_.mk H
 clear H
 go_enter Try.func21, Try.ntmps21
 go_wp2_with (first | ((with_reducible refine gd_ (N := 1) rfl ?_); refine by_ 1 (cs := #[.int .i64 a0_0, .slice A0_1 l0_1.length c0_1, .int .i64 a0_2]) (t := 28) ?_; intro gb177 hg w2 hbox hb; have n0_ := A_.mk (bt_ (beY HB.out) hb); have n1_ := A_.mk (hbox); have n2_ := A_.mk ((by rw [hg]; exact (bz_ (beY HB.out)) : w.heap.size ≤ gb177)); have n3_ := A_.mk ((by rw [hg]; exact (bz_ (beY HB.out)) : w.heap.size ≤ gb177)); clear HB; have HB := n0_; have BK177 := n1_; have GW177 := n2_; have GE177 := n3_; clear n0_ n1_ n2_ n3_ hb hbox hg) | ((with_reducible refine gd_ (N := 2) rfl ?_); refine by_ 2 (cs := #[.int .i64 0, .slice none 0 0, .int .i64 0]) (t := 28) ?_; intro gb178 hg w3 hbox hb; have n0_ := A_.mk (bb_ (bY BK177.out) hb); have n1_ := A_.mk (bt_ (by repeat (first | (with_reducible first | exact HB.out | apply ba_ | apply bd_ | apply be_ | refine bs_ ?_ GE177.out) | exact HB.out)) hb); have n2_ := A_.mk (hbox); have n3_ := A_.mk ((by rw [hg]; exact (bz_ (by repeat (first | (with_reducible first | exact HB.out | apply ba_ | apply bd_ | apply be_ | refine bs_ ?_ GE177.out) | exact HB.out))) : w.heap.size ≤ gb178)); have n4_ := A_.mk ((by rw [hg]; exact (bz_ (by repeat (first | (with_reducible first | exact HB.out | apply ba_ | apply bd_ | apply be_ | refine bs_ ?_ GE177.out) | exact HB.out))) : w.heap.size ≤ gb178)); have n5_ := A_.mk ((by rw [hg]; exact Nat.ne_of_lt (blk_lt (bY BK177.out)) : gb177 ≠ gb178)); have n6_ := A_.mk ((by rw [hg]; exact Nat.ne_of_gt (blk_lt (bY BK177.out)) : gb178 ≠ gb177)); clear BK177 HB; have BK177 := n0_; have HB := n1_; have BK178 := n2_; have GW178 := n3_; have GE178 := n4_; have NB177_178 := n5_; have NB178_177 := n6_; clear n0_ n1_ n2_ n3_ n4_ n5_ n6_ hb hbox hg; have hnb4 := NB177_178.out; have hnc4 := NB178_177.out; have hcz5_0 : w3.cell? ⟨gb177, 0, none⟩ = some (.int .i64 a0_0) := (bc_ BK177.out 0).trans rfl; have hcz5_1 : w3.cell? ⟨gb177, 1, none⟩ = some (.slice A0_1 l0_1.length c0_1) := (bc_ BK177.out 1).trans rfl; have hcz5_2 : w3.cell? ⟨gb177, 2, none⟩ = some (.int .i64 a0_2) := (bc_ BK177.out 2).trans rfl; have hfz5_0 := bf_ BK177.out 0; have hfz5_1 := bf_ BK177.out 1; have hfz5_2 := bf_ BK177.out 2) | ((with_reducible refine gd_ (N := 3) rfl ?_); refine by_ 3 (cs := #[.int .i64 0, .slice none 0 0, .int .i64 0]) (t := 28) ?_; intro gb179 hg w6 hbox hb; have n0_ := A_.mk (bb_ (bY BK177.out) hb); have n1_ := A_.mk (bb_ (bY BK178.out) hb); have n2_ := A_.mk (bt_ (by repeat (first | (with_reducible first | exact HB.out | apply ba_ | apply bd_ | apply be_ | refine bs_ ?_ GE177.out | refine bs_ ?_ GE178.out) | exact HB.out)) hb); have n3_ := A_.mk (hbox); have n4_ := A_.mk ((by rw [hg]; exact (bz_ (by repeat (first | (with_reducible first | exact HB.out | apply ba_ | apply bd_ | apply be_ | refine bs_ ?_ GE177.out | refine bs_ ?_ GE178.out) | exact HB.out))) : w.heap.size ≤ gb179)); have n5_ := A_.mk ((by rw [hg]; exact (bz_ (by repeat (first | (with_reducible first | exact HB.out | apply ba_ | apply bd_ | apply be_ | refine bs_ ?_ GE177.out | refine bs_ ?_ GE178.out) | exact HB.out))) : w.heap.size ≤ gb179)); have n6_ := A_.mk ((by rw [hg]; exact Nat.ne_of_lt (blk_lt (bY BK177.out)) : gb177 ≠ gb179)); have n7_ := A_.mk ((by rw [hg]; exact Nat.ne_of_gt (blk_lt (bY BK177.out)) : gb179 ≠ gb177)); have n8_ := A_.mk ((by rw [hg]; exact Nat.ne_of_lt (blk_lt (bY BK178.out)) : gb178 ≠ gb179)); have n9_ := A_.mk ((by rw [hg]; exact Nat.ne_of_gt (blk_lt (bY BK178.out)) : gb179 ≠ gb178)); clear BK177 BK178 HB; have BK177 := n0_; have BK178 := n1_; have HB := n2_; have BK179 := n3_; have GW179 := n4_; have GE179 := n5_; have NB177_179 := n6_; have NB179_177 := n7_; have NB178_179 := n8_; have NB179_178 := n9_; clear n0_ n1_ n2_ n3_ n4_ n5_ n6_ n7_ n8_ n9_ hb hbox hg; have hnb7 := NB179_177.out; have hnc7 := NB177_179.out; have hnb8 := NB179_178.out; have hnc8 := NB178_179.out; have hcz9_0 : w6.cell? ⟨gb179, 0, none⟩ = some (.int .i64 0) := (bc_ BK179.out 0).trans rfl; have hcz9_1 : w6.cell? ⟨gb179, 1, none⟩ = some (.slice none 0 0) := (bc_ BK179.out 1).trans rfl; have hcz9_2 : w6.cell? ⟨gb179, 2, none⟩ = some (.int .i64 0) := (bc_ BK179.out 2).trans rfl; have hfz9_0 := bf_ BK179.out 0; have hfz9_1 := bf_ BK179.out 1; have hfz9_2 := bf_ BK179.out 2; have hcz10_0 : w6.cell? ⟨gb177, 0, none⟩ = some (.int .i64 a0_0) := (bc_ BK177.out 0).trans rfl; have hcz10_1 : w6.cell? ⟨gb177, 1, none⟩ = some (.slice A0_1 l0_1.length c0_1) := (bc_ BK177.out 1).trans rfl; have hcz10_2 : w6.cell? ⟨gb177, 2, none⟩ = some (.int .i64 a0_2) := (bc_ BK177.out 2).trans rfl; have hfz10_0 := bf_ BK177.out 0; have hfz10_1 := bf_ BK177.out 1; have hfz10_2 := bf_ BK177.out 2))
 go_loopg [14] k (fun kq v14 w' => ∃ (x14_1 : Int) (x180001_1 : List (S68)) (u180001 : Value), v14 = .int .i64 x14_1 ∧ A_ (impl_copySender.l0 kq l0_1 (l0_1.length : Int) x14_1 a0_0 x180001_1 a0_2 = some (r1, r2, r3)) ∧ A_ (kq ≤ k) ∧ A_ (Kd.S k68 68 w' w.heap.size (fun _ => True) u180001 x180001_1) ∧ A_ (w'.heap[gb177]? = some (.cells #[.int .i64 a0_0, (.slice A0_1 l0_1.length c0_1), .int .i64 a0_2] 28 (0, 0))) ∧ A_ (w'.heap[gb178]? = some (.cells #[.int .i64 0, (.slice none 0 0), .int .i64 0] 28 (0, 0))) ∧ A_ (w'.heap[gb179]? = some (.cells #[.int .i64 a0_0, u180001, .int .i64 a0_2] 28 (0, 0))) ∧ A_ (Below w.heap.size w w'))
 case atStart => exact ⟨(0), (([] : List (S68))), (.slice none 0 0), (by first | rfl | (simp; done) | (simp [*]; done)), H', ⟨Nat.le_refl _⟩, ⟨by first | exact Kd.S_nil _ _ _ _ _ | exact Kd.N_nil _ _ _ _ _ | exact Kd.V_nil _ _ _ _ _ | exact Kd.Q_nil _ _ _ _ _ | exact Kd.R_nil _ _ _ _ _⟩, ⟨by (repeat apply bX); refine blk_far ?_ NB177_179.out _; (repeat apply bX); refine blk_far ?_ NB177_179.out _; (repeat apply bX); refine blk_far ?_ NB177_179.out _; (repeat apply bX); exact BK177.out⟩, ⟨by (repeat apply bX); refine blk_far ?_ NB178_179.out _; (repeat apply bX); refine blk_far ?_ NB178_179.out _; (repeat apply bX); refine blk_far ?_ NB178_179.out _; (repeat apply bX); exact BK178.out⟩, ⟨by (repeat apply bX); refine bp_ (cs := #[.int .i64 a0_0, .slice none 0 0, .int .i64 0]) ?_ 2 _ rfl; (repeat apply bX); refine bp_ (cs := #[.int .i64 a0_0, .slice none 0 0, .int .i64 0]) ?_ 1 _ rfl; (repeat apply bX); refine bp_ (cs := #[.int .i64 0, .slice none 0 0, .int .i64 0]) ?_ 0 _ rfl; (repeat apply bX); exact BK179.out⟩, ⟨by repeat (first | (with_reducible first | exact HB.out | apply ba_ | apply bd_ | apply be_ | refine bs_ ?_ GE177.out | refine bs_ ?_ GE178.out | refine bs_ ?_ GE179.out) | exact HB.out)⟩⟩
 case round =>
  clear H'
  obtain ⟨x14_1, x180001_1, u180001, rfl, HA, HK1, HO_180001, BK177, BK178, BK179, HB⟩ := hrel
  cases gk with
  | zero => exact absurd HA.out (by simp [impl_copySender.l0])
  | succ k1 =>
   have H := HA.out
   clear HA
   simp only [impl_copySender.l0] at H
   by_cases c11 : x14_1 < (l0_1.length : Int)
   rotate_left
   ·rw [if_neg c11] at H
    have c11b0 : decide (x14_1 < (l0_1.length : Int)) = false := decide_eq_false c11
    clear c11
    simp only [Option.some.injEq, Prod.mk.injEq] at H
    obtain ⟨rfl, rfl, rfl⟩ := H
    have hnb28 := NB179_177.out
    have hnc28 := NB177_179.out
    have hnb29 := NB179_178.out
    have hnc29 := NB178_179.out
    obtain ⟨hcz30_0, hcz30_1, hcz30_2, hfz30_0, hfz30_1, hfz30_2⟩ := b3 BK179.out
    have hnb31 := NB178_177.out
    have hnc31 := NB177_178.out
    obtain ⟨hcz32_0, hcz32_1, hcz32_2, hfz32_0, hfz32_1, hfz32_2⟩ := b3 BK178.out
    obtain ⟨Ao33, co33, eo33⟩ := Kd.S_slice HO_180001.out
    subst eo33
    go_wp2
    refine bodyPost_ret (results_cell_row rfl _ _ gb178 28 #[.int .i64 a0_0, .slice Ao33 x180001_1.length co33, .int .i64 a0_2] (0, 0) _ rfl (by (repeat apply bX); refine bp_ (cs := #[.int .i64 a0_0, .slice Ao33 x180001_1.length co33, .int .i64 0]) ?_ 2 _ rfl; (repeat apply bX); refine bp_ (cs := #[.int .i64 a0_0, .slice none 0 0, .int .i64 0]) ?_ 1 _ rfl; (repeat apply bX); refine bp_ (cs := #[.int .i64 0, .slice none 0 0, .int .i64 0]) ?_ 0 _ rfl; (repeat apply bX); exact BK178.out) Try.underlying28 rfl (by kernel_rfl)) rfl ?_
    exact ⟨_, by first | rfl | (simp [errW_none, errW_some] <;> rfl) | (simp [*, errW_none, errW_some] <;> rfl), by (with_reducible repeat (first | apply Kd.S_alloc | apply Kd.S_drewN | apply Kd.S_drew)); exact Kd.S_mono (Kd.S_far (p := ⟨gb178, 2, none⟩) (Kd.S_far (p := ⟨gb178, 1, none⟩) (Kd.S_far (p := ⟨gb178, 0, none⟩) (Kd.S_types HO_180001.out BK178.out (by decide)) (fun _ hk => hk.2) (.int .i64 a0_0)) (fun _ hk => hk.2) (.slice Ao33 x180001_1.length co33)) (fun _ hk => hk.2) (.int .i64 a0_2)) (fun _ hk => trivial), by repeat (first | (with_reducible first | exact HB.out | apply ba_ | apply bd_ | apply be_ | refine bs_ ?_ GE177.out | refine bs_ ?_ GE178.out | refine bs_ ?_ GE179.out) | exact HB.out)⟩
   rw [if_pos c11] at H
   have c11b0 : decide (x14_1 < (l0_1.length : Int)) = true := decide_eq_true c11
   clear c11
   by_cases c12 : 0 ≤ x14_1
   rotate_left
   ·rw [if_neg c12] at H
    exact absurd H (by simp)
   rw [if_pos c12] at H
   have c12b0 : decide (0 ≤ x14_1) = true := decide_eq_true c12
   clear c12
   by_cases c13 : x14_1 < (l0_1.length : Int)
   rotate_left
   ·rw [if_neg c13] at H
    exact absurd H (by simp)
   rw [if_pos c13] at H
   have c13b0 : decide (x14_1 < (l0_1.length : Int)) = true := decide_eq_true c13
   clear c13
   replace H := ob_ H
   obtain ⟨⟨t182, t183⟩, A140, H⟩ := H
   replace H : (if x180001_1.length < 4398046511104 then (impl_copySender.l0 k1 l0_1 (l0_1.length : Int) (wrap64 (x14_1 + 1)) a0_0 (x180001_1 ++ [(⟨t182, t183⟩ : S68)]) a0_2) else (none)) = some (r1, r2, r3) := H
   have A14 := A_.mk A140
   clear A140
   by_cases c15 : x180001_1.length < 4398046511104
   rotate_left
   ·rw [if_neg c15] at H
    exact absurd H (by simp)
   rw [if_pos c15] at H
   have LMc15 := A_.mk c15
   clear c15
   obtain ⟨y186, hy186⟩ : ∃ y_ : List (S68), y_ = (x180001_1 ++ [(⟨t182, t183⟩ : S68)]) := ⟨_, rfl⟩
   replace H : (impl_copySender.l0 k1 l0_1 (l0_1.length : Int) (wrap64 (x14_1 + 1)) a0_0 y186 a0_2) = some (r1, r2, r3) := by first | (rw [hy186]; with_reducible exact H) | (have H2_ := (Option.bind_some _ _).symm.trans H; rw [hy186]; with_reducible exact H2_) | (have H2_ := (Option.bind_some _ _).symm.trans H; with_reducible exact H2_) | with_reducible exact H | (rw [hy186]; exact H) | exact H
   have Ny186 := A_.mk hy186
   clear hy186
   have H' := A_.mk H
   clear H
   have p180 : 0 ≤ (x14_1 : Int) := od_
   have q180 : x14_1 < (l0_1.length : Int) := od_
   obtain ⟨ad180, A180_1, c180_1, e180, hx180_0, hx180_1, hl180_1, hi180_1⟩ := at_T68 HR0_1.out x14_1 p180 q180
   cases e180
   replace hx180_0 := (HB.out.cell (wl_ w _ hx180_0)).trans hx180_0
   replace hx180_1 := (HB.out.cell (wl_ w _ hx180_1)).trans hx180_1
   have HR180_1 := A_.mk hi180_1
   have HC180_1 := A_.mk hl180_1
   clear hi180_1 hl180_1
   replace p180 := eq_true p180
   replace q180 := eq_true q180
   try go_wp2_with (first | ((with_reducible refine gd_ (N := 5) rfl ?_); refine by_ 5 (cs := #[.int .i64 0, .slice none 0 0]) (t := 68) ?_; intro gb181 hg w16 hbox hb; have n0_ := A_.mk (Kd.S_below (Kd.S_elderB (by (with_reducible repeat (first | apply Kd.S_alloc | apply Kd.S_drewN | apply Kd.S_drew)); exact HO_180001.out) gb181 (Nat.le_of_eq hg.symm)) hb); have n1_ := A_.mk (bb_ (bY BK177.out) hb); have n2_ := A_.mk (bb_ (bY BK178.out) hb); have n3_ := A_.mk (bb_ (bY BK179.out) hb); have n4_ := A_.mk (bt_ (by repeat (first | (with_reducible first | exact HB.out | apply ba_ | apply bd_ | apply be_ | refine bs_ ?_ GE177.out | refine bs_ ?_ GE178.out | refine bs_ ?_ GE179.out) | exact HB.out)) hb); have n5_ := A_.mk (hbox); have n6_ := A_.mk ((by rw [hg]; exact (bz_ (by repeat (first | (with_reducible first | exact HB.out | apply ba_ | apply bd_ | apply be_ | refine bs_ ?_ GE177.out | refine bs_ ?_ GE178.out | refine bs_ ?_ GE179.out) | exact HB.out))) : w.heap.size ≤ gb181)); have n7_ := A_.mk ((by rw [hg]; exact (bz_ (by repeat (first | (with_reducible first | exact HB.out | apply ba_ | apply bd_ | apply be_ | refine bs_ ?_ GE177.out | refine bs_ ?_ GE178.out | refine bs_ ?_ GE179.out) | exact HB.out))) : w.heap.size ≤ gb181)); have n8_ := A_.mk ((by rw [hg]; exact Nat.ne_of_lt (blk_lt (bY BK177.out)) : gb177 ≠ gb181)); have n9_ := A_.mk ((by rw [hg]; exact Nat.ne_of_gt (blk_lt (bY BK177.out)) : gb181 ≠ gb177)); have n10_ := A_.mk ((by rw [hg]; exact Nat.ne_of_lt (blk_lt (bY BK178.out)) : gb178 ≠ gb181)); have n11_ := A_.mk ((by rw [hg]; exact Nat.ne_of_gt (blk_lt (bY BK178.out)) : gb181 ≠ gb178)); have n12_ := A_.mk ((by rw [hg]; exact Nat.ne_of_lt (blk_lt (bY BK179.out)) : gb179 ≠ gb181)); have n13_ := A_.mk ((by rw [hg]; exact Nat.ne_of_gt (blk_lt (bY BK179.out)) : gb181 ≠ gb179)); clear HO_180001 BK177 BK178 BK179 HB; have HO_180001 := n0_; have BK177 := n1_; have BK178 := n2_; have BK179 := n3_; have HB := n4_; have BK181 := n5_; have GW181 := n6_; have GE181 := n7_; have NB177_181 := n8_; have NB181_177 := n9_; have NB178_181 := n10_; have NB181_178 := n11_; have NB179_181 := n12_; have NB181_179 := n13_; clear n0_ n1_ n2_ n3_ n4_ n5_ n6_ n7_ n8_ n9_ n10_ n11_ n12_ n13_ hb hbox hg; have hnb17 := NB181_177.out; have hnc17 := NB177_181.out; have hnb18 := NB181_178.out; have hnc18 := NB178_181.out; have hnb19 := NB181_179.out; have hnc19 := NB179_181.out; have hcz20_0 : w16.cell? ⟨gb181, 0, none⟩ = some (.int .i64 0) := (bc_ BK181.out 0).trans rfl; have hcz20_1 : w16.cell? ⟨gb181, 1, none⟩ = some (.slice none 0 0) := (bc_ BK181.out 1).trans rfl; have hfz20_0 := bf_ BK181.out 0; have hfz20_1 := bf_ BK181.out 1))
   have n0_ : A_ (Kd.S k68 68 ((w16.setCell ⟨gb181, 0, none⟩ (.int .i64 ((rd_T68 l0_1 x14_1).f0))).setCell ⟨gb181, 1, none⟩ (.slice A180_1 ((rd_T68 l0_1 x14_1).f1).length c180_1)) w.heap.size (fun k_ => k_ ≠ gb181) u180001 x180001_1) := ⟨by (with_reducible repeat (first | apply Kd.S_alloc | apply Kd.S_drewN | apply Kd.S_drew)); exact Kd.S_mono (Kd.S_far (p := ⟨gb181, 1, none⟩) (Kd.S_far (p := ⟨gb181, 0, none⟩) (Kd.S_mono HO_180001.out (fun k_ hk => (⟨hk, hk.2⟩ : _ ∧ k_ ≠ gb181))) (fun _ hk => hk.2) (.int .i64 ((rd_T68 l0_1 x14_1).f0))) (fun _ hk => hk.2) (.slice A180_1 ((rd_T68 l0_1 x14_1).f1).length c180_1)) (fun _ hk => hk.1.2)⟩
   have n1_ : A_ (((w16.setCell ⟨gb181, 0, none⟩ (.int .i64 ((rd_T68 l0_1 x14_1).f0))).setCell ⟨gb181, 1, none⟩ (.slice A180_1 ((rd_T68 l0_1 x14_1).f1).length c180_1)).heap[gb177]? = some (.cells #[.int .i64 a0_0, .slice (some ad180) l0_1.length c0_1, .int .i64 a0_2] 28 (0, 0))) := ⟨by (repeat apply bX); refine blk_far ?_ NB177_181.out _; (repeat apply bX); refine blk_far ?_ NB177_181.out _; (repeat apply bX); exact BK177.out⟩
   have n2_ : A_ (((w16.setCell ⟨gb181, 0, none⟩ (.int .i64 ((rd_T68 l0_1 x14_1).f0))).setCell ⟨gb181, 1, none⟩ (.slice A180_1 ((rd_T68 l0_1 x14_1).f1).length c180_1)).heap[gb178]? = some (.cells #[.int .i64 0, .slice none 0 0, .int .i64 0] 28 (0, 0))) := ⟨by (repeat apply bX); refine blk_far ?_ NB178_181.out _; (repeat apply bX); refine blk_far ?_ NB178_181.out _; (repeat apply bX); exact BK178.out⟩
   have n3_ : A_ (((w16.setCell ⟨gb181, 0, none⟩ (.int .i64 ((rd_T68 l0_1 x14_1).f0))).setCell ⟨gb181, 1, none⟩ (.slice A180_1 ((rd_T68 l0_1 x14_1).f1).length c180_1)).heap[gb179]? = some (.cells #[.int .i64 a0_0, u180001, .int .i64 a0_2] 28 (0, 0))) := ⟨by (repeat apply bX); refine blk_far ?_ NB179_181.out _; (repeat apply bX); refine blk_far ?_ NB179_181.out _; (repeat apply bX); exact BK179.out⟩
   have n4_ : A_ (((w16.setCell ⟨gb181, 0, none⟩ (.int .i64 ((rd_T68 l0_1 x14_1).f0))).setCell ⟨gb181, 1, none⟩ (.slice A180_1 ((rd_T68 l0_1 x14_1).f1).length c180_1)).heap[gb181]? = some (.cells #[.int .i64 ((rd_T68 l0_1 x14_1).f0), .slice A180_1 ((rd_T68 l0_1 x14_1).f1).length c180_1] 68 (0, 0))) := ⟨by (repeat apply bX); refine bp_ (cs := #[.int .i64 ((rd_T68 l0_1 x14_1).f0), .slice none 0 0]) ?_ 1 _ rfl; (repeat apply bX); refine bp_ (cs := #[.int .i64 0, .slice none 0 0]) ?_ 0 _ rfl; (repeat apply bX); exact BK181.out⟩
   have n5_ : A_ (Below w.heap.size w ((w16.setCell ⟨gb181, 0, none⟩ (.int .i64 ((rd_T68 l0_1 x14_1).f0))).setCell ⟨gb181, 1, none⟩ (.slice A180_1 ((rd_T68 l0_1 x14_1).f1).length c180_1))) := ⟨by repeat (first | (with_reducible first | exact HB.out | apply ba_ | apply bd_ | apply be_ | refine bs_ ?_ GE177.out | refine bs_ ?_ GE178.out | refine bs_ ?_ GE179.out | refine bs_ ?_ GE181.out) | exact HB.out)⟩
   generalize ((w16.setCell ⟨gb181, 0, none⟩ (.int .i64 ((rd_T68 l0_1 x14_1).f0))).setCell ⟨gb181, 1, none⟩ (.slice A180_1 ((rd_T68 l0_1 x14_1).f1).length c180_1)) = w21 at n0_ n1_ n2_ n3_ n4_ n5_ ⊢
   have HO_180001 := n0_
   have BK177 := n1_
   have BK178 := n2_
   have BK179 := n3_
   have BK181 := n4_
   have HB := n5_
   clear n0_ n1_ n2_ n3_ n4_ n5_
   have n0_ := A_.mk (Kd.S_drew HO_180001.out)
   have n1_ := A_.mk (bw_ BK177.out)
   have n2_ := A_.mk (bw_ BK178.out)
   have n3_ := A_.mk (bw_ BK179.out)
   have n4_ := A_.mk (bw_ BK181.out)
   have n5_ := A_.mk (be_ HB.out)
   clear HO_180001 BK177 BK178 BK179 BK181 HB
   have HO_180001 := n0_
   have BK177 := n1_
   have BK178 := n2_
   have BK179 := n3_
   have BK181 := n4_
   have HB := n5_
   clear n0_ n1_ n2_ n3_ n4_ n5_
   refine start_ (n := 8) (S := fun w' => w'.cell? ⟨gb179, 0, none⟩ = some (.int .i64 a0_0) ∧ w'.cell? ⟨gb179, 1, none⟩ = some (u180001) ∧ w'.cell? ⟨gb179, 2, none⟩ = some (.int .i64 a0_2) ∧ w'.cell? ⟨gb181, 0, none⟩ = some (.int .i64 ((rd_T68 l0_1 x14_1).f0)) ∧ w'.cell? ⟨gb181, 1, none⟩ = some (.slice A180_1 ((rd_T68 l0_1 x14_1).f1).length c180_1)) (ds := [7]) #[F, F, F, F, F, F, F, F] (by kernel_rfl) rfl rfl ⟨(bc_ BK179.out 0).trans rfl, (bc_ BK179.out 1).trans rfl, (bc_ BK179.out 2).trans rfl, (bc_ BK181.out 0).trans rfl, (bc_ BK181.out 1).trans rfl⟩ (fun hHeld => ?_); refine with_tabW impl_copySender.tab5 impl_copySender.bits5 (fun HT_ HW_ => ?_)
   generalize w21.drew = w22 at HO_180001 BK177 BK178 BK179 BK181 HB hHeld ⊢
   refine pr_ (i := 0) (N := some 18) #[T, F, F, F, F, F, F, F] rfl HT_.out ?_
   refine tk_ (i := 1) (N := some 19) #[T, T, F, F, F, F, F, F] rfl HT_.out HW_.out hHeld ?_
   refine tk_ (i := 2) (N := some 20) #[T, T, T, F, F, F, F, F] rfl HT_.out HW_.out hHeld ?_
   refine ot_ (i := 3) (N := some 21) #[T, T, T, T, F, F, F, F] rfl HT_.out (fun K hK => ?_)
   refine gz_ Try.func45 #[.agg #[.int .i64 ((rd_T68 l0_1 x14_1).f0), .slice A180_1 ((rd_T68 l0_1 x14_1).f1).length c180_1]] ?_
   with_reducible refine (impl_copyFrame.calls ((rd_T68 l0_1 x14_1).f0) _ _ ((rd_T68 l0_1 x14_1).f1) t182 t183 _ ?side1 ?side2 A14.out).mono ?_
   (case side1 => exact cY ((Kd.C_below HR180_1.out HB.out)))
   (case side2 => exact HC180_1.out)
   rintro e w23 ⟨v184, rfl, ho0, hb⟩
   refine ⟨_, rfl, ?_⟩
   have n0_ := A_.mk (Kd.S_elder' (by (with_reducible repeat (first | apply Kd.S_alloc | apply Kd.S_drewN | apply Kd.S_drew)); exact HO_180001.out) (Kd.R_base ho0) hb)
   have n1_ := A_.mk (Kd.R_lower ho0 (bz_ (by repeat (first | (with_reducible first | exact HB.out | apply ba_ | apply bd_ | apply be_ | refine bs_ ?_ GE177.out | refine bs_ ?_ GE178.out | refine bs_ ?_ GE179.out | refine bs_ ?_ GE181.out) | exact HB.out))))
   have n2_ := A_.mk (bb_ (bY BK177.out) hb)
   have n3_ := A_.mk (bb_ (bY BK178.out) hb)
   have n4_ := A_.mk (bb_ (bY BK179.out) hb)
   have n5_ := A_.mk (bb_ (bY BK181.out) hb)
   have n6_ := A_.mk (bt_ (by repeat (first | (with_reducible first | exact HB.out | apply ba_ | apply bd_ | apply be_ | refine bs_ ?_ GE177.out | refine bs_ ?_ GE178.out | refine bs_ ?_ GE179.out | refine bs_ ?_ GE181.out) | exact HB.out)) hb)
   clear HO_180001 BK177 BK178 BK179 BK181 HB
   have HO_180001 := n0_
   have HO185 := n1_
   have BK177 := n2_
   have BK178 := n3_
   have BK179 := n4_
   have BK181 := n5_
   have HB := n6_
   clear n0_ n1_ n2_ n3_ n4_ n5_ n6_
   obtain ⟨Ao25, co25, eo25⟩ := Kd.R_slice HO185.out
   (first | subst eo25 | (injection eo25 with f1_ f2_ f3_; have f4_ := f1_.symm; have f5_ := f3_.symm; clear f1_ f2_ f3_; subst f4_; subst f5_))
   refine hK.out _ _ ⟨(bc_ BK179.out 0).trans rfl, (bc_ BK179.out 1).trans rfl, (bc_ BK179.out 2).trans rfl, (bc_ BK181.out 0).trans rfl, (bc_ BK181.out 1).trans rfl⟩ (fun hHeld => ?_)
   clear hK K
   refine nm_ ?_
   refine ot_ (i := 4) (N := some 22) #[T, T, T, T, T, F, F, F] rfl HT_.out (fun K hK => ?_)
   refine value_ (w1 := ?_) (v := ?_) (by rfl) rfl ?_ ?_
   rotate_left 2
   ·go_simp
    constructor
    ·rfl
    ·rfl
   refine hK.out _ _ ⟨(bc_ (bl_ BK179.out _) 0).trans rfl, (bc_ (bl_ BK179.out _) 1).trans rfl, (bc_ (bl_ BK179.out _) 2).trans rfl, (bc_ (bl_ BK181.out _) 0).trans rfl, (bc_ (bl_ BK181.out _) 1).trans rfl⟩ (fun hHeld => ?_)
   clear hK K
   refine nm_ ?_
   refine ot_ (i := 5) (N := some 23) #[T, T, T, T, T, T, F, F] rfl HT_.out (fun K hK => ?_)
   refine Kd.S_append_step k68 (w0 := w) w.heap.size (by rfl) (.tmp 19) (.tmp 22) 26 68 (.agg #[(.int .i64 0), (.slice none 0 0)]) 32 rfl Try.underlying26 info68 rfl (by decide) (by omega) u180001 x180001_1 (⟨t182, t183⟩ : S68) [.int .i64 t182, .slice Ao25 t183.length co25] (fun k_ => k_ ≠ gb181) (fun k_ => some k_ = (.slice Ao25 t183.length co25 : Value).ownBlock) rfl rfl ?aP (fun k_ hk_ => ((Kd.R_mono (ok' := fun k_ => ((fun k_ => k_ ≠ gb181)) k_ ∧ some k_ ≠ (u180001 : Value).ownBlock) (Kd.R_types (Kd.R_apart' (HO185.out) (Kd.S_typed HO_180001.out) (by decide)) BK181.out (by decide)) (fun k_ hk => ⟨hk.2, hk.1.2⟩))).1 k_ hk_.symm) ?aF ?aO ?aB ?aS ?aL ?_
   (case aP => exact k68_mkM _ _ _ (⟨t182, t183⟩ : S68) (Kd.R_mono (Kd.R_tight rfl (Kd.R_mono (ok' := fun k_ => ((fun k_ => k_ ≠ gb181)) k_ ∧ some k_ ≠ (u180001 : Value).ownBlock) (Kd.R_types (Kd.R_apart' (HO185.out) (Kd.S_typed HO_180001.out) (by decide)) BK181.out (by decide)) (fun k_ hk => ⟨hk.2, hk.1.2⟩))) (fun _ h_ => h_)))
   (case aB => exact (by repeat (first | (with_reducible first | exact HB.out | apply ba_ | apply bd_ | apply be_ | refine bs_ ?_ GE177.out | refine bs_ ?_ GE178.out | refine bs_ ?_ GE179.out | refine bs_ ?_ GE181.out) | exact HB.out)))
   (case aF => exact (fun k_ hk => Kd.freshB (g := gb181) (o := .cells #[.int .i64 ((rd_T68 l0_1 x14_1).f0), .slice A180_1 ((rd_T68 l0_1 x14_1).f1).length c180_1] 68 (0, 0)) (bY BK181.out) k_ hk))
   (case aO => exact (by (with_reducible repeat (first | apply Kd.S_alloc | apply Kd.S_drewN | apply Kd.S_drew)); exact Kd.S_mono HO_180001.out (fun k_ hk => ⟨hk.1, fun e_ => hk.2 e_⟩)))
   (case aS => exact (bz_ (by repeat (first | (with_reducible first | exact HB.out | apply ba_ | apply bd_ | apply be_ | refine bs_ ?_ GE177.out | refine bs_ ?_ GE178.out | refine bs_ ?_ GE179.out | refine bs_ ?_ GE181.out) | exact HB.out))))
   (case aL => have := LMc15.out; omega)
   intro v187 w24 ho hb hg hat
   rw [← Ny186.out] at ho
   have n0_ := A_.mk (blk_grown (g := gb177) (o := .cells #[.int .i64 a0_0, .slice (some ad180) l0_1.length c0_1, .int .i64 a0_2] 28 (0, 0)) (bY BK177.out) hg (Kd.S_ne HO_180001.out BK177.out (by decide)))
   have n1_ := A_.mk (blk_grown (g := gb178) (o := .cells #[.int .i64 0, .slice none 0 0, .int .i64 0] 28 (0, 0)) (bY BK178.out) hg (Kd.S_ne HO_180001.out BK178.out (by decide)))
   have n2_ := A_.mk (blk_grown (g := gb179) (o := .cells #[.int .i64 a0_0, u180001, .int .i64 a0_2] 28 (0, 0)) (bY BK179.out) hg (Kd.S_ne HO_180001.out BK179.out (by decide)))
   have n3_ := A_.mk (blk_grown (g := gb181) (o := .cells #[.int .i64 ((rd_T68 l0_1 x14_1).f0), .slice A180_1 ((rd_T68 l0_1 x14_1).f1).length c180_1] 68 (0, 0)) (bY BK181.out) hg (Kd.S_away HO_180001.out (fun _ hk => hk.1)))
   have n4_ := A_.mk (hb)
   have n5_ := A_.mk (ho)
   clear BK177 BK178 BK179 BK181 HB HO_180001 HO185
   have BK177 := n0_
   have BK178 := n1_
   have BK179 := n2_
   have BK181 := n3_
   have HB := n4_
   have HO188 := n5_
   clear n0_ n1_ n2_ n3_ n4_ n5_ ho hb hg hat
   obtain ⟨Ao26, co26, eo26⟩ := Kd.S_slice HO188.out
   (first | subst eo26 | (injection eo26 with f1_ f2_ f3_; have f4_ := f1_.symm; have f5_ := f3_.symm; clear f1_ f2_ f3_; subst f4_; subst f5_))
   refine hK.out _ _ ⟨(bc_ BK179.out 0).trans rfl, (bc_ BK179.out 1).trans rfl, (bc_ BK179.out 2).trans rfl, (bc_ BK181.out 0).trans rfl, (bc_ BK181.out 1).trans rfl⟩ (fun hHeld => ?_)
   clear hK K
   refine nm_ ?_
   refine pr_ (i := 6) (N := some 24) #[T, T, T, T, T, T, T, F] rfl HT_.out ?_
   refine last_ (i := 7) (N := none) #[T, T, T, T, T, T, T, T] rfl rfl (one_of HT_.out (by kernel_rfl)) (by decide) (fun K hK => ?_)
   have hs27 : w24.cell? ⟨gb179, 1, none⟩ = some (u180001) := (bc_ BK179.out 1).trans rfl
   have hfs27 := bf_ BK179.out 1
   have hns27_0 := NB177_179.out
   have hns27_1 := NB178_179.out
   have hns27_3 := NB181_179.out
   have hms27_0 := NB179_177.out
   have hms27_1 := NB179_178.out
   have hms27_3 := NB179_181.out
   refine skip_ (w1 := ?_) (by rfl) rfl ?_ ?_
   rotate_left
   ·go_simp
    rfl
   refine hK.out _ _ ?_
   clear hK K
   refine done_ (done_of HT_.out (by kernel_rfl)) ?_
   try go_wp2
   go_roundg k1
   case measure => have := HK1.out; omega
   case rel => exact ⟨(wrap64 (x14_1 + 1)), (y186), (.slice Ao26 y186.length co26), (by first | rfl | (simp; done) | (simp [*]; done)), H', ⟨by have := HK1.out; omega⟩, ⟨by (with_reducible repeat (first | apply Kd.S_alloc | apply Kd.S_drewN | apply Kd.S_drew)); exact Kd.S_mono (Kd.S_far (p := ⟨gb179, 1, none⟩) (Kd.S_types HO188.out BK179.out (by decide)) (fun _ hk => hk.2) (.slice Ao26 y186.length co26)) (fun _ hk => trivial)⟩, ⟨by (repeat apply bX); refine blk_far ?_ NB177_179.out _; (repeat apply bX); exact BK177.out⟩, ⟨by (repeat apply bX); refine blk_far ?_ NB178_179.out _; (repeat apply bX); exact BK178.out⟩, ⟨by (repeat apply bX); refine bp_ (cs := #[.int .i64 a0_0, u180001, .int .i64 a0_2]) ?_ 1 _ rfl; (repeat apply bX); exact BK179.out⟩, ⟨by repeat (first | (with_reducible first | exact HB.out | apply ba_ | apply bd_ | apply be_ | refine bs_ ?_ GE177.out | refine bs_ ?_ GE178.out | refine bs_ ?_ GE179.out | refine bs_ ?_ GE181.out) | exact HB.out)⟩⟩
/-! ### impl_copyLists: function 23 -/
def impl_copyLists.l0 : Nat → List (List Int) → List (List Int) → Int → Int → Option ((List (List Int)))
 | 0, _, _, _, _ => none
 | k + 1, x3, x7, x8, x9 => if x9 < x8 then (if 0 ≤ x9 then (if x9 < (x7.length : Int) then ((slices_Clone_int_int.f (rd_L1 x7 x9)).bind fun t193 => (if x3.length < 5864062014805 then (impl_copyLists.l0 k (x3 ++ [t193]) x7 x8 (wrap64 (x9 + 1))) else (none))) else (none)) else (none)) else (some x3)
def impl_copyLists.f (k : Nat) (l0 : List (List Int)) : Option ((List (List Int))) := impl_copyLists.l0 k (([] : List (List Int))) l0 (l0.length : Int) 0
set_option maxHeartbeats 8000000 in
set_option maxRecDepth 100000 in
theorem impl_copyLists.calls (k : Nat) (A0 : Option Addr) (c0 : Nat) (l0 : List (List Int)) (r : List (List Int)) (w : World) (hr0 : Kd.C (Kd.slice 3 (Kd.int .i64)) w A0 l0.length l0) (hc0 : l0.length ≤ c0) (h : impl_copyLists.f k l0 = some r) :
  Calls Try.prog 23 #[.slice A0 l0.length c0] w fun e w' => ∃ v0_ : Value, e = .returned (v0_) ∧ Kd.S (Kd.slice 3 (Kd.int .i64)) 32 w' w.heap.size (fun _ => True) v0_ r ∧ Below w.heap.size w w' := by
 have HR0 := A_.mk hr0
 have HC0 := A_.mk hc0
 clear hr0 hc0
 have HB := A_.mk (Below.refl w.heap.size w)
 have H : (impl_copyLists.l0 k (([] : List (List Int))) l0 (l0.length : Int) 0) = some r := h
 clear h
 obtain ⟨y189, hy189⟩ : ∃ y_ : List (List Int), y_ = (([] : List (List Int))) := ⟨_, rfl⟩
 replace H : (impl_copyLists.l0 k y189 l0 (l0.length : Int) 0) = some r := by first | (rw [hy189]; with_reducible exact H) | (have H2_ := (Option.bind_some _ _).symm.trans H; rw [hy189]; with_reducible exact H2_) | (have H2_ := (Option.bind_some _ _).symm.trans H; with_reducible exact H2_) | with_reducible exact H | (rw [hy189]; exact H) | exact H
 have Ny189 := A_.mk hy189
 clear hy189
 have H' := A_.mk H
 clear H
 go_enter Try.func23, Try.ntmps23
 go_wp2_with (first | ((with_reducible refine gd_ (N := 6) rfl ?_); refine Kd.S_lit (Kd.slice 3 (Kd.int .i64)) _ 32 ?hg (N := 6) ?hd (xs := ([] : List (List Int))) (inner := []) (ok := fun _ => True) (okp := fun _ => True) ?hr ?hp (fun _ hk => hk) trivial (Below.refl _ _) (Nat.le_refl _) (by simp) ?_; (case hd => rfl); (case hg => rfl); (case hr => first | (go_simp; done) | (go_simp; rfl)); (case hp => exact (Reps.none _ _)); intro v190 w2 ho3 hb hg_ hnew_; clear hg_ hnew_; (first | rw [← Ny189.out] at ho3 | (simp only [Int.reduceToNat] at ho3; rw [← Ny189.out] at ho3)); have n0_ := A_.mk (Kd.S_lower ho3 (bz_ (beY HB.out))); have n1_ := A_.mk (bt_ (beY HB.out) hb); clear HB; have HO191 := n0_; have HB := n1_; clear n0_ n1_ hb ho3))
 go_loopg [3, 9] k (fun kq v3 v9 w' => ∃ (x3_1 : List (List Int)) (x9_1 : Int), v9 = .int .i64 x9_1 ∧ A_ (impl_copyLists.l0 kq x3_1 l0 (l0.length : Int) x9_1 = some r) ∧ A_ (kq ≤ k) ∧ A_ (Kd.S (Kd.slice 3 (Kd.int .i64)) 32 w' w.heap.size (fun _ => True) v3 x3_1) ∧ A_ (Below w.heap.size w w'))
 case atStart => exact ⟨(y189), (0), (by first | rfl | (simp; done) | (simp [*]; done)), H', ⟨Nat.le_refl _⟩, ⟨by (with_reducible repeat (first | apply Kd.S_alloc | apply Kd.S_drewN | apply Kd.S_drew)); exact HO191.out⟩, ⟨beY HB.out⟩⟩
 case round =>
  clear H'
  obtain ⟨x3_1, x9_1, rfl, HA, HK1, HO_3, HB⟩ := hrel
  cases gk with
  | zero => exact absurd HA.out (by simp [impl_copyLists.l0])
  | succ k1 =>
   have H := HA.out
   clear HA
   simp only [impl_copyLists.l0] at H
   by_cases c4 : x9_1 < (l0.length : Int)
   rotate_left
   ·rw [if_neg c4] at H
    have c4b0 : decide (x9_1 < (l0.length : Int)) = false := decide_eq_false c4
    clear c4
    obtain rfl := Option.some.inj H
    go_wp2
    go_ret
    exact ⟨_, by first | rfl | (simp [errW_none, errW_some] <;> rfl) | (simp [*, errW_none, errW_some] <;> rfl), by (with_reducible repeat (first | apply Kd.S_alloc | apply Kd.S_drewN | apply Kd.S_drew)); exact HO_3.out, beY HB.out⟩
   rw [if_pos c4] at H
   have c4b0 : decide (x9_1 < (l0.length : Int)) = true := decide_eq_true c4
   clear c4
   by_cases c5 : 0 ≤ x9_1
   rotate_left
   ·rw [if_neg c5] at H
    exact absurd H (by simp)
   rw [if_pos c5] at H
   have c5b0 : decide (0 ≤ x9_1) = true := decide_eq_true c5
   clear c5
   by_cases c6 : x9_1 < (l0.length : Int)
   rotate_left
   ·rw [if_neg c6] at H
    exact absurd H (by simp)
   rw [if_pos c6] at H
   have c6b0 : decide (x9_1 < (l0.length : Int)) = true := decide_eq_true c6
   clear c6
   replace H := ob_ H
   obtain ⟨t193, A70, H⟩ := H
   have A7 := A_.mk A70
   clear A70
   by_cases c8 : x3_1.length < 5864062014805
   rotate_left
   ·rw [if_neg c8] at H
    exact absurd H (by simp)
   rw [if_pos c8] at H
   have LMc8 := A_.mk c8
   clear c8
   obtain ⟨y196, hy196⟩ : ∃ y_ : List (List Int), y_ = (x3_1 ++ [t193]) := ⟨_, rfl⟩
   replace H : (impl_copyLists.l0 k1 y196 l0 (l0.length : Int) (wrap64 (x9_1 + 1))) = some r := by first | (rw [hy196]; with_reducible exact H) | (have H2_ := (Option.bind_some _ _).symm.trans H; rw [hy196]; with_reducible exact H2_) | (have H2_ := (Option.bind_some _ _).symm.trans H; with_reducible exact H2_) | with_reducible exact H | (rw [hy196]; exact H) | exact H
   have Ny196 := A_.mk hy196
   clear hy196
   have H' := A_.mk H
   clear H
   have p192 : 0 ≤ (x9_1 : Int) := od_
   have q192 : x9_1 < (l0.length : Int) := od_
   obtain ⟨ad192, A192_0, c192_0, e192, hx192_0, hl192_0, hi192_0⟩ := at_L1 HR0.out x9_1 p192 q192
   cases e192
   replace hx192_0 := (HB.out.cell (wl_ w _ hx192_0)).trans hx192_0
   have HR192_0 := A_.mk hi192_0
   have HC192_0 := A_.mk hl192_0
   clear hi192_0 hl192_0
   replace p192 := eq_true p192
   replace q192 := eq_true q192
   go_wp2_with (first | ((with_reducible refine gc_ (f := 24) rfl ?_); refine gl_ (some 15) Try.func24 #[.slice A192_0 (rd_L1 l0 x9_1).length c192_0] ?_; (with_reducible refine (slices_Clone_int_int.calls _ _ (rd_L1 l0 x9_1) t193 _ ?side1 ?side2 A7.out).mono ?_); (case side1 => exact cY ((Kd.C_below HR192_0.out HB.out))); (case side2 => exact HC192_0.out); rintro e w9 ⟨v194, rfl, ho0, hb⟩; refine ⟨_, rfl, ?_⟩; have n0_ := A_.mk (Kd.S_elder' (by (with_reducible repeat (first | apply Kd.S_alloc | apply Kd.S_drewN | apply Kd.S_drew)); exact HO_3.out) (Kd.R_base ho0) hb); have n1_ := A_.mk (Kd.R_lower ho0 (bz_ (beY HB.out))); have n2_ := A_.mk (bt_ (beY HB.out) hb); clear HO_3 HB; have HO_3 := n0_; have HO195 := n1_; have HB := n2_; clear n0_ n1_ n2_; (try clear hb); (try clear hb2); (try clear hk); (try clear hi); (try clear ho0); obtain ⟨Ao11, co11, eo11⟩ := Kd.R_slice HO195.out; subst eo11) | ((with_reducible refine gate_builtin (b := .append) (xs := #[.tmp 13, .tmp 16]) rfl ?_); at_builtin; refine Kd.S_append (Kd.slice 3 (Kd.int .i64)) (w0 := w) w.heap.size rfl (.tmp 13) (.tmp 16) 29 32 (.slice none 0 0) 24 rfl Try.underlying29 info32 rfl (by decide) (by omega) u3 x3_1 t193 [.slice Ao11 t193.length co11] (fun _ => True) (fun k_ => some k_ = (.slice Ao11 t193.length co11 : Value).ownBlock) rfl rfl ?aP (fun k_ hk_ => ((Kd.R_mono (ok' := fun k_ => ((fun _ => True)) k_ ∧ some k_ ≠ (u3 : Value).ownBlock) (Kd.R_apart' (HO195.out) (Kd.S_typed HO_3.out) (by decide)) (fun k_ hk => ⟨trivial, hk.2⟩))).1 k_ hk_.symm) ?aF ?aO ?aB ?aS ?aL ?_; (case aP => exact Kd.M_row (Kd.R_mono (Kd.R_tight rfl (Kd.R_mono (ok' := fun k_ => ((fun _ => True)) k_ ∧ some k_ ≠ (u3 : Value).ownBlock) (Kd.R_apart' (HO195.out) (Kd.S_typed HO_3.out) (by decide)) (fun k_ hk => ⟨trivial, hk.2⟩))) (fun _ h_ => h_))); (case aB => exact (beY HB.out)); (case aF => exact (fun _ _ => trivial)); (case aO => exact (by (with_reducible repeat (first | apply Kd.S_alloc | apply Kd.S_drewN | apply Kd.S_drew)); exact Kd.S_mono HO_3.out (fun k_ hk => ⟨trivial, fun e_ => hk.2 e_⟩))); (case aS => exact (bz_ (beY HB.out))); (case aL => have := LMc8.out; omega); intro v197 w10 ho hb hg hat; rw [← Ny196.out] at ho; have n0_ := A_.mk (hb); have n1_ := A_.mk (ho); clear HB HO_3 HO195; have HB := n0_; have HO198 := n1_; clear n0_ n1_ ho hb hg hat))
   go_roundg k1
   case measure => have := HK1.out; omega
   case rel => exact ⟨(y196), (wrap64 (x9_1 + 1)), (by first | rfl | (simp; done) | (simp [*]; done)), H', ⟨by have := HK1.out; omega⟩, ⟨by (with_reducible repeat (first | apply Kd.S_alloc | apply Kd.S_drewN | apply Kd.S_drew)); exact HO198.out⟩, ⟨beY HB.out⟩⟩
/-! ### impl_copyReceiver: function 22 -/
def impl_copyReceiver.f (k : Nat) (a0_0 : Int) (l0_1 : List (List Int)) : Option (Int × (List (List Int))) := (impl_copyLists.f k l0_1).bind fun t201 => (some (a0_0, t201))
set_option maxHeartbeats 8000000 in
set_option maxRecDepth 100000 in
theorem impl_copyReceiver.calls (k : Nat) (a0_0 : Int) (A0_1 : Option Addr) (c0_1 : Nat) (l0_1 : List (List Int)) (r1 : Int) (r2 : List (List Int)) (w : World) (hr0_1 : Kd.C (Kd.slice 3 (Kd.int .i64)) w A0_1 l0_1.length l0_1) (hc0_1 : l0_1.length ≤ c0_1) (h : impl_copyReceiver.f k a0_0 l0_1 = some (r1, r2)) :
  Calls Try.prog 22 #[.agg #[.int .i64 a0_0, .slice A0_1 l0_1.length c0_1]] w fun e w' => ∃ v1_ : Value, e = .returned (.agg #[.int .i64 r1, v1_]) ∧ Kd.S (Kd.slice 3 (Kd.int .i64)) 32 w' w.heap.size (fun _ => True) v1_ r2 ∧ Below w.heap.size w w' := by
 have hu31 := Try.underlying31
 have HR0_1 := A_.mk hr0_1
 have HC0_1 := A_.mk hc0_1
 clear hr0_1 hc0_1
 have HB := A_.mk (Below.refl w.heap.size w)
 have H : ((impl_copyLists.f k l0_1).bind fun t201 => (some (a0_0, t201))) = some (r1, r2) := h
 clear h
 replace H := ob_ H
 obtain ⟨t201, A20, H⟩ := H
 have A2 := A_.mk A20
 clear A20
 simp only [Option.some.injEq, Prod.mk.injEq] at H
 obtain ⟨rfl, rfl⟩ := H
 go_enter Try.func22, Try.ntmps22
 try go_wp2_with (first | ((with_reducible refine gd_ (N := 1) rfl ?_); refine by_ 1 (cs := #[.int .i64 a0_0, .slice A0_1 l0_1.length c0_1]) (t := 31) ?_; intro gb199 hg w3 hbox hb; have n0_ := A_.mk (bt_ (beY HB.out) hb); have n1_ := A_.mk (hbox); have n2_ := A_.mk ((by rw [hg]; exact (bz_ (beY HB.out)) : w.heap.size ≤ gb199)); have n3_ := A_.mk ((by rw [hg]; exact (bz_ (beY HB.out)) : w.heap.size ≤ gb199)); clear HB; have HB := n0_; have BK199 := n1_; have GW199 := n2_; have GE199 := n3_; clear n0_ n1_ n2_ n3_ hb hbox hg) | ((with_reducible refine gd_ (N := 2) rfl ?_); refine by_ 2 (cs := #[.int .i64 0, .slice none 0 0]) (t := 31) ?_; intro gb200 hg w4 hbox hb; have n0_ := A_.mk (bb_ (bY BK199.out) hb); have n1_ := A_.mk (bt_ (by repeat (first | (with_reducible first | exact HB.out | apply ba_ | apply bd_ | apply be_ | refine bs_ ?_ GE199.out) | exact HB.out)) hb); have n2_ := A_.mk (hbox); have n3_ := A_.mk ((by rw [hg]; exact (bz_ (by repeat (first | (with_reducible first | exact HB.out | apply ba_ | apply bd_ | apply be_ | refine bs_ ?_ GE199.out) | exact HB.out))) : w.heap.size ≤ gb200)); have n4_ := A_.mk ((by rw [hg]; exact (bz_ (by repeat (first | (with_reducible first | exact HB.out | apply ba_ | apply bd_ | apply be_ | refine bs_ ?_ GE199.out) | exact HB.out))) : w.heap.size ≤ gb200)); have n5_ := A_.mk ((by rw [hg]; exact Nat.ne_of_lt (blk_lt (bY BK199.out)) : gb199 ≠ gb200)); have n6_ := A_.mk ((by rw [hg]; exact Nat.ne_of_gt (blk_lt (bY BK199.out)) : gb200 ≠ gb199)); clear BK199 HB; have BK199 := n0_; have HB := n1_; have BK200 := n2_; have GW200 := n3_; have GE200 := n4_; have NB199_200 := n5_; have NB200_199 := n6_; clear n0_ n1_ n2_ n3_ n4_ n5_ n6_ hb hbox hg))
 have n0_ := A_.mk (bw_ BK199.out)
 have n1_ := A_.mk (bw_ BK200.out)
 have n2_ := A_.mk (be_ HB.out)
 clear BK199 BK200 HB
 have BK199 := n0_
 have BK200 := n1_
 have HB := n2_
 clear n0_ n1_ n2_
 refine start_ (n := 7) (S := fun w' => w'.cell? ⟨gb199, 0, none⟩ = some (.int .i64 a0_0) ∧ w'.cell? ⟨gb199, 1, none⟩ = some (.slice A0_1 l0_1.length c0_1)) (ds := []) #[F, F, F, F, F, F, F] (by kernel_rfl) rfl rfl ⟨(bc_ BK199.out 0).trans rfl, (bc_ BK199.out 1).trans rfl⟩ (fun hHeld => ?_)
 generalize w4.drew = w5 at BK199 BK200 HB hHeld ⊢
 refine pd_ (i := 0) (N := some 3) #[T, F, F, F, F, F, F] rfl ?_
 refine pd_ (i := 2) (N := some 5) #[T, F, T, F, F, F, F] rfl ?_
 refine tl_ (i := 1) (N := some 4) #[T, T, T, F, F, F, F] rfl hHeld ?_
 refine tl_ (i := 3) (N := some 6) #[T, T, T, T, F, F, F] rfl hHeld ?_
 refine on_ (i := 4) (N := some 7) #[T, T, T, T, T, F, F] rfl (fun K hK => ?_)
 refine gz_ Try.func23 #[.slice A0_1 l0_1.length c0_1] ?_
 with_reducible refine (impl_copyLists.calls k _ _ l0_1 t201 _ ?side1 ?side2 A2.out).mono ?_
 (case side1 => exact cY ((Kd.C_below HR0_1.out HB.out)))
 (case side2 => exact HC0_1.out)
 rintro e w6 ⟨v202, rfl, ho0, hb⟩
 refine ⟨_, rfl, ?_⟩
 have n0_ := A_.mk (Kd.S_lower ho0 (bz_ (by repeat (first | (with_reducible first | exact HB.out | apply ba_ | apply bd_ | apply be_ | refine bs_ ?_ GE199.out | refine bs_ ?_ GE200.out) | exact HB.out))))
 have n1_ := A_.mk (bb_ (bY BK199.out) hb)
 have n2_ := A_.mk (bb_ (bY BK200.out) hb)
 have n3_ := A_.mk (bt_ (by repeat (first | (with_reducible first | exact HB.out | apply ba_ | apply bd_ | apply be_ | refine bs_ ?_ GE199.out | refine bs_ ?_ GE200.out) | exact HB.out)) hb)
 clear BK199 BK200 HB
 have HO203 := n0_
 have BK199 := n1_
 have BK200 := n2_
 have HB := n3_
 clear n0_ n1_ n2_ n3_
 obtain ⟨Ao7, co7, eo7⟩ := Kd.S_slice HO203.out
 (first | subst eo7 | (injection eo7 with f1_ f2_ f3_; have f4_ := f1_.symm; have f5_ := f3_.symm; clear f1_ f2_ f3_; subst f4_; subst f5_))
 refine hK.out _ _ ⟨(bc_ BK199.out 0).trans rfl, (bc_ BK199.out 1).trans rfl⟩ (fun hHeld => ?_)
 clear hK K
 refine nm_ ?_
 refine pd_ (i := 5) (N := some 8) #[T, T, T, T, T, T, F] rfl ?_
 refine on_ (i := 6) (N := none) #[T, T, T, T, T, T, T] rfl (fun K hK => ?_)
 have hs8 : w6.cell? ⟨gb200, 0, none⟩ = some (.int .i64 0) := (bc_ BK200.out 0).trans rfl
 have hfs8 := bf_ BK200.out 0
 have hns8_0 := NB199_200.out
 have hms8_0 := NB200_199.out
 have hs9 : w6.cell? ⟨gb200, 1, none⟩ = some (.slice none 0 0) := (bc_ BK200.out 1).trans rfl
 have hfs9 := bf_ BK200.out 1
 have hns9_0 := NB199_200.out
 have hms9_0 := NB200_199.out
 refine skip_ (w1 := ?_) (by rfl) rfl ?_ ?_
 rotate_left
 ·go_simp
  rfl
 refine hK.out _ _ ⟨((cell_far (p := ⟨gb200, _, none⟩) NB199_200.out _).trans (((cell_far (p := ⟨gb200, _, none⟩) NB199_200.out _).trans (hHeld.1)))), ((cell_far (p := ⟨gb200, _, none⟩) NB199_200.out _).trans (((cell_far (p := ⟨gb200, _, none⟩) NB199_200.out _).trans (hHeld.2))))⟩ (fun hHeld => ?_)
 clear hK K
 refine done_ (by kernel_rfl) ?_
 try go_wp2
 refine bodyPost_ret (results_cell_row rfl _ _ gb200 31 #[.int .i64 a0_0, .slice Ao7 t201.length co7] (0, 0) _ rfl (by (repeat apply bX); refine bp_ (cs := #[.int .i64 a0_0, .slice none 0 0]) ?_ 1 _ rfl; (repeat apply bX); refine bp_ (cs := #[.int .i64 0, .slice none 0 0]) ?_ 0 _ rfl; (repeat apply bX); exact BK200.out) Try.underlying31 rfl (by kernel_rfl)) rfl ?_
 exact ⟨_, by first | rfl | (simp [errW_none, errW_some] <;> rfl) | (simp [*, errW_none, errW_some] <;> rfl), by (with_reducible repeat (first | apply Kd.S_alloc | apply Kd.S_drewN | apply Kd.S_drew)); exact Kd.S_mono (Kd.S_far (p := ⟨gb200, 1, none⟩) (Kd.S_far (p := ⟨gb200, 0, none⟩) (Kd.S_types HO203.out BK200.out (by decide)) (fun _ hk => hk.2) (.int .i64 a0_0)) (fun _ hk => hk.2) (.slice Ao7 t201.length co7)) (fun _ hk => trivial), by repeat (first | (with_reducible first | exact HB.out | apply ba_ | apply bd_ | apply be_ | refine bs_ ?_ GE199.out | refine bs_ ?_ GE200.out) | exact HB.out)⟩
end Go.Proofs.Ytflopendlbciaaa.PFnLinkOnce
