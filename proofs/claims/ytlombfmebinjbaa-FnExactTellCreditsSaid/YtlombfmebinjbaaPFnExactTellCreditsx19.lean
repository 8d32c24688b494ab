-- Written by a program of this session (wip/xp): not trusted, Lean checks it.
import Derived.Test.YtlombfmebinjbaaPFnExactTellCreditsx0
import Derived.Test.YtlombfmebinjbaaPFnExactTellCreditsx1
import Derived.Test.YtlombfmebinjbaaPFnExactTellCreditsx14
namespace Go.Proofs.Ytlombfmebinjbaa.PFnExactTellCredits
open Go.RowKit Go.Proofs.YtlombfmebinjbaaW.PrintWords Go.Proofs.YtlombfmebinjbaaW.PrintLast Go.Proofs.YtlombfmebinjbaaW.PrintMore
attribute [local go_sem] max2_int min2_int max_two min_two max_three min_three max_four min_four   -- for this text's walks alone
set_option linter.unusedVariables false
set_option linter.unusedSimpArgs false

/-! ### impl_copyPacket: function 54 -/
def impl_copyPacket.f (a0_0 : Int) (a0_1 : Int) (a0_2 : Int) (a0_3 : Int) (a0_4 : Int) (a0_5 : Int) (a0_6 : Int) (l0_7 : List Int) : Option (Int × Int × Int × Int × Int × Int × Int × List Int) := (slices_Clone_int_int.f l0_7).bind fun t309 => (some (a0_0, a0_1, a0_2, a0_3, a0_4, a0_5, a0_6, t309))
set_option maxHeartbeats 8000000 in
set_option maxRecDepth 100000 in
theorem impl_copyPacket.calls (a0_0 : Int) (a0_1 : Int) (a0_2 : Int) (a0_3 : Int) (a0_4 : Int) (a0_5 : Int) (a0_6 : Int) (A0_7 : Option Addr) (c0_7 : Nat) (l0_7 : List Int) (r1 : Int) (r2 : Int) (r3 : Int) (r4 : Int) (r5 : Int) (r6 : Int) (r7 : Int) (r8 : List Int) (w : World) (hr0_7 : Kd.C (Kd.int .i64) w A0_7 l0_7.length l0_7) (hc0_7 : l0_7.length ≤ c0_7) (h : impl_copyPacket.f a0_0 a0_1 a0_2 a0_3 a0_4 a0_5 a0_6 l0_7 = some (r1, r2, r3, r4, r5, r6, r7, r8)) :
  Calls Try.prog 54 #[.agg #[.int .i64 a0_0, .int .i64 a0_1, .int .i64 a0_2, .int .i64 a0_3, .int .i64 a0_4, .int .i64 a0_5, .int .i64 a0_6, .slice A0_7 l0_7.length c0_7]] w fun e w' => ∃ v7_ : Value, e = .returned (.agg #[.int .i64 r1, .int .i64 r2, .int .i64 r3, .int .i64 r4, .int .i64 r5, .int .i64 r6, .int .i64 r7, v7_]) ∧ Kd.R (Kd.int .i64) 3 w' w.heap.size (fun _ => True) v7_ r8 ∧ Below w.heap.size w w' := by
 have hu38 := Try.underlying38
 have HR0_7 := A_.mk hr0_7
 have HC0_7 := A_.mk hc0_7
 clear hr0_7 hc0_7
 have HB := A_.mk (Below.refl w.heap.size w)
 have H : ((slices_Clone_int_int.f l0_7).bind fun t309 => (some (a0_0, a0_1, a0_2, a0_3, a0_4, a0_5, a0_6, t309))) = some (r1, r2, r3, r4, r5, r6, r7, r8) := h
 clear h
 replace H := ob_ H
 obtain ⟨t309, A20, H⟩ := H
 have A2 := A_.mk A20
 clear A20
 simp only [Option.some.injEq, Prod.mk.injEq] at H
 obtain ⟨rfl, rfl, rfl, rfl, rfl, rfl, rfl, rfl⟩ := H
 go_enter Try.func54, Try.ntmps54
 go_wp2_with (first | ((with_reducible refine gd_ (N := 1) rfl ?_); refine by_ 1 (cs := #[.int .i64 a0_0, .int .i64 a0_1, .int .i64 a0_2, .int .i64 a0_3, .int .i64 a0_4, .int .i64 a0_5, .int .i64 a0_6, .slice A0_7 l0_7.length c0_7]) (t := 38) ?_; intro gb307 hg w3 hbox hb; have n0_ := A_.mk (bt_ (beY HB.out) hb); have n1_ := A_.mk (hbox); have n2_ := A_.mk ((by rw [hg]; exact (bz_ (beY HB.out)) : w.heap.size ≤ gb307)); have n3_ := A_.mk ((by rw [hg]; exact (bz_ (beY HB.out)) : w.heap.size ≤ gb307)); clear HB; have HB := n0_; have BK307 := n1_; have GW307 := n2_; have GE307 := n3_; clear n0_ n1_ n2_ n3_ hb hbox hg) | ((with_reducible refine gd_ (N := 2) rfl ?_); refine by_ 2 (cs := #[.int .i64 0, .int .i64 0, .int .i64 0, .int .i64 0, .int .i64 0, .int .i64 0, .int .i64 0, .slice none 0 0]) (t := 38) ?_; intro gb308 hg w4 hbox hb; have n0_ := A_.mk (bb_ (bY BK307.out) hb); have n1_ := A_.mk (bt_ (by repeat (first | (with_reducible first | exact HB.out | apply ba_ | apply bd_ | apply be_ | refine bs_ ?_ GE307.out) | exact HB.out)) hb); have n2_ := A_.mk (hbox); have n3_ := A_.mk ((by rw [hg]; exact (bz_ (by repeat (first | (with_reducible first | exact HB.out | apply ba_ | apply bd_ | apply be_ | refine bs_ ?_ GE307.out) | exact HB.out))) : w.heap.size ≤ gb308)); have n4_ := A_.mk ((by rw [hg]; exact (bz_ (by repeat (first | (with_reducible first | exact HB.out | apply ba_ | apply bd_ | apply be_ | refine bs_ ?_ GE307.out) | exact HB.out))) : w.heap.size ≤ gb308)); have n5_ := A_.mk ((by rw [hg]; exact Nat.ne_of_lt (blk_lt (bY BK307.out)) : gb307 ≠ gb308)); have n6_ := A_.mk ((by rw [hg]; exact Nat.ne_of_gt (blk_lt (bY BK307.out)) : gb308 ≠ gb307)); clear BK307 HB; have BK307 := n0_; have HB := n1_; have BK308 := n2_; have GW308 := n3_; have GE308 := n4_; have NB307_308 := n5_; have NB308_307 := n6_; clear n0_ n1_ n2_ n3_ n4_ n5_ n6_ hb hbox hg; have hnb5 := NB307_308.out; have hnc5 := NB308_307.out; have hcz6_0 : w4.cell? ⟨gb307, 0, none⟩ = some (.int .i64 a0_0) := (bc_ BK307.out 0).trans rfl; have hcz6_1 : w4.cell? ⟨gb307, 1, none⟩ = some (.int .i64 a0_1) := (bc_ BK307.out 1).trans rfl; have hcz6_2 : w4.cell? ⟨gb307, 2, none⟩ = some (.int .i64 a0_2) := (bc_ BK307.out 2).trans rfl; have hcz6_3 : w4.cell? ⟨gb307, 3, none⟩ = some (.int .i64 a0_3) := (bc_ BK307.out 3).trans rfl; have hcz6_4 : w4.cell? ⟨gb307, 4, none⟩ = some (.int .i64 a0_4) := (bc_ BK307.out 4).trans rfl; have hcz6_5 : w4.cell? ⟨gb307, 5, none⟩ = some (.int .i64 a0_5) := (bc_ BK307.out 5).trans rfl; have hcz6_6 : w4.cell? ⟨gb307, 6, none⟩ = some (.int .i64 a0_6) := (bc_ BK307.out 6).trans rfl; have hcz6_7 : w4.cell? ⟨gb307, 7, none⟩ = some (.slice A0_7 l0_7.length c0_7) := (bc_ BK307.out 7).trans rfl; have hfz6_0 := bf_ BK307.out 0; have hfz6_1 := bf_ BK307.out 1; have hfz6_2 := bf_ BK307.out 2; have hfz6_3 := bf_ BK307.out 3; have hfz6_4 := bf_ BK307.out 4; have hfz6_5 := bf_ BK307.out 5; have hfz6_6 := bf_ BK307.out 6; have hfz6_7 := bf_ BK307.out 7) | ((with_reducible refine gc_ (f := 77) rfl ?_); refine gl_ (some 5) Try.func77 #[.slice A0_7 l0_7.length c0_7] ?_; (with_reducible refine (slices_Clone_int_int.calls _ _ l0_7 t309 _ ?side1 ?side2 A2.out).mono ?_); (case side1 => exact cY ((Kd.C_below HR0_7.out HB.out))); (case side2 => exact HC0_7.out); rintro e w7 ⟨v310, rfl, ho0, hb⟩; refine ⟨_, rfl, ?_⟩; have n0_ := A_.mk (Kd.R_lower ho0 (bz_ (by repeat (first | (with_reducible first | exact HB.out | apply ba_ | apply bd_ | apply be_ | refine bs_ ?_ GE307.out | refine bs_ ?_ GE308.out) | exact HB.out)))); have n1_ := A_.mk (bb_ (bY BK307.out) hb); have n2_ := A_.mk (bb_ (bY BK308.out) hb); have n3_ := A_.mk (bt_ (by repeat (first | (with_reducible first | exact HB.out | apply ba_ | apply bd_ | apply be_ | refine bs_ ?_ GE307.out | refine bs_ ?_ GE308.out) | exact HB.out)) hb); clear BK307 BK308 HB; have HO311 := n0_; have BK307 := n1_; have BK308 := n2_; have HB := n3_; clear n0_ n1_ n2_ n3_; (try clear hb); (try clear hb2); (try clear hk); (try clear hi); (try clear ho0); obtain ⟨Ao8, co8, eo8⟩ := Kd.R_slice HO311.out; subst eo8; have hcz9_0 : w7.cell? ⟨gb307, 0, none⟩ = some (.int .i64 a0_0) := (bc_ BK307.out 0).trans rfl; have hcz9_1 : w7.cell? ⟨gb307, 1, none⟩ = some (.int .i64 a0_1) := (bc_ BK307.out 1).trans rfl; have hcz9_2 : w7.cell? ⟨gb307, 2, none⟩ = some (.int .i64 a0_2) := (bc_ BK307.out 2).trans rfl; have hcz9_3 : w7.cell? ⟨gb307, 3, none⟩ = some (.int .i64 a0_3) := (bc_ BK307.out 3).trans rfl; have hcz9_4 : w7.cell? ⟨gb307, 4, none⟩ = some (.int .i64 a0_4) := (bc_ BK307.out 4).trans rfl; have hcz9_5 : w7.cell? ⟨gb307, 5, none⟩ = some (.int .i64 a0_5) := (bc_ BK307.out 5).trans rfl; have hcz9_6 : w7.cell? ⟨gb307, 6, none⟩ = some (.int .i64 a0_6) := (bc_ BK307.out 6).trans rfl; have hcz9_7 : w7.cell? ⟨gb307, 7, none⟩ = some (.slice A0_7 l0_7.length c0_7) := (bc_ BK307.out 7).trans rfl; have hfz9_0 := bf_ BK307.out 0; have hfz9_1 := bf_ BK307.out 1; have hfz9_2 := bf_ BK307.out 2; have hfz9_3 := bf_ BK307.out 3; have hfz9_4 := bf_ BK307.out 4; have hfz9_5 := bf_ BK307.out 5; have hfz9_6 := bf_ BK307.out 6; have hfz9_7 := bf_ BK307.out 7; have hcz10_0 : w7.cell? ⟨gb308, 0, none⟩ = some (.int .i64 0) := (bc_ BK308.out 0).trans rfl; have hcz10_1 : w7.cell? ⟨gb308, 1, none⟩ = some (.int .i64 0) := (bc_ BK308.out 1).trans rfl; have hcz10_2 : w7.cell? ⟨gb308, 2, none⟩ = some (.int .i64 0) := (bc_ BK308.out 2).trans rfl; have hcz10_3 : w7.cell? ⟨gb308, 3, none⟩ = some (.int .i64 0) := (bc_ BK308.out 3).trans rfl; have hcz10_4 : w7.cell? ⟨gb308, 4, none⟩ = some (.int .i64 0) := (bc_ BK308.out 4).trans rfl; have hcz10_5 : w7.cell? ⟨gb308, 5, none⟩ = some (.int .i64 0) := (bc_ BK308.out 5).trans rfl; have hcz10_6 : w7.cell? ⟨gb308, 6, none⟩ = some (.int .i64 0) := (bc_ BK308.out 6).trans rfl; have hcz10_7 : w7.cell? ⟨gb308, 7, none⟩ = some (.slice none 0 0) := (bc_ BK308.out 7).trans rfl; have hfz10_0 := bf_ BK308.out 0; have hfz10_1 := bf_ BK308.out 1; have hfz10_2 := bf_ BK308.out 2; have hfz10_3 := bf_ BK308.out 3; have hfz10_4 := bf_ BK308.out 4; have hfz10_5 := bf_ BK308.out 5; have hfz10_6 := bf_ BK308.out 6; have hfz10_7 := bf_ BK308.out 7))
 refine bodyPost_ret (results_cell_row rfl _ _ gb308 38 #[.int .i64 a0_0, .int .i64 a0_1, .int .i64 a0_2, .int .i64 a0_3, .int .i64 a0_4, .int .i64 a0_5, .int .i64 a0_6, .slice Ao8 t309.length co8] (0, 0) _ rfl (by (repeat apply bX); refine bp_ (cs := #[.int .i64 a0_0, .int .i64 a0_1, .int .i64 a0_2, .int .i64 a0_3, .int .i64 a0_4, .int .i64 a0_5, .int .i64 a0_6, .slice none 0 0]) ?_ 7 _ rfl; (repeat apply bX); refine bp_ (cs := #[.int .i64 a0_0, .int .i64 a0_1, .int .i64 a0_2, .int .i64 a0_3, .int .i64 a0_4, .int .i64 a0_5, .int .i64 0, .slice none 0 0]) ?_ 6 _ rfl; (repeat apply bX); refine bp_ (cs := #[.int .i64 a0_0, .int .i64 a0_1, .int .i64 a0_2, .int .i64 a0_3, .int .i64 a0_4, .int .i64 0, .int .i64 0, .slice none 0 0]) ?_ 5 _ rfl; (repeat apply bX); refine bp_ (cs := #[.int .i64 a0_0, .int .i64 a0_1, .int .i64 a0_2, .int .i64 a0_3, .int .i64 0, .int .i64 0, .int .i64 0, .slice none 0 0]) ?_ 4 _ rfl; (repeat apply bX); refine bp_ (cs := #[.int .i64 a0_0, .int .i64 a0_1, .int .i64 a0_2, .int .i64 0, .int .i64 0, .int .i64 0, .int .i64 0, .slice none 0 0]) ?_ 3 _ rfl; (repeat apply bX); refine bp_ (cs := #[.int .i64 a0_0, .int .i64 a0_1, .int .i64 0, .int .i64 0, .int .i64 0, .int .i64 0, .int .i64 0, .slice none 0 0]) ?_ 2 _ rfl; (repeat apply bX); refine bp_ (cs := #[.int .i64 a0_0, .int .i64 0, .int .i64 0, .int .i64 0, .int .i64 0, .int .i64 0, .int .i64 0, .slice none 0 0]) ?_ 1 _ rfl; (repeat apply bX); refine bp_ (cs := #[.int .i64 0, .int .i64 0, .int .i64 0, .int .i64 0, .int .i64 0, .int .i64 0, .int .i64 0, .slice none 0 0]) ?_ 0 _ rfl; (repeat apply bX); refine blk_far ?_ NB308_307.out _; (repeat apply bX); exact BK308.out) Try.underlying38 rfl (by kernel_rfl)) rfl ?_
 exact ⟨_, by first | rfl | (simp [errW_none, errW_some] <;> rfl) | (simp [*, errW_none, errW_some] <;> rfl), by (repeat apply rX); exact Kd.R_mono (Kd.R_far (p := ⟨gb308, 7, none⟩) (Kd.R_far (p := ⟨gb308, 6, none⟩) (Kd.R_far (p := ⟨gb308, 5, none⟩) (Kd.R_far (p := ⟨gb308, 4, none⟩) (Kd.R_far (p := ⟨gb308, 3, none⟩) (Kd.R_far (p := ⟨gb308, 2, none⟩) (Kd.R_far (p := ⟨gb308, 1, none⟩) (Kd.R_far (p := ⟨gb308, 0, none⟩) (Kd.R_far (p := ⟨gb307, 7, none⟩) (Kd.R_types (Kd.R_types HO311.out BK307.out (by decide)) BK308.out (by decide)) (fun _ hk => hk.1.2) (.slice Ao8 t309.length co8)) (fun _ hk => hk.2) (.int .i64 a0_0)) (fun _ hk => hk.2) (.int .i64 a0_1)) (fun _ hk => hk.2) (.int .i64 a0_2)) (fun _ hk => hk.2) (.int .i64 a0_3)) (fun _ hk => hk.2) (.int .i64 a0_4)) (fun _ hk => hk.2) (.int .i64 a0_5)) (fun _ hk => hk.2) (.int .i64 a0_6)) (fun _ hk => hk.2) (.slice Ao8 t309.length co8)) (fun _ hk => trivial), by repeat (first | (with_reducible first | exact HB.out | apply ba_ | apply bd_ | apply be_ | refine bs_ ?_ GE307.out | refine bs_ ?_ GE308.out) | exact HB.out)⟩
/-! ### impl_copyPackets: function 85 -/
def impl_copyPackets.l0 : Nat → List (S38) → List (S38) → Int → Int → Option ((List (S38)))
 | 0, _, _, _, _ => none
 | k + 1, x3, x7, x8, x9 => if x9 < x8 then (if 0 ≤ x9 then (if x9 < (x7.length : Int) then ((impl_copyPacket.f ((rd_T38 x7 x9).f0) ((rd_T38 x7 x9).f1) ((rd_T38 x7 x9).f2) ((rd_T38 x7 x9).f3) ((rd_T38 x7 x9).f4) ((rd_T38 x7 x9).f5) ((rd_T38 x7 x9).f6) ((rd_T38 x7 x9).f7)).bind fun bt317 => (if x3.length < 1759218604441 then (impl_copyPackets.l0 k (x3 ++ [(⟨bt317.1, bt317.2.1, bt317.2.2.1, bt317.2.2.2.1, bt317.2.2.2.2.1, bt317.2.2.2.2.2.1, bt317.2.2.2.2.2.2.1, bt317.2.2.2.2.2.2.2⟩ : S38)]) x7 x8 (wrap64 (x9 + 1))) else (none))) else (none)) else (none)) else (some x3)
def impl_copyPackets.f (k : Nat) (l0 : List (S38)) : Option ((List (S38))) := impl_copyPackets.l0 k (([] : List (S38))) l0 (l0.length : Int) 0
set_option maxHeartbeats 8000000 in
set_option maxRecDepth 100000 in
theorem impl_copyPackets.calls (k : Nat) (A0 : Option Addr) (c0 : Nat) (l0 : List (S38)) (r : List (S38)) (w : World) (hr0 : Kd.C k38 w A0 l0.length l0) (hc0 : l0.length ≤ c0) (h : impl_copyPackets.f k l0 = some r) :
  Calls Try.prog 85 #[.slice A0 l0.length c0] w fun e w' => ∃ v0_ : Value, e = .returned (v0_) ∧ Kd.S k38 38 w' w.heap.size (fun _ => True) v0_ r ∧ Below w.heap.size w w' := by
 have hu38 := Try.underlying38
 have HR0 := A_.mk hr0
 have HC0 := A_.mk hc0
 clear hr0 hc0
 have HB := A_.mk (Below.refl w.heap.size w)
 have H : (impl_copyPackets.l0 k (([] : List (S38))) l0 (l0.length : Int) 0) = some r := h
 clear h
 obtain ⟨y312, hy312⟩ : ∃ y_ : List (S38), y_ = (([] : List (S38))) := ⟨_, rfl⟩
 replace H : (impl_copyPackets.l0 k y312 l0 (l0.length : Int) 0) = some r := by first | (rw [hy312]; with_reducible exact H) | (have H2_ := (Option.bind_some _ _).symm.trans H; rw [hy312]; with_reducible exact H2_) | (have H2_ := (Option.bind_some _ _).symm.trans H; with_reducible exact H2_) | with_reducible exact H | (rw [hy312]; exact H) | exact H
 have Ny312 := A_.mk hy312
 clear hy312
 have H' := A_.mk H
 clear H
 go_enter Try.func85, Try.ntmps85
 go_wp2_with (first | ((with_reducible refine gd_ (N := 6) rfl ?_); refine Kd.S_lit k38 _ 38 ?hg (N := 6) ?hd (xs := ([] : List (S38))) (inner := []) (ok := fun _ => True) (okp := fun _ => True) ?hr ?hp (fun _ hk => hk) trivial (Below.refl _ _) (Nat.le_refl _) (by simp) ?_; (case hd => rfl); (case hg => rfl); (case hr => first | (go_simp; done) | (go_simp; rfl)); (case hp => exact (Reps.none _ _)); intro v313 w2 ho3 hb hg_ hnew_; clear hg_ hnew_; (first | rw [← Ny312.out] at ho3 | (simp only [Int.reduceToNat] at ho3; rw [← Ny312.out] at ho3)); have n0_ := A_.mk (Kd.S_lower ho3 (bz_ (beY HB.out))); have n1_ := A_.mk (bt_ (beY HB.out) hb); clear HB; have HO314 := n0_; have HB := n1_; clear n0_ n1_ hb ho3))
 go_loopg [3, 9] k (fun kq v3 v9 w' => ∃ (x3_1 : List (S38)) (x9_1 : Int), v9 = .int .i64 x9_1 ∧ A_ (impl_copyPackets.l0 kq x3_1 l0 (l0.length : Int) x9_1 = some r) ∧ A_ (kq ≤ k) ∧ A_ (Kd.S k38 38 w' w.heap.size (fun _ => True) v3 x3_1) ∧ A_ (Below w.heap.size w w'))
 case atStart => exact ⟨(y312), (0), (by first | rfl | (simp; done) | (simp [*]; done)), H', ⟨Nat.le_refl _⟩, ⟨by (with_reducible repeat (first | apply Kd.S_alloc | apply Kd.S_drewN | apply Kd.S_drew)); exact HO314.out⟩, ⟨beY HB.out⟩⟩
 case round =>
  clear H'
  obtain ⟨x3_1, x9_1, rfl, HA, HK1, HO_3, HB⟩ := hrel
  cases gk with
  | zero => exact absurd HA.out (by simp [impl_copyPackets.l0])
  | succ k1 =>
   have H := HA.out
   clear HA
   simp only [impl_copyPackets.l0] at H
   by_cases c4 : x9_1 < (l0.length : Int)
   rotate_left
   ·rw [if_neg c4] at H
    have c4b0 : decide (x9_1 < (l0.length : Int)) = false := decide_eq_false c4
    clear c4
    obtain rfl := Option.some.inj H
    go_wp2
    go_ret
    exact ⟨_, by first | rfl | (simp [errW_none, errW_some] <;> rfl) | (simp [*, errW_none, errW_some] <;> rfl), by (with_reducible repeat (first | apply Kd.S_alloc | apply Kd.S_drewN | apply Kd.S_drew)); exact HO_3.out, beY HB.out⟩
   rw [if_pos c4] at H
   have c4b0 : decide (x9_1 < (l0.length : Int)) = true := decide_eq_true c4
   clear c4
   by_cases c5 : 0 ≤ x9_1
   rotate_left
   ·rw [if_neg c5] at H
    exact absurd H (by simp)
   rw [if_pos c5] at H
   have c5b0 : decide (0 ≤ x9_1) = true := decide_eq_true c5
   clear c5
   by_cases c6 : x9_1 < (l0.length : Int)
   rotate_left
   ·rw [if_neg c6] at H
    exact absurd H (by simp)
   rw [if_pos c6] at H
   have c6b0 : decide (x9_1 < (l0.length : Int)) = true := decide_eq_true c6
   clear c6
   replace H := ob_ H
   obtain ⟨⟨t317, t318, t319, t320, t321, t322, t323, t324⟩, A70, H⟩ := H
   replace H : (if x3_1.length < 1759218604441 then (impl_copyPackets.l0 k1 (x3_1 ++ [(⟨t317, t318, t319, t320, t321, t322, t323, t324⟩ : S38)]) l0 (l0.length : Int) (wrap64 (x9_1 + 1))) else (none)) = some r := H
   have A7 := A_.mk A70
   clear A70
   by_cases c8 : x3_1.length < 1759218604441
   rotate_left
   ·rw [if_neg c8] at H
    exact absurd H (by simp)
   rw [if_pos c8] at H
   have LMc8 := A_.mk c8
   clear c8
   obtain ⟨y327, hy327⟩ : ∃ y_ : List (S38), y_ = (x3_1 ++ [(⟨t317, t318, t319, t320, t321, t322, t323, t324⟩ : S38)]) := ⟨_, rfl⟩
   replace H : (impl_copyPackets.l0 k1 y327 l0 (l0.length : Int) (wrap64 (x9_1 + 1))) = some r := by first | (rw [hy327]; with_reducible exact H) | (have H2_ := (Option.bind_some _ _).symm.trans H; rw [hy327]; with_reducible exact H2_) | (have H2_ := (Option.bind_some _ _).symm.trans H; with_reducible exact H2_) | with_reducible exact H | (rw [hy327]; exact H) | exact H
   have Ny327 := A_.mk hy327
   clear hy327
   have H' := A_.mk H
   clear H
   have p315 : 0 ≤ (x9_1 : Int) := od_
   have q315 : x9_1 < (l0.length : Int) := od_
   obtain ⟨ad315, A315_7, c315_7, e315, hx315_0, hx315_1, hx315_2, hx315_3, hx315_4, hx315_5, hx315_6, hx315_7, hl315_7, hi315_7⟩ := at_T38 HR0.out x9_1 p315 q315
   cases e315
   replace hx315_0 := (HB.out.cell (wl_ w _ hx315_0)).trans hx315_0
   replace hx315_1 := (HB.out.cell (wl_ w _ hx315_1)).trans hx315_1
   replace hx315_2 := (HB.out.cell (wl_ w _ hx315_2)).trans hx315_2
   replace hx315_3 := (HB.out.cell (wl_ w _ hx315_3)).trans hx315_3
   replace hx315_4 := (HB.out.cell (wl_ w _ hx315_4)).trans hx315_4
   replace hx315_5 := (HB.out.cell (wl_ w _ hx315_5)).trans hx315_5
   replace hx315_6 := (HB.out.cell (wl_ w _ hx315_6)).trans hx315_6
   replace hx315_7 := (HB.out.cell (wl_ w _ hx315_7)).trans hx315_7
   have HR315_7 := A_.mk hi315_7
   have HC315_7 := A_.mk hl315_7
   clear hi315_7 hl315_7
   replace p315 := eq_true p315
   replace q315 := eq_true q315
   go_wp2_with (first | ((with_reducible refine gd_ (N := 5) rfl ?_); refine by_ 5 (cs := #[.int .i64 0, .int .i64 0, .int .i64 0, .int .i64 0, .int .i64 0, .int .i64 0, .int .i64 0, .slice none 0 0]) (t := 38) ?_; intro gb316 hg w9 hbox hb; have n0_ := A_.mk (Kd.S_below (Kd.S_elderB (by (with_reducible repeat (first | apply Kd.S_alloc | apply Kd.S_drewN | apply Kd.S_drew)); exact HO_3.out) gb316 (Nat.le_of_eq hg.symm)) hb); have n1_ := A_.mk (bt_ (beY HB.out) hb); have n2_ := A_.mk (hbox); have n3_ := A_.mk ((by rw [hg]; exact (bz_ (beY HB.out)) : w.heap.size ≤ gb316)); have n4_ := A_.mk ((by rw [hg]; exact (bz_ (beY HB.out)) : w.heap.size ≤ gb316)); clear HO_3 HB; have HO_3 := n0_; have HB := n1_; have BK316 := n2_; have GW316 := n3_; have GE316 := n4_; clear n0_ n1_ n2_ n3_ n4_ hb hbox hg; have hcz10_0 : w9.cell? ⟨gb316, 0, none⟩ = some (.int .i64 0) := (bc_ BK316.out 0).trans rfl; have hcz10_1 : w9.cell? ⟨gb316, 1, none⟩ = some (.int .i64 0) := (bc_ BK316.out 1).trans rfl; have hcz10_2 : w9.cell? ⟨gb316, 2, none⟩ = some (.int .i64 0) := (bc_ BK316.out 2).trans rfl; have hcz10_3 : w9.cell? ⟨gb316, 3, none⟩ = some (.int .i64 0) := (bc_ BK316.out 3).trans rfl; have hcz10_4 : w9.cell? ⟨gb316, 4, none⟩ = some (.int .i64 0) := (bc_ BK316.out 4).trans rfl; have hcz10_5 : w9.cell? ⟨gb316, 5, none⟩ = some (.int .i64 0) := (bc_ BK316.out 5).trans rfl; have hcz10_6 : w9.cell? ⟨gb316, 6, none⟩ = some (.int .i64 0) := (bc_ BK316.out 6).trans rfl; have hcz10_7 : w9.cell? ⟨gb316, 7, none⟩ = some (.slice none 0 0) := (bc_ BK316.out 7).trans rfl; have hfz10_0 := bf_ BK316.out 0; have hfz10_1 := bf_ BK316.out 1; have hfz10_2 := bf_ BK316.out 2; have hfz10_3 := bf_ BK316.out 3; have hfz10_4 := bf_ BK316.out 4; have hfz10_5 := bf_ BK316.out 5; have hfz10_6 := bf_ BK316.out 6; have hfz10_7 := bf_ BK316.out 7) | ((with_reducible refine gc_ (f := 54) rfl ?_); refine gl_ (some 15) Try.func54 #[.agg #[.int .i64 ((rd_T38 l0 x9_1).f0), .int .i64 ((rd_T38 l0 x9_1).f1), .int .i64 ((rd_T38 l0 x9_1).f2), .int .i64 ((rd_T38 l0 x9_1).f3), .int .i64 ((rd_T38 l0 x9_1).f4), .int .i64 ((rd_T38 l0 x9_1).f5), .int .i64 ((rd_T38 l0 x9_1).f6), .slice A315_7 ((rd_T38 l0 x9_1).f7).length c315_7]] ?_; (with_reducible refine (impl_copyPacket.calls ((rd_T38 l0 x9_1).f0) ((rd_T38 l0 x9_1).f1) ((rd_T38 l0 x9_1).f2) ((rd_T38 l0 x9_1).f3) ((rd_T38 l0 x9_1).f4) ((rd_T38 l0 x9_1).f5) ((rd_T38 l0 x9_1).f6) _ _ ((rd_T38 l0 x9_1).f7) t317 t318 t319 t320 t321 t322 t323 t324 _ ?side1 ?side2 A7.out).mono ?_); (case side1 => exact Kd.C_below HR315_7.out (by repeat (first | (with_reducible first | exact HB.out | apply ba_ | apply bd_ | apply be_ | refine bs_ ?_ GE316.out) | exact HB.out))); (case side2 => exact HC315_7.out); rintro e w11 ⟨v325, rfl, ho0, hb⟩; refine ⟨_, rfl, ?_⟩; have n0_ := A_.mk (Kd.S_elder' (by (with_reducible repeat (first | apply Kd.S_alloc | apply Kd.S_drewN | apply Kd.S_drew)); exact (Kd.S_mono (Kd.S_far (p := ⟨gb316, 7, none⟩) (Kd.S_far (p := ⟨gb316, 6, none⟩) (Kd.S_far (p := ⟨gb316, 5, none⟩) (Kd.S_far (p := ⟨gb316, 4, none⟩) (Kd.S_far (p := ⟨gb316, 3, none⟩) (Kd.S_far (p := ⟨gb316, 2, none⟩) (Kd.S_far (p := ⟨gb316, 1, none⟩) (Kd.S_far (p := ⟨gb316, 0, none⟩) (Kd.S_mono HO_3.out (fun k_ hk => (⟨hk, hk.2⟩ : _ ∧ k_ ≠ gb316))) (fun _ hk => hk.2) (.int .i64 ((rd_T38 l0 x9_1).f0))) (fun _ hk => hk.2) (.int .i64 ((rd_T38 l0 x9_1).f1))) (fun _ hk => hk.2) (.int .i64 ((rd_T38 l0 x9_1).f2))) (fun _ hk => hk.2) (.int .i64 ((rd_T38 l0 x9_1).f3))) (fun _ hk => hk.2) (.int .i64 ((rd_T38 l0 x9_1).f4))) (fun _ hk => hk.2) (.int .i64 ((rd_T38 l0 x9_1).f5))) (fun _ hk => hk.2) (.int .i64 ((rd_T38 l0 x9_1).f6))) (fun _ hk => hk.2) (.slice A315_7 ((rd_T38 l0 x9_1).f7).length c315_7)) (fun _ h_ => h_.1))) (Kd.R_base ho0) hb); have n1_ := A_.mk (Kd.R_lower ho0 (bz_ (by repeat (first | (with_reducible first | exact HB.out | apply ba_ | apply bd_ | apply be_ | refine bs_ ?_ GE316.out) | exact HB.out)))); have n2_ := A_.mk (bb_ (g := gb316) (o := .cells #[.int .i64 ((rd_T38 l0 x9_1).f0), .int .i64 ((rd_T38 l0 x9_1).f1), .int .i64 ((rd_T38 l0 x9_1).f2), .int .i64 ((rd_T38 l0 x9_1).f3), .int .i64 ((rd_T38 l0 x9_1).f4), .int .i64 ((rd_T38 l0 x9_1).f5), .int .i64 ((rd_T38 l0 x9_1).f6), .slice A315_7 ((rd_T38 l0 x9_1).f7).length c315_7] 38 (0, 0)) (by (repeat apply bX); refine bp_ (cs := #[.int .i64 ((rd_T38 l0 x9_1).f0), .int .i64 ((rd_T38 l0 x9_1).f1), .int .i64 ((rd_T38 l0 x9_1).f2), .int .i64 ((rd_T38 l0 x9_1).f3), .int .i64 ((rd_T38 l0 x9_1).f4), .int .i64 ((rd_T38 l0 x9_1).f5), .int .i64 ((rd_T38 l0 x9_1).f6), .slice none 0 0]) ?_ 7 _ rfl; (repeat apply bX); refine bp_ (cs := #[.int .i64 ((rd_T38 l0 x9_1).f0), .int .i64 ((rd_T38 l0 x9_1).f1), .int .i64 ((rd_T38 l0 x9_1).f2), .int .i64 ((rd_T38 l0 x9_1).f3), .int .i64 ((rd_T38 l0 x9_1).f4), .int .i64 ((rd_T38 l0 x9_1).f5), .int .i64 0, .slice none 0 0]) ?_ 6 _ rfl; (repeat apply bX); refine bp_ (cs := #[.int .i64 ((rd_T38 l0 x9_1).f0), .int .i64 ((rd_T38 l0 x9_1).f1), .int .i64 ((rd_T38 l0 x9_1).f2), .int .i64 ((rd_T38 l0 x9_1).f3), .int .i64 ((rd_T38 l0 x9_1).f4), .int .i64 0, .int .i64 0, .slice none 0 0]) ?_ 5 _ rfl; (repeat apply bX); refine bp_ (cs := #[.int .i64 ((rd_T38 l0 x9_1).f0), .int .i64 ((rd_T38 l0 x9_1).f1), .int .i64 ((rd_T38 l0 x9_1).f2), .int .i64 ((rd_T38 l0 x9_1).f3), .int .i64 0, .int .i64 0, .int .i64 0, .slice none 0 0]) ?_ 4 _ rfl; (repeat apply bX); refine bp_ (cs := #[.int .i64 ((rd_T38 l0 x9_1).f0), .int .i64 ((rd_T38 l0 x9_1).f1), .int .i64 ((rd_T38 l0 x9_1).f2), .int .i64 0, .int .i64 0, .int .i64 0, .int .i64 0, .slice none 0 0]) ?_ 3 _ rfl; (repeat apply bX); refine bp_ (cs := #[.int .i64 ((rd_T38 l0 x9_1).f0), .int .i64 ((rd_T38 l0 x9_1).f1), .int .i64 0, .int .i64 0, .int .i64 0, .int .i64 0, .int .i64 0, .slice none 0 0]) ?_ 2 _ rfl; (repeat apply bX); refine bp_ (cs := #[.int .i64 ((rd_T38 l0 x9_1).f0), .int .i64 0, .int .i64 0, .int .i64 0, .int .i64 0, .int .i64 0, .int .i64 0, .slice none 0 0]) ?_ 1 _ rfl; (repeat apply bX); refine bp_ (cs := #[.int .i64 0, .int .i64 0, .int .i64 0, .int .i64 0, .int .i64 0, .int .i64 0, .int .i64 0, .slice none 0 0]) ?_ 0 _ rfl; (repeat apply bX); exact BK316.out) hb); have n3_ := A_.mk (bt_ (by repeat (first | (with_reducible first | exact HB.out | apply ba_ | apply bd_ | apply be_ | refine bs_ ?_ GE316.out) | exact HB.out)) hb); clear HO_3 BK316 HB; have HO_3 := n0_; have HO326 := n1_; have BK316 := n2_; have HB := n3_; clear n0_ n1_ n2_ n3_; (try clear hb); (try clear hb2); (try clear hk); (try clear hi); (try clear ho0); obtain ⟨Ao13, co13, eo13⟩ := Kd.R_slice HO326.out; subst eo13) | ((with_reducible refine gate_builtin (b := .append) (xs := #[.tmp 13, .tmp 16]) rfl ?_); at_builtin; refine Kd.S_append k38 (w0 := w) w.heap.size rfl (.tmp 13) (.tmp 16) 31 38 (.agg #[(.int .i64 0), (.int .i64 0), (.int .i64 0), (.int .i64 0), (.int .i64 0), (.int .i64 0), (.int .i64 0), (.slice none 0 0)]) 80 rfl Try.underlying31 info38 rfl (by decide) (by omega) u3 x3_1 (⟨t317, t318, t319, t320, t321, t322, t323, t324⟩ : S38) [.int .i64 t317, .int .i64 t318, .int .i64 t319, .int .i64 t320, .int .i64 t321, .int .i64 t322, .int .i64 t323, .slice Ao13 t324.length co13] (fun k_ => k_ ≠ gb316) (fun k_ => some k_ = (.slice Ao13 t324.length co13 : Value).ownBlock) rfl rfl ?aP (fun k_ hk_ => ((Kd.R_mono (ok' := fun k_ => ((fun k_ => k_ ≠ gb316)) k_ ∧ some k_ ≠ (u3 : Value).ownBlock) (Kd.R_types (Kd.R_apart' (HO326.out) (Kd.S_typed HO_3.out) (by decide)) BK316.out (by decide)) (fun k_ hk => ⟨hk.2, hk.1.2⟩))).1 k_ hk_.symm) ?aF ?aO ?aB ?aS ?aL ?_; (case aP => exact k38_mkM _ _ _ (⟨t317, t318, t319, t320, t321, t322, t323, t324⟩ : S38) (Kd.R_mono (Kd.R_tight rfl (Kd.R_mono (ok' := fun k_ => ((fun k_ => k_ ≠ gb316)) k_ ∧ some k_ ≠ (u3 : Value).ownBlock) (Kd.R_types (Kd.R_apart' (HO326.out) (Kd.S_typed HO_3.out) (by decide)) BK316.out (by decide)) (fun k_ hk => ⟨hk.2, hk.1.2⟩))) (fun _ h_ => h_))); (case aB => exact (by repeat (first | (with_reducible first | exact HB.out | apply ba_ | apply bd_ | apply be_ | refine bs_ ?_ GE316.out) | exact HB.out))); (case aF => exact (fun k_ hk => Kd.freshB (g := gb316) (o := .cells #[.int .i64 ((rd_T38 l0 x9_1).f0), .int .i64 ((rd_T38 l0 x9_1).f1), .int .i64 ((rd_T38 l0 x9_1).f2), .int .i64 ((rd_T38 l0 x9_1).f3), .int .i64 ((rd_T38 l0 x9_1).f4), .int .i64 ((rd_T38 l0 x9_1).f5), .int .i64 ((rd_T38 l0 x9_1).f6), .slice A315_7 ((rd_T38 l0 x9_1).f7).length c315_7] 38 (0, 0)) (bY BK316.out) k_ hk)); (case aO => exact (by (with_reducible repeat (first | apply Kd.S_alloc | apply Kd.S_drewN | apply Kd.S_drew)); exact Kd.S_mono HO_3.out (fun k_ hk => ⟨hk.1.2, fun e_ => hk.2 e_⟩))); (case aS => exact (bz_ (by repeat (first | (with_reducible first | exact HB.out | apply ba_ | apply bd_ | apply be_ | refine bs_ ?_ GE316.out) | exact HB.out)))); (case aL => have := LMc8.out; omega); intro v328 w12 ho hb hg hat; rw [← Ny327.out] at ho; have n0_ := A_.mk (blk_grown (g := gb316) (o := .cells #[.int .i64 ((rd_T38 l0 x9_1).f0), .int .i64 ((rd_T38 l0 x9_1).f1), .int .i64 ((rd_T38 l0 x9_1).f2), .int .i64 ((rd_T38 l0 x9_1).f3), .int .i64 ((rd_T38 l0 x9_1).f4), .int .i64 ((rd_T38 l0 x9_1).f5), .int .i64 ((rd_T38 l0 x9_1).f6), .slice A315_7 ((rd_T38 l0 x9_1).f7).length c315_7] 38 (0, 0)) (bY BK316.out) hg (Kd.S_away HO_3.out (fun _ hk => hk.1.2))); have n1_ := A_.mk (hb); have n2_ := A_.mk (ho); clear BK316 HB HO_3 HO326; have BK316 := n0_; have HB := n1_; have HO329 := n2_; clear n0_ n1_ n2_ ho hb hg hat))
   go_roundg k1
   case measure => have := HK1.out; omega
   case rel => exact ⟨(y327), (wrap64 (x9_1 + 1)), (by first | rfl | (simp; done) | (simp [*]; done)), H', ⟨by have := HK1.out; omega⟩, ⟨by (with_reducible repeat (first | apply Kd.S_alloc | apply Kd.S_drewN | apply Kd.S_drew)); exact Kd.S_mono HO329.out (fun _ hk => trivial)⟩, ⟨by repeat (first | (with_reducible first | exact HB.out | apply ba_ | apply bd_ | apply be_ | refine bs_ ?_ GE316.out) | exact HB.out)⟩⟩
/-! ### impl_copyChannel: function 51, its calls in a row -/
def impl_copyChannel.f (k : Nat) (l0_0 : List Int) (l0_1 : List Int) (l0_2 : List Int) (l0_3 : List Int) (l0_4 : List (S38)) (l0_5 : List (S38)) : Option ((List Int) × (List Int) × (List Int) × (List Int) × (List (S38)) × (List (S38))) := ((impl_copyCredits.f l0_0 l0_1).bind fun ⟨t1, t2⟩ => ((impl_copyCredits.f l0_2 l0_3).bind fun ⟨t3, t4⟩ => ((impl_copyPackets.f k l0_4).bind fun t5 => ((impl_copyPackets.f k l0_5).bind fun t6 => (some (t1, t2, t3, t4, t5, t6))))))
set_option maxHeartbeats 8000000 in
set_option maxRecDepth 100000 in
theorem impl_copyChannel.calls (k : Nat) (A0_0 : Option Addr) (c0_0 : Nat) (l0_0 : List Int) (A0_1 : Option Addr) (c0_1 : Nat) (l0_1 : List Int) (A0_2 : Option Addr) (c0_2 : Nat) (l0_2 : List Int) (A0_3 : Option Addr) (c0_3 : Nat) (l0_3 : List Int) (A0_4 : Option Addr) (c0_4 : Nat) (l0_4 : List (S38)) (A0_5 : Option Addr) (c0_5 : Nat) (l0_5 : List (S38)) (r1 : List Int) (r2 : List Int) (r3 : List Int) (r4 : List Int) (r5 : List (S38)) (r6 : List (S38)) (w : World) (hr0_0 : Kd.C (Kd.int .i64) w A0_0 l0_0.length l0_0) (hc0_0 : l0_0.length ≤ c0_0) (hr0_1 : Kd.C (Kd.int .i64) w A0_1 l0_1.length l0_1) (hc0_1 : l0_1.length ≤ c0_1) (hr0_2 : Kd.C (Kd.int .i64) w A0_2 l0_2.length l0_2) (hc0_2 : l0_2.length ≤ c0_2) (hr0_3 : Kd.C (Kd.int .i64) w A0_3 l0_3.length l0_3) (hc0_3 : l0_3.length ≤ c0_3) (hr0_4 : Kd.C k38 w A0_4 l0_4.length l0_4) (hc0_4 : l0_4.length ≤ c0_4) (hr0_5 : Kd.C k38 w A0_5 l0_5.length l0_5) (hc0_5 : l0_5.length ≤ c0_5) (h : impl_copyChannel.f k l0_0 l0_1 l0_2 l0_3 l0_4 l0_5 = some (r1, r2, r3, r4, r5, r6)) :
  Calls Try.prog 51 #[.agg #[.slice A0_0 l0_0.length c0_0, .slice A0_1 l0_1.length c0_1, .slice A0_2 l0_2.length c0_2, .slice A0_3 l0_3.length c0_3, .slice A0_4 l0_4.length c0_4, .slice A0_5 l0_5.length c0_5]] w fun e w' => ∃ f_ : Nat → Nat, ∃ v0_ v1_ v2_ v3_ v4_ v5_ : Value, e = .returned (.agg #[v0_, v1_, v2_, v3_, v4_, v5_]) ∧ Kd.R (Kd.int .i64) 3 w' w.heap.size (fun k_ => f_ k_ = 0) v0_ r1 ∧ Kd.R (Kd.int .i64) 3 w' w.heap.size (fun k_ => f_ k_ = 1) v1_ r2 ∧ Kd.R (Kd.int .i64) 3 w' w.heap.size (fun k_ => f_ k_ = 2) v2_ r3 ∧ Kd.R (Kd.int .i64) 3 w' w.heap.size (fun k_ => f_ k_ = 3) v3_ r4 ∧ Kd.S k38 38 w' w.heap.size (fun k_ => f_ k_ = 4) v4_ r5 ∧ Kd.S k38 38 w' w.heap.size (fun k_ => f_ k_ = 5) v5_ r6 ∧ Below w.heap.size w w' := by
 have HR0_0 := A_.mk hr0_0
 have HC0_0 := A_.mk hc0_0
 clear hr0_0 hc0_0
 have HR0_1 := A_.mk hr0_1
 have HC0_1 := A_.mk hc0_1
 clear hr0_1 hc0_1
 have HR0_2 := A_.mk hr0_2
 have HC0_2 := A_.mk hc0_2
 clear hr0_2 hc0_2
 have HR0_3 := A_.mk hr0_3
 have HC0_3 := A_.mk hc0_3
 clear hr0_3 hc0_3
 have HR0_4 := A_.mk hr0_4
 have HC0_4 := A_.mk hc0_4
 clear hr0_4 hc0_4
 have HR0_5 := A_.mk hr0_5
 have HC0_5 := A_.mk hc0_5
 clear hr0_5 hc0_5
 have HB := A_.mk (Below.refl w.heap.size w)
 unfold impl_copyChannel.f at h
 have H := h
 clear h
 replace H := oa_ H
 obtain ⟨⟨t1, t2⟩, A3, H⟩ := H
 try dsimp only at H
 replace H := oa_ H
 obtain ⟨⟨t3, t4⟩, A4, H⟩ := H
 try dsimp only at H
 replace H := oa_ H
 obtain ⟨t5, A5, H⟩ := H
 replace H := oa_ H
 obtain ⟨t6, A6, H⟩ := H
 simp only [Option.some.injEq, Prod.mk.injEq] at H
 obtain ⟨rfl, rfl, rfl, rfl, rfl, rfl⟩ := H
 have hu33 := Try.underlying33
 go_enter Try.func51, Try.ntmps51
 have HS := A_.mk (Nat.le_refl w.heap.size)
 go_wp2_with (first | ((with_reducible refine gd_ (N := 1) rfl ?_); refine by_ 1 (cs := #[.slice A0_0 l0_0.length c0_0, .slice A0_1 l0_1.length c0_1, .slice A0_2 l0_2.length c0_2, .slice A0_3 l0_3.length c0_3, .slice A0_4 l0_4.length c0_4, .slice A0_5 l0_5.length c0_5]) (t := 33) ?_; intro gb1_ hg w1_ hbox hb; replace HS := A_.mk (And.intro HS.out (show gb1_ = w.heap.size ∧ gb1_ < w1_.heap.size from ⟨hg, blk_lt hbox⟩)); replace HB := aHB HB hb; have BK1 := A_.mk hbox; clear hbox hb hg; have Q1 := blk6_ BK1.out) | ((with_reducible refine gd_ (N := 2) rfl ?_); refine by_ 2 (cs := #[.slice none 0 0, .slice none 0 0, .slice none 0 0, .slice none 0 0, .slice none 0 0, .slice none 0 0]) (t := 33) ?_; intro gb2_ hg w2_ hbox hb; replace HS := A_.mk (And.intro HS.out (show gb2_ = w1_.heap.size ∧ gb2_ < w2_.heap.size from ⟨hg, blk_lt hbox⟩)); replace BK1 := aBb BK1 hb; replace HB := aHB HB hb; have BK2 := A_.mk hbox; clear hbox hb hg Q1; have Q1 := blk6_ BK1.out; have Q2 := blk6_ BK2.out))
 refine start_ (n := 14) (S := fun w' => (w'.cell? ⟨gb1_, 0, none⟩ = some (.slice A0_0 l0_0.length c0_0) ∧ w'.cell? ⟨gb1_, 1, none⟩ = some (.slice A0_1 l0_1.length c0_1) ∧ w'.cell? ⟨gb1_, 2, none⟩ = some (.slice A0_2 l0_2.length c0_2) ∧ w'.cell? ⟨gb1_, 3, none⟩ = some (.slice A0_3 l0_3.length c0_3) ∧ w'.cell? ⟨gb1_, 4, none⟩ = some (.slice A0_4 l0_4.length c0_4) ∧ w'.cell? ⟨gb1_, 5, none⟩ = some (.slice A0_5 l0_5.length c0_5))) (ds := [13]) #[F, F, F, F, F, F, F, F, F, F, F, F, F, F] (by kernel_rfl) rfl rfl (blk6_ BK1.out) (fun hHeld => ?_)
 clear Q1 Q2
 have hb := below_drew (Below.refl w2_.heap.size w2_)
 replace HS := aHs HS hb.size
 replace BK1 := aBb BK1 hb
 replace BK2 := aBb BK2 hb
 replace HB := aHB HB hb
 clear hb
 generalize w2_.drew = w8d_ at BK1 BK2 HB HS hHeld ⊢
 refine pd_ (i := 0) (N := some 3) #[T, F, F, F, F, F, F, F, F, F, F, F, F, F] rfl ?_
 refine tl_ (i := 1) (N := some 4) #[T, T, F, F, F, F, F, F, F, F, F, F, F, F] rfl hHeld ?_
 refine pd_ (i := 3) (N := some 6) #[T, T, F, T, F, F, F, F, F, F, F, F, F, F] rfl ?_
 refine tl_ (i := 4) (N := some 7) #[T, T, F, T, T, F, F, F, F, F, F, F, F, F] rfl hHeld ?_
 refine pd_ (i := 6) (N := some 9) #[T, T, F, T, T, F, T, F, F, F, F, F, F, F] rfl ?_
 refine tl_ (i := 7) (N := some 10) #[T, T, F, T, T, F, T, T, F, F, F, F, F, F] rfl hHeld ?_
 refine pd_ (i := 9) (N := some 12) #[T, T, F, T, T, F, T, T, F, T, F, F, F, F] rfl ?_
 refine tl_ (i := 10) (N := some 13) #[T, T, F, T, T, F, T, T, F, T, T, F, F, F] rfl hHeld ?_
 refine on_ (i := 2) (N := some 5) #[T, T, T, T, T, F, T, T, F, T, T, F, F, F] rfl (fun K hK => ?_)
 refine gz_ Try.func41 #[.agg #[.slice A0_0 l0_0.length c0_0, .slice A0_1 l0_1.length c0_1]] ?_
 with_reducible refine (impl_copyCredits.calls _ _ l0_0 _ _ l0_1 t1 t2 _ (Kd.C_below HR0_0.out HB.out) HC0_0.out (Kd.C_below HR0_1.out HB.out) HC0_1.out A3.out).mono ?_
 rintro e w3_ ⟨v0_, v1_, rfl, ho0_, ho1_, hb⟩
 refine ⟨_, rfl, ?_⟩
 obtain ⟨f3_, hn0_, hn1_⟩ := two_col ho0_ ho1_
 clear ho0_ ho1_
 replace HS := aHs HS hb.size
 obtain ⟨Ao3_0, co3_0, ev_⟩ := Kd.R_slice hn0_
 subst ev_
 have HO3_0 := aRn hn0_ HB.out.size
 obtain ⟨Ao3_1, co3_1, ev_⟩ := Kd.R_slice hn1_
 subst ev_
 have HO3_1 := aRn hn1_ HB.out.size
 replace BK1 := aBb BK1 hb
 replace BK2 := aBb BK2 hb
 replace HB := aHB HB hb
 clear hb hn0_ hn1_
 refine hK.out _ _ (blk6_ BK1.out) (fun hHeld => ?_)
 clear hK K
 refine nm_ ?_
 refine on_ (i := 5) (N := some 8) #[T, T, T, T, T, T, T, T, F, T, T, F, F, F] rfl (fun K hK => ?_)
 refine gz_ Try.func41 #[.agg #[.slice A0_2 l0_2.length c0_2, .slice A0_3 l0_3.length c0_3]] ?_
 with_reducible refine (impl_copyCredits.calls _ _ l0_2 _ _ l0_3 t3 t4 _ (Kd.C_below HR0_2.out HB.out) HC0_2.out (Kd.C_below HR0_3.out HB.out) HC0_3.out A4.out).mono ?_
 rintro e w4_ ⟨v0_, v1_, rfl, ho0_, ho1_, hb⟩
 refine ⟨_, rfl, ?_⟩
 obtain ⟨f4_, hn0_, hn1_⟩ := two_col ho0_ ho1_
 clear ho0_ ho1_
 replace HS := aHs HS hb.size
 obtain ⟨Ao4_0, co4_0, ev_⟩ := Kd.R_slice hn0_
 subst ev_
 have HO4_0 := aRn hn0_ HB.out.size
 obtain ⟨Ao4_1, co4_1, ev_⟩ := Kd.R_slice hn1_
 subst ev_
 have HO4_1 := aRn hn1_ HB.out.size
 replace HO3_0 := aRb HO3_0 hb
 replace HO3_1 := aRb HO3_1 hb
 replace BK1 := aBb BK1 hb
 replace BK2 := aBb BK2 hb
 replace HB := aHB HB hb
 clear hb hn0_ hn1_
 refine hK.out _ _ (blk6_ BK1.out) (fun hHeld => ?_)
 clear hK K
 refine nm_ ?_
 refine on_ (i := 8) (N := some 11) #[T, T, T, T, T, T, T, T, T, T, T, F, F, F] rfl (fun K hK => ?_)
 refine gz_ Try.func85 #[.slice A0_4 l0_4.length c0_4] ?_
 with_reducible refine (impl_copyPackets.calls k _ _ l0_4 t5 _ (Kd.C_below HR0_4.out HB.out) HC0_4.out A5.out).mono ?_
 rintro e w5_ ⟨v0_, rfl, ho0_, hb⟩
 refine ⟨_, rfl, ?_⟩
 replace HS := aHs HS hb.size
 obtain ⟨Ao5_0, co5_0, ev_⟩ := Kd.S_slice ho0_
 subst ev_
 have HO5_0 := aSm ho0_ HB.out.size
 replace HO3_0 := aRb HO3_0 hb
 replace HO3_1 := aRb HO3_1 hb
 replace HO4_0 := aRb HO4_0 hb
 replace HO4_1 := aRb HO4_1 hb
 replace BK1 := aBb BK1 hb
 replace BK2 := aBb BK2 hb
 replace HB := aHB HB hb
 clear hb ho0_
 refine hK.out _ _ (blk6_ BK1.out) (fun hHeld => ?_)
 clear hK K
 refine nm_ ?_
 refine on_ (i := 11) (N := some 14) #[T, T, T, T, T, T, T, T, T, T, T, T, F, F] rfl (fun K hK => ?_)
 refine gz_ Try.func85 #[.slice A0_5 l0_5.length c0_5] ?_
 with_reducible refine (impl_copyPackets.calls k _ _ l0_5 t6 _ (Kd.C_below HR0_5.out HB.out) HC0_5.out A6.out).mono ?_
 rintro e w6_ ⟨v0_, rfl, ho0_, hb⟩
 refine ⟨_, rfl, ?_⟩
 replace HS := aHs HS hb.size
 obtain ⟨Ao6_0, co6_0, ev_⟩ := Kd.S_slice ho0_
 subst ev_
 have HO6_0 := aSm ho0_ HB.out.size
 replace HO3_0 := aRb HO3_0 hb
 replace HO3_1 := aRb HO3_1 hb
 replace HO4_0 := aRb HO4_0 hb
 replace HO4_1 := aRb HO4_1 hb
 replace HO5_0 := aSb HO5_0 hb
 replace BK1 := aBb BK1 hb
 replace BK2 := aBb BK2 hb
 replace HB := aHB HB hb
 clear hb ho0_
 refine hK.out _ _ (blk6_ BK1.out) (fun hHeld => ?_)
 clear hK K
 refine nm_ ?_
 refine pd_ (i := 12) (N := some 15) #[T, T, T, T, T, T, T, T, T, T, T, T, T, F] rfl ?_
 refine last_ (i := 13) (N := none) #[T, T, T, T, T, T, T, T, T, T, T, T, T, T] rfl rfl (by kernel_rfl) (by decide) (fun K hK => ?_)
 have Q1 := blk6_ BK1.out
 have Q2 := blk6_ BK2.out
 have qf0 := bf_ BK2.out 0; have qf1 := bf_ BK2.out 1; have qf2 := bf_ BK2.out 2; have qf3 := bf_ BK2.out 3; have qf4 := bf_ BK2.out 4; have qf5 := bf_ BK2.out 5
 obtain ⟨w7_, hw⟩ : ∃ q_ : World, q_ = (ch6_ w6_ gb2_ (.slice Ao3_0 t1.length co3_0) (.slice Ao3_1 t2.length co3_1) (.slice Ao4_0 t3.length co4_0) (.slice Ao4_1 t4.length co4_1) (.slice Ao5_0 t5.length co5_0) (.slice Ao6_0 t6.length co6_0)) := ⟨_, rfl⟩
 refine skip_ (w1 := w7_) (by rfl) rfl ?_ ?_
 ·rw [hw]; go_simp; try rfl
 refine hK.out _ _ ?_
 clear hK K qf0 qf1 qf2 qf3 qf4 qf5 Q1 Q2
 obtain ⟨hbx, hkp, hbb⟩ := st6_ hw BK2 HB (by have := HS.out; omega)
 clear hw
 replace HO3_0 := aRk HO3_0 hkp HS
 replace HO3_1 := aRk HO3_1 hkp HS
 replace HO4_0 := aRk HO4_0 hkp HS
 replace HO4_1 := aRk HO4_1 hkp HS
 replace HO5_0 := aSk HO5_0 hkp HS
 replace HO6_0 := aSk HO6_0 hkp HS
 replace BK1 := aBk BK1 hkp HS
 replace BK2 := A_.mk hbx
 replace HB := A_.mk hbb
 replace HS := aHs HS hkp.1
 clear hkp hbb hbx
 refine done_ (by kernel_rfl) ?_
 have Q1 := blk6_ BK1.out
 have Q2 := blk6_ BK2.out
 go_wp2
 refine bodyPost_ret (results_cell_row rfl _ _ gb2_ 33 #[.slice Ao3_0 t1.length co3_0, .slice Ao3_1 t2.length co3_1, .slice Ao4_0 t3.length co4_0, .slice Ao4_1 t4.length co4_1, .slice Ao5_0 t5.length co5_0, .slice Ao6_0 t6.length co6_0] (0, 0) _ rfl BK2.out Try.underlying33 rfl (by kernel_rfl)) rfl ?_
 obtain ⟨f_, hf_⟩ : ∃ f_ : Nat → Nat, ∀ k_, f_ k_ = (if ((w8d_.heap.size ≤ k_ ∧ k_ < w3_.heap.size) ∧ f3_ k_ = 0) then 0 else (if ((w8d_.heap.size ≤ k_ ∧ k_ < w3_.heap.size) ∧ f3_ k_ = 1) then 1 else (if ((w3_.heap.size ≤ k_ ∧ k_ < w4_.heap.size) ∧ f4_ k_ = 0) then 2 else (if ((w3_.heap.size ≤ k_ ∧ k_ < w4_.heap.size) ∧ f4_ k_ = 1) then 3 else (if ((w4_.heap.size ≤ k_ ∧ k_ < w5_.heap.size)) then 4 else (if ((w5_.heap.size ≤ k_ ∧ k_ < w6_.heap.size)) then 5 else 0)))))) := ⟨fun k_ => (if ((w8d_.heap.size ≤ k_ ∧ k_ < w3_.heap.size) ∧ f3_ k_ = 0) then 0 else (if ((w8d_.heap.size ≤ k_ ∧ k_ < w3_.heap.size) ∧ f3_ k_ = 1) then 1 else (if ((w3_.heap.size ≤ k_ ∧ k_ < w4_.heap.size) ∧ f4_ k_ = 0) then 2 else (if ((w3_.heap.size ≤ k_ ∧ k_ < w4_.heap.size) ∧ f4_ k_ = 1) then 3 else (if ((w4_.heap.size ≤ k_ ∧ k_ < w5_.heap.size)) then 4 else (if ((w5_.heap.size ≤ k_ ∧ k_ < w6_.heap.size)) then 5 else 0)))))), fun _ => rfl⟩
 have hcol0_ : ∀ k_, (((w8d_.heap.size ≤ k_ ∧ k_ < w3_.heap.size) ∧ f3_ k_ = 0)) → f_ k_ = 0 := fun k_ hk_ => by rw [hf_]; have := HS.out; repeat' (first | omega | split)
 have hcol1_ : ∀ k_, (((w8d_.heap.size ≤ k_ ∧ k_ < w3_.heap.size) ∧ f3_ k_ = 1)) → f_ k_ = 1 := fun k_ hk_ => by rw [hf_]; have := HS.out; repeat' (first | omega | split)
 have hcol2_ : ∀ k_, (((w3_.heap.size ≤ k_ ∧ k_ < w4_.heap.size) ∧ f4_ k_ = 0)) → f_ k_ = 2 := fun k_ hk_ => by rw [hf_]; have := HS.out; repeat' (first | omega | split)
 have hcol3_ : ∀ k_, (((w3_.heap.size ≤ k_ ∧ k_ < w4_.heap.size) ∧ f4_ k_ = 1)) → f_ k_ = 3 := fun k_ hk_ => by rw [hf_]; have := HS.out; repeat' (first | omega | split)
 have hcol4_ : ∀ k_, (((w4_.heap.size ≤ k_ ∧ k_ < w5_.heap.size))) → f_ k_ = 4 := fun k_ hk_ => by rw [hf_]; have := HS.out; repeat' (first | omega | split)
 have hcol5_ : ∀ k_, (((w5_.heap.size ≤ k_ ∧ k_ < w6_.heap.size))) → f_ k_ = 5 := fun k_ hk_ => by rw [hf_]; have := HS.out; repeat' (first | omega | split)
 exact ⟨f_, _, _, _, _, _, _, rfl, Kd.R_mono HO3_0.out hcol0_, Kd.R_mono HO3_1.out hcol1_, Kd.R_mono HO4_0.out hcol2_, Kd.R_mono HO4_1.out hcol3_, Kd.S_mono HO5_0.out hcol4_, Kd.S_mono HO6_0.out hcol5_, HB.out⟩
/-! ### slices_Delete_38: function 53 (one element), told by hand -/
theorem R_cleared {α : Type} (d : Kd α) {W : World} {base e g n c : Nat} {ok : Nat → Prop} {xs : List α} (HO : d.R e W base ok (.slice (some ⟨g, 0, none⟩) n c) xs) (hn : n < c) (zs : List Value) (hz : zs.length = d.sz) :
  d.R e (W.setCells g (n * d.sz) zs) base ok (.slice (some ⟨g, 0, none⟩) n c) xs ∧ W.grownBy (W.setCells g (n * d.sz) zs) (some g) ∧ (∀ j, j < d.sz → (W.cell? ⟨g, n * d.sz + j, none⟩).isSome = true) ∧ (∀ j, W.frozen? ⟨g, j, none⟩ = false) := by
 obtain ⟨hl, hnc, _⟩ := Kd.R_reads' HO
 obtain ⟨hok, inner, hown, hr⟩ := HO
 rcases hown.2 with ⟨hv, _⟩ | ⟨g', cap', cur, hv, hb, hh, h3, hcm, hcs, htake⟩
 ·cases hv
 injection hv with ha _ hc
 injection ha with ha
 injection ha with hg
 subst hg; subst hc
 have hle : (n + 1) * d.sz ≤ c * d.sz := Nat.mul_le_mul_right _ hn
 rw [Nat.succ_mul] at hle
 obtain ⟨cur', h4, h5, h6⟩ := setCells_row zs (n * d.sz) W cur hh (by omega)
 obtain ⟨s1, s2, s3, s4⟩ := setCells_same g zs (n * d.sz) W
 have hfar : ∀ k', k' ≠ g → (W.setCells g (n * d.sz) zs).heap[k']? = W.heap[k']? := fun k' hk' => setCells_far zs _ k' hk'
 refine ⟨⟨hok, inner, ⟨hown.1, .inr ⟨g, c, cur', by rw [hl], hb, h4, h3, hcm, by rw [h5, hcs], ?_⟩⟩, hr.imp_ (fun p q hp => d.M_move (fun k' hk' => hfar k' (fun he => hk'.2 (by simp [Value.ownBlock, he]))) hp)⟩, ⟨s1, s2, s3, by rw [s4]; exact Nat.le_refl _, fun k' _ hk' => hfar k' (fun he => hk' (by rw [he]))⟩, fun j hj => ?_, fun j => bf_ hh _⟩
 ·rw [h6, ← htake, ← hl, List.append_assoc, List.take_append_of_le_length (by rw [List.length_take, Array.length_toList]; omega), List.take_take, Nat.min_self]
 ·rw [cell_of_row W g _ cur _ (0, 0) hh]
  simp
  omega
theorem S_cleared {α : Type} (d : Kd α) {W : World} {base e g n c : Nat} {ok : Nat → Prop} {xs : List α} (HO : Kd.S d e W base ok (.slice (some ⟨g, 0, none⟩) n c) xs) (hn : n < c) (zs : List Value) (hz : zs.length = d.sz) :
  Kd.S d e (W.setCells g (n * d.sz) zs) base ok (.slice (some ⟨g, 0, none⟩) n c) xs ∧ W.grownBy (W.setCells g (n * d.sz) zs) (some g) ∧ (∀ j, j < d.sz → (W.cell? ⟨g, n * d.sz + j, none⟩).isSome = true) ∧ (∀ j, W.frozen? ⟨g, j, none⟩ = false) := by
 obtain ⟨f, HR⟩ := HO
 obtain ⟨h1, h2, h3, h4⟩ := R_cleared (Kd.tag f d) HR hn zs hz
 exact ⟨⟨f, h1⟩, h2, h3, h4⟩
theorem run_clear_one {P : Program} (w : World) (t e ty : TypeId) (z : Value) (ht : P.underlying t = some (.slice e)) (hv : ∀ w, (zeroValue e).run P w = .ok z w) (zs : List Value) (hz : z.cells = zs.toArray) (h1 : ∀ u ∈ zs, u.oneCell' = true) (b o c : Nat)
  (hc : ∀ j, j < zs.length → (w.cell? ⟨b, o + j, none⟩).isSome = true) (hf : ∀ j, j < zs.length → w.frozen? ⟨b, o + j, none⟩ = false) :
  (Builtin.clear_ #[t] ty #[.slice (some ⟨b, o, none⟩) 1 c]).run P w = .ok (.tuple #[]) (w.setCells b o zs) := by
 have hzc : (Builtin.zeroCells z.cells 1).toList = zs := by
  rw [hz]
  simp [Builtin.zeroCells]
  apply List.ext_getElem
  ·simp
  ·intro i h1 h2
   simp at h1 ⊢
   simp [Nat.mod_eq_of_lt h2]
   rw [List.getElem?_eq_getElem h2]; rfl
 have hst := run_storeCells_cells (P := P) b o zs 0 w (by simpa using hc) (by simpa using hf) h1
 simp only [Nat.add_zero] at hst
 simp [Builtin.clear_, run_underlying ht, hv, hzc, hst]
set_option maxHeartbeats 8000000 in
set_option maxRecDepth 100000 in
theorem slices_Delete_38.calls (P0_ : Nat → Prop) (g n c : Nat) (l0 : List S38) (i : Int) (w0 w : World) (hB : Below w0.heap.size w0 w) (ho : Kd.S k38 38 w w0.heap.size P0_ (.slice (some ⟨g, 0, none⟩) n c) l0) (h0 : 0 ≤ i) (h1 : i < (n : Int)) :
  Calls Try.prog 53 #[.slice (some ⟨g, 0, none⟩) n c, .int .i64 i, .int .i64 (wrap64 (i + 1))] w fun e w' => e = .returned (.slice (some ⟨g, 0, none⟩) (n - 1) c) ∧ Kd.S k38 38 w' w0.heap.size P0_ (.slice (some ⟨g, 0, none⟩) (n - 1) c) (l0.eraseIdx i.toNat) ∧ Below w0.heap.size w0 w' ∧ Kept w w' (fun k_ => k_ = g) := by
 obtain ⟨m, rfl⟩ : ∃ m : Nat, i = m := ⟨i.toNat, by omega⟩
 have hnc := (Kd.S_reads' ho).2.1
 have hcm : c ≤ 9223372036854775807 := by
  obtain ⟨f, _, inner, hown, _⟩ := ho
  rcases hown.2 with ⟨hv, _⟩ | ⟨g', cap', cur, hv, _, _, _, hcm, _⟩
  ·cases hv
  ·cases hv; exact hcm
 obtain ⟨p, rfl⟩ : ∃ p, n = p + 1 := ⟨n - 1, by omega⟩
 have hm : m < p + 1 := by omega
 have hm2 : m ≤ p := by omega
 have hw : wrap64 ((m : Int) + 1) = ((m + 1 : Nat) : Int) := by unfold wrap64; omega
 rw [hw]
 have hbase := hB.size
 have HO := A_.mk ho
 have HB := A_.mk hB
 have hne : ¬ m = m + 1 := by omega
 have hc1 : m + 1 ≤ p + 1 := hm
 have hc2 : m ≤ c := by omega
 have hc3 : m + 1 ≤ c := by omega
 have hc4 : m ≤ m + 1 := by omega
 have hc5 : m ≤ p + 1 := by omega
 have hi1 : (0 : Int) ≤ (m : Int) + 1 := by omega
 have hi2 : (m : Int) + 1 ≤ ((p + 1 : Nat) : Int) := by omega
 clear ho hB hw h0 h1
 go_enter Try.func53, Try.ntmps53
 go_wp2_with fail
 refine start_ (n := 8) (S := fun w' => True) (ds := []) #[F, F, F, F, F, F, F, F] (by kernel_rfl) rfl rfl trivial (fun hHeld => ?_)
 refine pd_ (i := 0) (N := some 20) #[T, F, F, F, F, F, F, F] rfl ?_
 refine pd_ (i := 1) (N := some 21) #[T, T, F, F, F, F, F, F] rfl ?_
 refine pd_ (i := 2) (N := some 22) #[T, T, T, F, F, F, F, F] rfl ?_
 refine pd_ (i := 3) (N := some 23) #[T, T, T, T, F, F, F, F] rfl ?_
 refine pd_ (i := 4) (N := some 24) #[T, T, T, T, T, F, F, F] rfl ?_
 refine pd_ (i := 5) (N := some 25) #[T, T, T, T, T, T, F, F] rfl ?_
 refine on_ (i := 6) (N := some 26) #[T, T, T, T, T, T, T, F] rfl (fun K hK => ?_)
 refine Kd.S_delete_step k38 w0.heap.size (by rfl) (.tmp 22) (.tmp 25) 31 38 rfl Try.underlying31 (by kernel_rfl) (g := g) (n := p + 1) (c := c) (k := m) (m := p - m) rfl rfl ?hA (by omega) (Kd.S_drew HO.out) hm (below_drew HB.out) hbase ?_
 case hA =>
  by_cases hz : c = m + 1
  ·rw [if_pos hz, if_pos hz]
  rw [if_neg hz, if_neg hz]; show _ = some (Addr.add ⟨g, 0, none⟩ ((m + 1) * 8)); rw [add_at, Nat.zero_add]
 intro w1 ho hb hg
 refine hK.out _ _ trivial (fun hHeld => ?_)
 clear hK K
 refine nm_ ?_
 refine pd_ (i := 7) (N := some 0) #[T, T, T, T, T, T, T, T] rfl ?_
 refine done_ (by kernel_rfl) ?_
 have hpc : p < c := by omega
 rw [Nat.add_sub_cancel] at ho
 obtain ⟨hN2, hg2, hcs, hfr⟩ := S_cleared k38 ho hpc [.int .i64 0, .int .i64 0, .int .i64 0, .int .i64 0, .int .i64 0, .int .i64 0, .int .i64 0, .slice none 0 0] rfl
 have hcl : ∀ ty, (Builtin.clear_ #[31] ty #[.slice (some ⟨g, p * 8, none⟩) 1 (c - p)]).run Try.prog w1 = .ok (.tuple #[]) (w1.setCells g (p * 8) [.int .i64 0, .int .i64 0, .int .i64 0, .int .i64 0, .int .i64 0, .int .i64 0, .int .i64 0, .slice none 0 0]) :=
  fun ty => run_clear_one w1 31 38 ty (.agg #[.int .i64 0, .int .i64 0, .int .i64 0, .int .i64 0, .int .i64 0, .int .i64 0, .int .i64 0, .slice none 0 0]) Try.underlying31 (fun _ => by kernel_rfl) [.int .i64 0, .int .i64 0, .int .i64 0, .int .i64 0, .int .i64 0, .int .i64 0, .int .i64 0, .slice none 0 0] rfl (by decide) g (p * 8) (c - p) (fun j hj => hcs j hj) (fun j hj => hfr _)
 replace hN2 : Kd.S k38 38 (w1.setCells g (p * 8) [.int .i64 0, .int .i64 0, .int .i64 0, .int .i64 0, .int .i64 0, .int .i64 0, .int .i64 0, .slice none 0 0]) w0.heap.size P0_ (.slice (some ⟨g, 0, none⟩) p c) (l0.eraseIdx m) := hN2
 replace hg2 : w1.grownBy (w1.setCells g (p * 8) [.int .i64 0, .int .i64 0, .int .i64 0, .int .i64 0, .int .i64 0, .int .i64 0, .int .i64 0, .slice none 0 0]) (some g) := hg2
 generalize w1.setCells g (p * 8) [.int .i64 0, .int .i64 0, .int .i64 0, .int .i64 0, .int .i64 0, .int .i64 0, .int .i64 0, .slice none 0 0] = W2 at hN2 hg2 hcl
 have HN := A_.mk hN2
 have HG := A_.mk hg
 have HG2 := A_.mk hg2
 have HB2 := A_.mk (hb.grown hg2 (Nat.le_trans hbase hg.size) (fun k hk => by injection hk with hk; subst hk; exact (Kd.S_base ho) _ (by simp [Value.ownBlock])))
 have hp1 : p ≤ c := by omega
 have hp2 : p + 1 ≤ c := by omega
 have hp3 : p ≤ p + 1 := by omega
 have hp4 : ¬ c = p := by omega
 clear hN2 hg hg2 hcs hfr ho hb
 go_wp2
 all_goals (go_ret; first | exact ⟨rfl, HN.out, HB2.out, Kept.of_grown HG2.out (Kept.of_grown HG.out (Kept.drew (Kept.refl w _)) (fun k hk => .inl (by injection hk with hk; exact hk.symm))) (fun k hk => .inl (by injection hk with hk; exact hk.symm))⟩ | (subst h; exact ⟨rfl, HN.out, HB2.out, Kept.of_grown HG2.out (Kept.of_grown HG.out (Kept.drew (Kept.refl w _)) (fun k hk => .inl (by injection hk with hk; exact hk.symm))) (fun k hk => .inl (by injection hk with hk; exact hk.symm))⟩))
end Go.Proofs.Ytlombfmebinjbaa.PFnExactTellCredits
