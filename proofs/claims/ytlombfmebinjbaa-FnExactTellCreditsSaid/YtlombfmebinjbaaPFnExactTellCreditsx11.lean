-- Written by a program of this session (wip/xp): not trusted, Lean checks it.
import Derived.Test.YtlombfmebinjbaaPFnExactTellCreditsx0
import Derived.Test.YtlombfmebinjbaaPFnExactTellCreditsx1
import Derived.Test.YtlombfmebinjbaaPFnExactTellCreditsx6
namespace Go.Proofs.Ytlombfmebinjbaa.PFnExactTellCredits
open Go.RowKit Go.Proofs.YtlombfmebinjbaaW.PrintWords Go.Proofs.YtlombfmebinjbaaW.PrintLast Go.Proofs.YtlombfmebinjbaaW.PrintMore
attribute [local go_sem] max2_int min2_int max_two min_two max_three min_three max_four min_four   -- for this text's walks alone
set_option linter.unusedVariables false
set_option linter.unusedSimpArgs false

/-! ### spec_l04Copy: function 50 -/
def spec_l04Copy.f (a0_0 : Int) (a0_1 : Int) (a0_2 : Int) (a0_3 : Int) (a0_4 : Int) (a0_5 : Int) (a0_6 : Int) (l0_7 : List Int) : Option (Int × Int × Int × Int × Int × Int × Int × List Int) := (some (([] : List Int) : List Int)).bind fun y214 => (if y214.length + l0_7.length < 17592186044416 then (some (a0_0, a0_1, a0_2, a0_3, a0_4, a0_5, a0_6, (y214 ++ l0_7))) else (none))
set_option maxHeartbeats 8000000 in
set_option maxRecDepth 100000 in
theorem spec_l04Copy.calls (a0_0 : Int) (a0_1 : Int) (a0_2 : Int) (a0_3 : Int) (a0_4 : Int) (a0_5 : Int) (a0_6 : Int) (A0_7 : Option Addr) (c0_7 : Nat) (l0_7 : List Int) (r1 : Int) (r2 : Int) (r3 : Int) (r4 : Int) (r5 : Int) (r6 : Int) (r7 : Int) (r8 : List Int) (w : World) (hr0_7 : Kd.C (Kd.int .i64) w A0_7 l0_7.length l0_7) (hc0_7 : l0_7.length ≤ c0_7) (h : spec_l04Copy.f a0_0 a0_1 a0_2 a0_3 a0_4 a0_5 a0_6 l0_7 = some (r1, r2, r3, r4, r5, r6, r7, r8)) :
  Calls Try.prog 50 #[.agg #[.int .i64 a0_0, .int .i64 a0_1, .int .i64 a0_2, .int .i64 a0_3, .int .i64 a0_4, .int .i64 a0_5, .int .i64 a0_6, .slice A0_7 l0_7.length c0_7]] w fun e w' => ∃ v7_ : Value, e = .returned (.agg #[.int .i64 r1, .int .i64 r2, .int .i64 r3, .int .i64 r4, .int .i64 r5, .int .i64 r6, .int .i64 r7, v7_]) ∧ Kd.R (Kd.int .i64) 3 w' w.heap.size (fun _ => True) v7_ r8 ∧ Below w.heap.size w w' := by
 have hu38 := Try.underlying38
 have HR0_7 := A_.mk hr0_7
 have HC0_7 := A_.mk hc0_7
 clear hr0_7 hc0_7
 have HB := A_.mk (Below.refl w.heap.size w)
 have H : ((some (([] : List Int) : List Int)).bind fun y214 => (if y214.length + l0_7.length < 17592186044416 then (some (a0_0, a0_1, a0_2, a0_3, a0_4, a0_5, a0_6, (y214 ++ l0_7))) else (none))) = some (r1, r2, r3, r4, r5, r6, r7, r8) := h
 clear h
 obtain ⟨y214, hy214⟩ : ∃ y_ : List Int, y_ = (([] : List Int)) := ⟨_, rfl⟩
 replace H : (if y214.length + l0_7.length < 17592186044416 then (some (a0_0, a0_1, a0_2, a0_3, a0_4, a0_5, a0_6, (y214 ++ l0_7))) else (none)) = some (r1, r2, r3, r4, r5, r6, r7, r8) := by first | (rw [hy214]; with_reducible exact H) | (have H2_ := (Option.bind_some _ _).symm.trans H; rw [hy214]; with_reducible exact H2_) | (have H2_ := (Option.bind_some _ _).symm.trans H; with_reducible exact H2_) | with_reducible exact H | (rw [hy214]; exact H) | exact H
 have Ny214 := A_.mk hy214
 clear hy214
 by_cases c2 : y214.length + l0_7.length < 17592186044416
 rotate_left
 ·rw [if_neg c2] at H
  exact absurd H (by simp)
 rw [if_pos c2] at H
 have LMc2 := A_.mk c2
 clear c2
 obtain ⟨y217, hy217⟩ : ∃ y_ : List Int, y_ = (y214 ++ l0_7) := ⟨_, rfl⟩
 replace H : (some (a0_0, a0_1, a0_2, a0_3, a0_4, a0_5, a0_6, y217)) = some (r1, r2, r3, r4, r5, r6, r7, r8) := by first | (rw [hy217]; with_reducible exact H) | (have H2_ := (Option.bind_some _ _).symm.trans H; rw [hy217]; with_reducible exact H2_) | (have H2_ := (Option.bind_some _ _).symm.trans H; with_reducible exact H2_) | with_reducible exact H | (rw [hy217]; exact H) | exact H
 have Ny217 := A_.mk hy217
 clear hy217
 simp only [Option.some.injEq, Prod.mk.injEq] at H
 obtain ⟨rfl, rfl, rfl, rfl, rfl, rfl, rfl, rfl⟩ := H
 go_enter Try.func50, Try.ntmps50
 go_wp2_with (first | ((with_reducible refine gd_ (N := 1) rfl ?_); refine by_ 1 (cs := #[.int .i64 a0_0, .int .i64 a0_1, .int .i64 a0_2, .int .i64 a0_3, .int .i64 a0_4, .int .i64 a0_5, .int .i64 a0_6, .slice A0_7 l0_7.length c0_7]) (t := 38) ?_; intro gb211 hg w3 hbox hb; have n0_ := A_.mk (bt_ (beY HB.out) hb); have n1_ := A_.mk (hbox); have n2_ := A_.mk ((by rw [hg]; exact (bz_ (beY HB.out)) : w.heap.size ≤ gb211)); have n3_ := A_.mk ((by rw [hg]; exact (bz_ (beY HB.out)) : w.heap.size ≤ gb211)); clear HB; have HB := n0_; have BK211 := n1_; have GW211 := n2_; have GE211 := n3_; clear n0_ n1_ n2_ n3_ hb hbox hg) | ((with_reducible refine gd_ (N := 2) rfl ?_); refine by_ 2 (cs := #[.int .i64 0, .int .i64 0, .int .i64 0, .int .i64 0, .int .i64 0, .int .i64 0, .int .i64 0, .slice none 0 0]) (t := 38) ?_; intro gb212 hg w4 hbox hb; have n0_ := A_.mk (bb_ (bY BK211.out) hb); have n1_ := A_.mk (bt_ (by repeat (first | (with_reducible first | exact HB.out | apply ba_ | apply bd_ | apply be_ | refine bs_ ?_ GE211.out) | exact HB.out)) hb); have n2_ := A_.mk (hbox); have n3_ := A_.mk ((by rw [hg]; exact (bz_ (by repeat (first | (with_reducible first | exact HB.out | apply ba_ | apply bd_ | apply be_ | refine bs_ ?_ GE211.out) | exact HB.out))) : w.heap.size ≤ gb212)); have n4_ := A_.mk ((by rw [hg]; exact (bz_ (by repeat (first | (with_reducible first | exact HB.out | apply ba_ | apply bd_ | apply be_ | refine bs_ ?_ GE211.out) | exact HB.out))) : w.heap.size ≤ gb212)); have n5_ := A_.mk ((by rw [hg]; exact Nat.ne_of_lt (blk_lt (bY BK211.out)) : gb211 ≠ gb212)); have n6_ := A_.mk ((by rw [hg]; exact Nat.ne_of_gt (blk_lt (bY BK211.out)) : gb212 ≠ gb211)); clear BK211 HB; have BK211 := n0_; have HB := n1_; have BK212 := n2_; have GW212 := n3_; have GE212 := n4_; have NB211_212 := n5_; have NB212_211 := n6_; clear n0_ n1_ n2_ n3_ n4_ n5_ n6_ hb hbox hg; have hnb5 := NB211_212.out; have hnc5 := NB212_211.out; have hcz6_0 : w4.cell? ⟨gb211, 0, none⟩ = some (.int .i64 a0_0) := (bc_ BK211.out 0).trans rfl; have hcz6_1 : w4.cell? ⟨gb211, 1, none⟩ = some (.int .i64 a0_1) := (bc_ BK211.out 1).trans rfl; have hcz6_2 : w4.cell? ⟨gb211, 2, none⟩ = some (.int .i64 a0_2) := (bc_ BK211.out 2).trans rfl; have hcz6_3 : w4.cell? ⟨gb211, 3, none⟩ = some (.int .i64 a0_3) := (bc_ BK211.out 3).trans rfl; have hcz6_4 : w4.cell? ⟨gb211, 4, none⟩ = some (.int .i64 a0_4) := (bc_ BK211.out 4).trans rfl; have hcz6_5 : w4.cell? ⟨gb211, 5, none⟩ = some (.int .i64 a0_5) := (bc_ BK211.out 5).trans rfl; have hcz6_6 : w4.cell? ⟨gb211, 6, none⟩ = some (.int .i64 a0_6) := (bc_ BK211.out 6).trans rfl; have hcz6_7 : w4.cell? ⟨gb211, 7, none⟩ = some (.slice A0_7 l0_7.length c0_7) := (bc_ BK211.out 7).trans rfl; have hfz6_0 := bf_ BK211.out 0; have hfz6_1 := bf_ BK211.out 1; have hfz6_2 := bf_ BK211.out 2; have hfz6_3 := bf_ BK211.out 3; have hfz6_4 := bf_ BK211.out 4; have hfz6_5 := bf_ BK211.out 5; have hfz6_6 := bf_ BK211.out 6; have hfz6_7 := bf_ BK211.out 7) | ((with_reducible refine gd_ (N := 3) rfl ?_); refine by_ 3 (cs := #[.int .i64 0, .int .i64 0, .int .i64 0, .int .i64 0, .int .i64 0, .int .i64 0, .int .i64 0, .slice none 0 0]) (t := 38) ?_; intro gb213 hg w7 hbox hb; have n0_ := A_.mk (bb_ (bY BK211.out) hb); have n1_ := A_.mk (bb_ (bY BK212.out) hb); have n2_ := A_.mk (bt_ (by repeat (first | (with_reducible first | exact HB.out | apply ba_ | apply bd_ | apply be_ | refine bs_ ?_ GE211.out | refine bs_ ?_ GE212.out) | exact HB.out)) hb); have n3_ := A_.mk (hbox); have n4_ := A_.mk ((by rw [hg]; exact (bz_ (by repeat (first | (with_reducible first | exact HB.out | apply ba_ | apply bd_ | apply be_ | refine bs_ ?_ GE211.out | refine bs_ ?_ GE212.out) | exact HB.out))) : w.heap.size ≤ gb213)); have n5_ := A_.mk ((by rw [hg]; exact (bz_ (by repeat (first | (with_reducible first | exact HB.out | apply ba_ | apply bd_ | apply be_ | refine bs_ ?_ GE211.out | refine bs_ ?_ GE212.out) | exact HB.out))) : w.heap.size ≤ gb213)); have n6_ := A_.mk ((by rw [hg]; exact Nat.ne_of_lt (blk_lt (bY BK211.out)) : gb211 ≠ gb213)); have n7_ := A_.mk ((by rw [hg]; exact Nat.ne_of_gt (blk_lt (bY BK211.out)) : gb213 ≠ gb211)); have n8_ := A_.mk ((by rw [hg]; exact Nat.ne_of_lt (blk_lt (bY BK212.out)) : gb212 ≠ gb213)); have n9_ := A_.mk ((by rw [hg]; exact Nat.ne_of_gt (blk_lt (bY BK212.out)) : gb213 ≠ gb212)); clear BK211 BK212 HB; have BK211 := n0_; have BK212 := n1_; have HB := n2_; have BK213 := n3_; have GW213 := n4_; have GE213 := n5_; have NB211_213 := n6_; have NB213_211 := n7_; have NB212_213 := n8_; have NB213_212 := n9_; clear n0_ n1_ n2_ n3_ n4_ n5_ n6_ n7_ n8_ n9_ hb hbox hg; have hnb8 := NB213_211.out; have hnc8 := NB211_213.out; have hnb9 := NB213_212.out; have hnc9 := NB212_213.out; have hcz10_0 : w7.cell? ⟨gb213, 0, none⟩ = some (.int .i64 0) := (bc_ BK213.out 0).trans rfl; have hcz10_1 : w7.cell? ⟨gb213, 1, none⟩ = some (.int .i64 0) := (bc_ BK213.out 1).trans rfl; have hcz10_2 : w7.cell? ⟨gb213, 2, none⟩ = some (.int .i64 0) := (bc_ BK213.out 2).trans rfl; have hcz10_3 : w7.cell? ⟨gb213, 3, none⟩ = some (.int .i64 0) := (bc_ BK213.out 3).trans rfl; have hcz10_4 : w7.cell? ⟨gb213, 4, none⟩ = some (.int .i64 0) := (bc_ BK213.out 4).trans rfl; have hcz10_5 : w7.cell? ⟨gb213, 5, none⟩ = some (.int .i64 0) := (bc_ BK213.out 5).trans rfl; have hcz10_6 : w7.cell? ⟨gb213, 6, none⟩ = some (.int .i64 0) := (bc_ BK213.out 6).trans rfl; have hcz10_7 : w7.cell? ⟨gb213, 7, none⟩ = some (.slice none 0 0) := (bc_ BK213.out 7).trans rfl; have hfz10_0 := bf_ BK213.out 0; have hfz10_1 := bf_ BK213.out 1; have hfz10_2 := bf_ BK213.out 2; have hfz10_3 := bf_ BK213.out 3; have hfz10_4 := bf_ BK213.out 4; have hfz10_5 := bf_ BK213.out 5; have hfz10_6 := bf_ BK213.out 6; have hfz10_7 := bf_ BK213.out 7) | ((with_reducible refine gd_ (N := 5) rfl ?_); refine Kd.R_lit (Kd.int .i64) _ 3 ?hg (N := 5) ?hd (xs := ([] : List Int)) (inner := []) (ok := fun _ => True) (okp := fun _ => True) ?hr ?hp (fun _ hk => hk) trivial (Below.refl _ _) (Nat.le_refl _) (by simp) ?_; (case hd => rfl); (case hg => rfl); (case hr => first | (go_simp; done) | (go_simp; rfl)); (case hp => exact (Reps.none _ _)); intro v215 w11 ho12 hb hg_ hnew_; clear hg_ hnew_; (first | rw [← Ny214.out] at ho12 | (simp only [Int.reduceToNat] at ho12; rw [← Ny214.out] at ho12)); have n0_ := A_.mk (Kd.R_lower ho12 (bz_ (by repeat (first | (with_reducible first | exact HB.out | apply ba_ | apply bd_ | apply be_ | refine bs_ ?_ GE211.out | refine bs_ ?_ GE212.out | refine bs_ ?_ GE213.out) | exact HB.out)))); have n1_ := A_.mk (bb_ (g := gb211) (o := .cells #[.int .i64 a0_0, .int .i64 a0_1, .int .i64 a0_2, .int .i64 a0_3, .int .i64 a0_4, .int .i64 a0_5, .int .i64 a0_6, .slice A0_7 l0_7.length c0_7] 38 (0, 0)) (by (repeat apply bX); refine blk_far ?_ NB211_213.out _; (repeat apply bX); refine blk_far ?_ NB211_213.out _; (repeat apply bX); refine blk_far ?_ NB211_213.out _; (repeat apply bX); refine blk_far ?_ NB211_213.out _; (repeat apply bX); refine blk_far ?_ NB211_213.out _; (repeat apply bX); refine blk_far ?_ NB211_213.out _; (repeat apply bX); refine blk_far ?_ NB211_213.out _; (repeat apply bX); refine blk_far ?_ NB211_213.out _; (repeat apply bX); exact BK211.out) hb); have n2_ := A_.mk (bb_ (g := gb212) (o := .cells #[.int .i64 0, .int .i64 0, .int .i64 0, .int .i64 0, .int .i64 0, .int .i64 0, .int .i64 0, .slice none 0 0] 38 (0, 0)) (by (repeat apply bX); refine blk_far ?_ NB212_213.out _; (repeat apply bX); refine blk_far ?_ NB212_213.out _; (repeat apply bX); refine blk_far ?_ NB212_213.out _; (repeat apply bX); refine blk_far ?_ NB212_213.out _; (repeat apply bX); refine blk_far ?_ NB212_213.out _; (repeat apply bX); refine blk_far ?_ NB212_213.out _; (repeat apply bX); refine blk_far ?_ NB212_213.out _; (repeat apply bX); refine blk_far ?_ NB212_213.out _; (repeat apply bX); exact BK212.out) hb); have n3_ := A_.mk (bb_ (g := gb213) (o := .cells #[.int .i64 a0_0, .int .i64 a0_1, .int .i64 a0_2, .int .i64 a0_3, .int .i64 a0_4, .int .i64 a0_5, .int .i64 a0_6, .slice A0_7 l0_7.length c0_7] 38 (0, 0)) (by (repeat apply bX); refine bp_ (cs := #[.int .i64 a0_0, .int .i64 a0_1, .int .i64 a0_2, .int .i64 a0_3, .int .i64 a0_4, .int .i64 a0_5, .int .i64 a0_6, .slice none 0 0]) ?_ 7 _ rfl; (repeat apply bX); refine bp_ (cs := #[.int .i64 a0_0, .int .i64 a0_1, .int .i64 a0_2, .int .i64 a0_3, .int .i64 a0_4, .int .i64 a0_5, .int .i64 0, .slice none 0 0]) ?_ 6 _ rfl; (repeat apply bX); refine bp_ (cs := #[.int .i64 a0_0, .int .i64 a0_1, .int .i64 a0_2, .int .i64 a0_3, .int .i64 a0_4, .int .i64 0, .int .i64 0, .slice none 0 0]) ?_ 5 _ rfl; (repeat apply bX); refine bp_ (cs := #[.int .i64 a0_0, .int .i64 a0_1, .int .i64 a0_2, .int .i64 a0_3, .int .i64 0, .int .i64 0, .int .i64 0, .slice none 0 0]) ?_ 4 _ rfl; (repeat apply bX); refine bp_ (cs := #[.int .i64 a0_0, .int .i64 a0_1, .int .i64 a0_2, .int .i64 0, .int .i64 0, .int .i64 0, .int .i64 0, .slice none 0 0]) ?_ 3 _ rfl; (repeat apply bX); refine bp_ (cs := #[.int .i64 a0_0, .int .i64 a0_1, .int .i64 0, .int .i64 0, .int .i64 0, .int .i64 0, .int .i64 0, .slice none 0 0]) ?_ 2 _ rfl; (repeat apply bX); refine bp_ (cs := #[.int .i64 a0_0, .int .i64 0, .int .i64 0, .int .i64 0, .int .i64 0, .int .i64 0, .int .i64 0, .slice none 0 0]) ?_ 1 _ rfl; (repeat apply bX); refine bp_ (cs := #[.int .i64 0, .int .i64 0, .int .i64 0, .int .i64 0, .int .i64 0, .int .i64 0, .int .i64 0, .slice none 0 0]) ?_ 0 _ rfl; (repeat apply bX); exact BK213.out) hb); have n4_ := A_.mk (bt_ (by repeat (first | (with_reducible first | exact HB.out | apply ba_ | apply bd_ | apply be_ | refine bs_ ?_ GE211.out | refine bs_ ?_ GE212.out | refine bs_ ?_ GE213.out) | exact HB.out)) hb); clear BK211 BK212 BK213 HB; have HO216 := n0_; have BK211 := n1_; have BK212 := n2_; have BK213 := n3_; have HB := n4_; clear n0_ n1_ n2_ n3_ n4_ hb ho12; have hcz13_0 : w11.cell? ⟨gb211, 0, none⟩ = some (.int .i64 a0_0) := (bc_ BK211.out 0).trans rfl; have hcz13_1 : w11.cell? ⟨gb211, 1, none⟩ = some (.int .i64 a0_1) := (bc_ BK211.out 1).trans rfl; have hcz13_2 : w11.cell? ⟨gb211, 2, none⟩ = some (.int .i64 a0_2) := (bc_ BK211.out 2).trans rfl; have hcz13_3 : w11.cell? ⟨gb211, 3, none⟩ = some (.int .i64 a0_3) := (bc_ BK211.out 3).trans rfl; have hcz13_4 : w11.cell? ⟨gb211, 4, none⟩ = some (.int .i64 a0_4) := (bc_ BK211.out 4).trans rfl; have hcz13_5 : w11.cell? ⟨gb211, 5, none⟩ = some (.int .i64 a0_5) := (bc_ BK211.out 5).trans rfl; have hcz13_6 : w11.cell? ⟨gb211, 6, none⟩ = some (.int .i64 a0_6) := (bc_ BK211.out 6).trans rfl; have hcz13_7 : w11.cell? ⟨gb211, 7, none⟩ = some (.slice A0_7 l0_7.length c0_7) := (bc_ BK211.out 7).trans rfl; have hfz13_0 := bf_ BK211.out 0; have hfz13_1 := bf_ BK211.out 1; have hfz13_2 := bf_ BK211.out 2; have hfz13_3 := bf_ BK211.out 3; have hfz13_4 := bf_ BK211.out 4; have hfz13_5 := bf_ BK211.out 5; have hfz13_6 := bf_ BK211.out 6; have hfz13_7 := bf_ BK211.out 7) | ((with_reducible refine gate_builtin (b := .append) (xs := #[.tmp 5, .tmp 7]) rfl ?_); at_builtin; refine Kd.R_append_rows (Kd.int .i64) (w0 := w) w.heap.size rfl (.tmp 5) (.tmp 7) 22 3 (.int .i64 0) 8 rfl Try.underlying22 info3 rfl (by decide) (by omega) v215 y214 l0_7 _ _ _ (fun _ => True) (fun _ => False) rfl rfl ?aO ?aR (fun _ _ h => h) (fun _ h => h.elim) ?aF ?aB ?aS ?aL ?_; (case aR => repeat (first | exact (Kd.C_below HR0_7.out HB.out) | (with_reducible refine Kd.C_alloc ?_ _) | (with_reducible refine Kd.C_drewN ?_ _) | (with_reducible refine Kd.C_drew ?_))); (case aB => exact (by repeat (first | (with_reducible first | exact HB.out | apply ba_ | apply bd_ | apply be_ | refine bs_ ?_ GE211.out | refine bs_ ?_ GE212.out | refine bs_ ?_ GE213.out) | exact HB.out))); (case aF => exact (fun _ _ => trivial)); (case aO => exact (rY HO216.out)); (case aS => exact (bz_ (by repeat (first | (with_reducible first | exact HB.out | apply ba_ | apply bd_ | apply be_ | refine bs_ ?_ GE211.out | refine bs_ ?_ GE212.out | refine bs_ ?_ GE213.out) | exact HB.out)))); (case aL => have := LMc2.out; omega); intro v218 w14 ho hb hg hat; rw [← Ny217.out] at ho; have n0_ := A_.mk (blk_grown (g := gb211) (o := .cells #[.int .i64 a0_0, .int .i64 a0_1, .int .i64 a0_2, .int .i64 a0_3, .int .i64 a0_4, .int .i64 a0_5, .int .i64 a0_6, .slice A0_7 l0_7.length c0_7] 38 (0, 0)) (bY BK211.out) hg (Kd.R_ne HO216.out BK211.out (by decide))); have n1_ := A_.mk (blk_grown (g := gb212) (o := .cells #[.int .i64 0, .int .i64 0, .int .i64 0, .int .i64 0, .int .i64 0, .int .i64 0, .int .i64 0, .slice none 0 0] 38 (0, 0)) (bY BK212.out) hg (Kd.R_ne HO216.out BK212.out (by decide))); have n2_ := A_.mk (blk_grown (g := gb213) (o := .cells #[.int .i64 a0_0, .int .i64 a0_1, .int .i64 a0_2, .int .i64 a0_3, .int .i64 a0_4, .int .i64 a0_5, .int .i64 a0_6, .slice A0_7 l0_7.length c0_7] 38 (0, 0)) (bY BK213.out) hg (Kd.R_ne HO216.out BK213.out (by decide))); have n3_ := A_.mk (hb); have n4_ := A_.mk (ho); clear BK211 BK212 BK213 HB HO216; have BK211 := n0_; have BK212 := n1_; have BK213 := n2_; have HB := n3_; have HO219 := n4_; clear n0_ n1_ n2_ n3_ n4_ ho hb hg hat; obtain ⟨Ao15, co15, eo15⟩ := Kd.R_slice HO219.out; subst eo15; have hcz16_0 : w14.cell? ⟨gb213, 0, none⟩ = some (.int .i64 a0_0) := (bc_ BK213.out 0).trans rfl; have hcz16_1 : w14.cell? ⟨gb213, 1, none⟩ = some (.int .i64 a0_1) := (bc_ BK213.out 1).trans rfl; have hcz16_2 : w14.cell? ⟨gb213, 2, none⟩ = some (.int .i64 a0_2) := (bc_ BK213.out 2).trans rfl; have hcz16_3 : w14.cell? ⟨gb213, 3, none⟩ = some (.int .i64 a0_3) := (bc_ BK213.out 3).trans rfl; have hcz16_4 : w14.cell? ⟨gb213, 4, none⟩ = some (.int .i64 a0_4) := (bc_ BK213.out 4).trans rfl; have hcz16_5 : w14.cell? ⟨gb213, 5, none⟩ = some (.int .i64 a0_5) := (bc_ BK213.out 5).trans rfl; have hcz16_6 : w14.cell? ⟨gb213, 6, none⟩ = some (.int .i64 a0_6) := (bc_ BK213.out 6).trans rfl; have hcz16_7 : w14.cell? ⟨gb213, 7, none⟩ = some (.slice A0_7 l0_7.length c0_7) := (bc_ BK213.out 7).trans rfl; have hfz16_0 := bf_ BK213.out 0; have hfz16_1 := bf_ BK213.out 1; have hfz16_2 := bf_ BK213.out 2; have hfz16_3 := bf_ BK213.out 3; have hfz16_4 := bf_ BK213.out 4; have hfz16_5 := bf_ BK213.out 5; have hfz16_6 := bf_ BK213.out 6; have hfz16_7 := bf_ BK213.out 7; have hcz17_0 : w14.cell? ⟨gb212, 0, none⟩ = some (.int .i64 0) := (bc_ BK212.out 0).trans rfl; have hcz17_1 : w14.cell? ⟨gb212, 1, none⟩ = some (.int .i64 0) := (bc_ BK212.out 1).trans rfl; have hcz17_2 : w14.cell? ⟨gb212, 2, none⟩ = some (.int .i64 0) := (bc_ BK212.out 2).trans rfl; have hcz17_3 : w14.cell? ⟨gb212, 3, none⟩ = some (.int .i64 0) := (bc_ BK212.out 3).trans rfl; have hcz17_4 : w14.cell? ⟨gb212, 4, none⟩ = some (.int .i64 0) := (bc_ BK212.out 4).trans rfl; have hcz17_5 : w14.cell? ⟨gb212, 5, none⟩ = some (.int .i64 0) := (bc_ BK212.out 5).trans rfl; have hcz17_6 : w14.cell? ⟨gb212, 6, none⟩ = some (.int .i64 0) := (bc_ BK212.out 6).trans rfl; have hcz17_7 : w14.cell? ⟨gb212, 7, none⟩ = some (.slice none 0 0) := (bc_ BK212.out 7).trans rfl; have hfz17_0 := bf_ BK212.out 0; have hfz17_1 := bf_ BK212.out 1; have hfz17_2 := bf_ BK212.out 2; have hfz17_3 := bf_ BK212.out 3; have hfz17_4 := bf_ BK212.out 4; have hfz17_5 := bf_ BK212.out 5; have hfz17_6 := bf_ BK212.out 6; have hfz17_7 := bf_ BK212.out 7))
 refine bodyPost_ret (results_cell_row rfl _ _ gb212 38 #[.int .i64 a0_0, .int .i64 a0_1, .int .i64 a0_2, .int .i64 a0_3, .int .i64 a0_4, .int .i64 a0_5, .int .i64 a0_6, .slice Ao15 y217.length co15] (0, 0) _ rfl (by (repeat apply bX); refine bp_ (cs := #[.int .i64 a0_0, .int .i64 a0_1, .int .i64 a0_2, .int .i64 a0_3, .int .i64 a0_4, .int .i64 a0_5, .int .i64 a0_6, .slice none 0 0]) ?_ 7 _ rfl; (repeat apply bX); refine bp_ (cs := #[.int .i64 a0_0, .int .i64 a0_1, .int .i64 a0_2, .int .i64 a0_3, .int .i64 a0_4, .int .i64 a0_5, .int .i64 0, .slice none 0 0]) ?_ 6 _ rfl; (repeat apply bX); refine bp_ (cs := #[.int .i64 a0_0, .int .i64 a0_1, .int .i64 a0_2, .int .i64 a0_3, .int .i64 a0_4, .int .i64 0, .int .i64 0, .slice none 0 0]) ?_ 5 _ rfl; (repeat apply bX); refine bp_ (cs := #[.int .i64 a0_0, .int .i64 a0_1, .int .i64 a0_2, .int .i64 a0_3, .int .i64 0, .int .i64 0, .int .i64 0, .slice none 0 0]) ?_ 4 _ rfl; (repeat apply bX); refine bp_ (cs := #[.int .i64 a0_0, .int .i64 a0_1, .int .i64 a0_2, .int .i64 0, .int .i64 0, .int .i64 0, .int .i64 0, .slice none 0 0]) ?_ 3 _ rfl; (repeat apply bX); refine bp_ (cs := #[.int .i64 a0_0, .int .i64 a0_1, .int .i64 0, .int .i64 0, .int .i64 0, .int .i64 0, .int .i64 0, .slice none 0 0]) ?_ 2 _ rfl; (repeat apply bX); refine bp_ (cs := #[.int .i64 a0_0, .int .i64 0, .int .i64 0, .int .i64 0, .int .i64 0, .int .i64 0, .int .i64 0, .slice none 0 0]) ?_ 1 _ rfl; (repeat apply bX); refine bp_ (cs := #[.int .i64 0, .int .i64 0, .int .i64 0, .int .i64 0, .int .i64 0, .int .i64 0, .int .i64 0, .slice none 0 0]) ?_ 0 _ rfl; (repeat apply bX); refine blk_far ?_ NB212_213.out _; (repeat apply bX); exact BK212.out) Try.underlying38 rfl (by kernel_rfl)) rfl ?_
 exact ⟨_, by first | rfl | (simp [errW_none, errW_some] <;> rfl) | (simp [*, errW_none, errW_some] <;> rfl), by (repeat apply rX); exact Kd.R_mono (Kd.R_far (p := ⟨gb212, 7, none⟩) (Kd.R_far (p := ⟨gb212, 6, none⟩) (Kd.R_far (p := ⟨gb212, 5, none⟩) (Kd.R_far (p := ⟨gb212, 4, none⟩) (Kd.R_far (p := ⟨gb212, 3, none⟩) (Kd.R_far (p := ⟨gb212, 2, none⟩) (Kd.R_far (p := ⟨gb212, 1, none⟩) (Kd.R_far (p := ⟨gb212, 0, none⟩) (Kd.R_far (p := ⟨gb213, 7, none⟩) (Kd.R_types (Kd.R_types HO219.out BK213.out (by decide)) BK212.out (by decide)) (fun _ hk => hk.1.2) (.slice Ao15 y217.length co15)) (fun _ hk => hk.2) (.int .i64 a0_0)) (fun _ hk => hk.2) (.int .i64 a0_1)) (fun _ hk => hk.2) (.int .i64 a0_2)) (fun _ hk => hk.2) (.int .i64 a0_3)) (fun _ hk => hk.2) (.int .i64 a0_4)) (fun _ hk => hk.2) (.int .i64 a0_5)) (fun _ hk => hk.2) (.int .i64 a0_6)) (fun _ hk => hk.2) (.slice Ao15 y217.length co15)) (fun _ hk => trivial), by repeat (first | (with_reducible first | exact HB.out | apply ba_ | apply bd_ | apply be_ | refine bs_ ?_ GE211.out | refine bs_ ?_ GE212.out | refine bs_ ?_ GE213.out) | exact HB.out)⟩
/-! ### spec_l15Copies: function 84 -/
def spec_l15Copies.l0 : Nat → List (S38) → List (S38) → Int → Option ((List (S38)))
 | 0, _, _, _ => none
 | k + 1, x0, x3, x4 => if x4 < (x0.length : Int) then (if 0 ≤ x4 then ((spec_l04Copy.f ((rd_T38 x0 x4).f0) ((rd_T38 x0 x4).f1) ((rd_T38 x0 x4).f2) ((rd_T38 x0 x4).f3) ((rd_T38 x0 x4).f4) ((rd_T38 x0 x4).f5) ((rd_T38 x0 x4).f6) ((rd_T38 x0 x4).f7)).bind fun bt224 => (if x3.length < 1759218604441 then (spec_l15Copies.l0 k x0 (x3 ++ [(⟨bt224.1, bt224.2.1, bt224.2.2.1, bt224.2.2.2.1, bt224.2.2.2.2.1, bt224.2.2.2.2.2.1, bt224.2.2.2.2.2.2.1, bt224.2.2.2.2.2.2.2⟩ : S38)]) (wrap64 (x4 + 1))) else (none))) else (none)) else (some x3)
def spec_l15Copies.f (k : Nat) (l0 : List (S38)) : Option ((List (S38))) := spec_l15Copies.l0 k l0 (([] : List (S38))) 0
set_option maxHeartbeats 8000000 in
set_option maxRecDepth 100000 in
theorem spec_l15Copies.calls (k : Nat) (A0 : Option Addr) (c0 : Nat) (l0 : List (S38)) (r : List (S38)) (w : World) (hr0 : Kd.C k38 w A0 l0.length l0) (hc0 : l0.length ≤ c0) (h : spec_l15Copies.f k l0 = some r) :
  Calls Try.prog 84 #[.slice A0 l0.length c0] w fun e w' => ∃ v0_ : Value, e = .returned (v0_) ∧ Kd.S k38 38 w' w.heap.size (fun _ => True) v0_ r ∧ Below w.heap.size w w' := by
 have hu38 := Try.underlying38
 have HR0 := A_.mk hr0
 have HC0 := A_.mk hc0
 clear hr0 hc0
 have HB := A_.mk (Below.refl w.heap.size w)
 have H : (spec_l15Copies.l0 k l0 (([] : List (S38))) 0) = some r := h
 clear h
 obtain ⟨y220, hy220⟩ : ∃ y_ : List (S38), y_ = (([] : List (S38))) := ⟨_, rfl⟩
 replace H : (spec_l15Copies.l0 k l0 y220 0) = some r := by first | (rw [hy220]; with_reducible exact H) | (have H2_ := (Option.bind_some _ _).symm.trans H; rw [hy220]; with_reducible exact H2_) | (have H2_ := (Option.bind_some _ _).symm.trans H; with_reducible exact H2_) | with_reducible exact H | (rw [hy220]; exact H) | exact H
 have Ny220 := A_.mk hy220
 clear hy220
 have H' := A_.mk H
 clear H
 go_enter Try.func84, Try.ntmps84
 go_wp2_with (first | ((with_reducible refine gd_ (N := 5) rfl ?_); refine Kd.S_lit k38 _ 38 ?hg (N := 5) ?hd (xs := ([] : List (S38))) (inner := []) (ok := fun _ => True) (okp := fun _ => True) ?hr ?hp (fun _ hk => hk) trivial (Below.refl _ _) (Nat.le_refl _) (by simp) ?_; (case hd => rfl); (case hg => rfl); (case hr => first | (go_simp; done) | (go_simp; rfl)); (case hp => exact (Reps.none _ _)); intro v221 w2 ho3 hb hg_ hnew_; clear hg_ hnew_; (first | rw [← Ny220.out] at ho3 | (simp only [Int.reduceToNat] at ho3; rw [← Ny220.out] at ho3)); have n0_ := A_.mk (Kd.S_lower ho3 (bz_ (beY HB.out))); have n1_ := A_.mk (bt_ (beY HB.out) hb); clear HB; have HO222 := n0_; have HB := n1_; clear n0_ n1_ hb ho3))
 go_loopg [3, 4] k (fun kq v3 v4 w' => ∃ (x3_1 : List (S38)) (x4_1 : Int), v4 = .int .i64 x4_1 ∧ A_ (spec_l15Copies.l0 kq l0 x3_1 x4_1 = some r) ∧ A_ (kq ≤ k) ∧ A_ (Kd.S k38 38 w' w.heap.size (fun _ => True) v3 x3_1) ∧ A_ (Below w.heap.size w w'))
 case atStart => exact ⟨(y220), (0), (by first | rfl | (simp; done) | (simp [*]; done)), H', ⟨Nat.le_refl _⟩, ⟨by (with_reducible repeat (first | apply Kd.S_alloc | apply Kd.S_drewN | apply Kd.S_drew)); exact HO222.out⟩, ⟨beY HB.out⟩⟩
 case round =>
  clear H'
  obtain ⟨x3_1, x4_1, rfl, HA, HK1, HO_3, HB⟩ := hrel
  cases gk with
  | zero => exact absurd HA.out (by simp [spec_l15Copies.l0])
  | succ k1 =>
   have H := HA.out
   clear HA
   simp only [spec_l15Copies.l0] at H
   by_cases c4 : x4_1 < (l0.length : Int)
   rotate_left
   ·rw [if_neg c4] at H
    have c4b0 : decide (x4_1 < (l0.length : Int)) = false := decide_eq_false c4
    clear c4
    obtain rfl := Option.some.inj H
    go_wp2
    go_ret
    exact ⟨_, by first | rfl | (simp [errW_none, errW_some] <;> rfl) | (simp [*, errW_none, errW_some] <;> rfl), by (with_reducible repeat (first | apply Kd.S_alloc | apply Kd.S_drewN | apply Kd.S_drew)); exact HO_3.out, beY HB.out⟩
   rw [if_pos c4] at H
   have c4b0 : decide (x4_1 < (l0.length : Int)) = true := decide_eq_true c4
   clear c4
   by_cases c5 : 0 ≤ x4_1
   rotate_left
   ·rw [if_neg c5] at H
    exact absurd H (by simp)
   rw [if_pos c5] at H
   have c5b0 : decide (0 ≤ x4_1) = true := decide_eq_true c5
   clear c5
   replace H := ob_ H
   obtain ⟨⟨t224, t225, t226, t227, t228, t229, t230, t231⟩, A60, H⟩ := H
   replace H : (if x3_1.length < 1759218604441 then (spec_l15Copies.l0 k1 l0 (x3_1 ++ [(⟨t224, t225, t226, t227, t228, t229, t230, t231⟩ : S38)]) (wrap64 (x4_1 + 1))) else (none)) = some r := H
   have A6 := A_.mk A60
   clear A60
   by_cases c7 : x3_1.length < 1759218604441
   rotate_left
   ·rw [if_neg c7] at H
    exact absurd H (by simp)
   rw [if_pos c7] at H
   have LMc7 := A_.mk c7
   clear c7
   obtain ⟨y234, hy234⟩ : ∃ y_ : List (S38), y_ = (x3_1 ++ [(⟨t224, t225, t226, t227, t228, t229, t230, t231⟩ : S38)]) := ⟨_, rfl⟩
   replace H : (spec_l15Copies.l0 k1 l0 y234 (wrap64 (x4_1 + 1))) = some r := by first | (rw [hy234]; with_reducible exact H) | (have H2_ := (Option.bind_some _ _).symm.trans H; rw [hy234]; with_reducible exact H2_) | (have H2_ := (Option.bind_some _ _).symm.trans H; with_reducible exact H2_) | with_reducible exact H | (rw [hy234]; exact H) | exact H
   have Ny234 := A_.mk hy234
   clear hy234
   have H' := A_.mk H
   clear H
   have p223 : 0 ≤ (x4_1 : Int) := od_
   have q223 : x4_1 < (l0.length : Int) := od_
   obtain ⟨ad223, A223_7, c223_7, e223, hx223_0, hx223_1, hx223_2, hx223_3, hx223_4, hx223_5, hx223_6, hx223_7, hl223_7, hi223_7⟩ := at_T38 HR0.out x4_1 p223 q223
   cases e223
   replace hx223_0 := (HB.out.cell (wl_ w _ hx223_0)).trans hx223_0
   replace hx223_1 := (HB.out.cell (wl_ w _ hx223_1)).trans hx223_1
   replace hx223_2 := (HB.out.cell (wl_ w _ hx223_2)).trans hx223_2
   replace hx223_3 := (HB.out.cell (wl_ w _ hx223_3)).trans hx223_3
   replace hx223_4 := (HB.out.cell (wl_ w _ hx223_4)).trans hx223_4
   replace hx223_5 := (HB.out.cell (wl_ w _ hx223_5)).trans hx223_5
   replace hx223_6 := (HB.out.cell (wl_ w _ hx223_6)).trans hx223_6
   replace hx223_7 := (HB.out.cell (wl_ w _ hx223_7)).trans hx223_7
   have HR223_7 := A_.mk hi223_7
   have HC223_7 := A_.mk hl223_7
   clear hi223_7 hl223_7
   replace p223 := eq_true p223
   replace q223 := eq_true q223
   go_wp2_with (first | ((with_reducible refine gc_ (f := 50) rfl ?_); refine gl_ (some 17) Try.func50 #[.agg #[.int .i64 ((rd_T38 l0 x4_1).f0), .int .i64 ((rd_T38 l0 x4_1).f1), .int .i64 ((rd_T38 l0 x4_1).f2), .int .i64 ((rd_T38 l0 x4_1).f3), .int .i64 ((rd_T38 l0 x4_1).f4), .int .i64 ((rd_T38 l0 x4_1).f5), .int .i64 ((rd_T38 l0 x4_1).f6), .slice A223_7 ((rd_T38 l0 x4_1).f7).length c223_7]] ?_; (with_reducible refine (spec_l04Copy.calls ((rd_T38 l0 x4_1).f0) ((rd_T38 l0 x4_1).f1) ((rd_T38 l0 x4_1).f2) ((rd_T38 l0 x4_1).f3) ((rd_T38 l0 x4_1).f4) ((rd_T38 l0 x4_1).f5) ((rd_T38 l0 x4_1).f6) _ _ ((rd_T38 l0 x4_1).f7) t224 t225 t226 t227 t228 t229 t230 t231 _ ?side1 ?side2 A6.out).mono ?_); (case side1 => exact cY ((Kd.C_below HR223_7.out HB.out))); (case side2 => exact HC223_7.out); rintro e w8 ⟨v232, rfl, ho0, hb⟩; refine ⟨_, rfl, ?_⟩; have n0_ := A_.mk (Kd.S_elder' (by (with_reducible repeat (first | apply Kd.S_alloc | apply Kd.S_drewN | apply Kd.S_drew)); exact HO_3.out) (Kd.R_base ho0) hb); have n1_ := A_.mk (Kd.R_lower ho0 (bz_ (beY HB.out))); have n2_ := A_.mk (bt_ (beY HB.out) hb); clear HO_3 HB; have HO_3 := n0_; have HO233 := n1_; have HB := n2_; clear n0_ n1_ n2_; (try clear hb); (try clear hb2); (try clear hk); (try clear hi); (try clear ho0); obtain ⟨Ao10, co10, eo10⟩ := Kd.R_slice HO233.out; subst eo10) | ((with_reducible refine gate_builtin (b := .append) (xs := #[.tmp 12, .tmp 18]) rfl ?_); at_builtin; refine Kd.S_append k38 (w0 := w) w.heap.size rfl (.tmp 12) (.tmp 18) 31 38 (.agg #[(.int .i64 0), (.int .i64 0), (.int .i64 0), (.int .i64 0), (.int .i64 0), (.int .i64 0), (.int .i64 0), (.slice none 0 0)]) 80 rfl Try.underlying31 info38 rfl (by decide) (by omega) u3 x3_1 (⟨t224, t225, t226, t227, t228, t229, t230, t231⟩ : S38) [.int .i64 t224, .int .i64 t225, .int .i64 t226, .int .i64 t227, .int .i64 t228, .int .i64 t229, .int .i64 t230, .slice Ao10 t231.length co10] (fun _ => True) (fun k_ => some k_ = (.slice Ao10 t231.length co10 : Value).ownBlock) rfl rfl ?aP (fun k_ hk_ => ((Kd.R_mono (ok' := fun k_ => ((fun _ => True)) k_ ∧ some k_ ≠ (u3 : Value).ownBlock) (Kd.R_apart' (HO233.out) (Kd.S_typed HO_3.out) (by decide)) (fun k_ hk => ⟨trivial, hk.2⟩))).1 k_ hk_.symm) ?aF ?aO ?aB ?aS ?aL ?_; (case aP => exact k38_mkM _ _ _ (⟨t224, t225, t226, t227, t228, t229, t230, t231⟩ : S38) (Kd.R_mono (Kd.R_tight rfl (Kd.R_mono (ok' := fun k_ => ((fun _ => True)) k_ ∧ some k_ ≠ (u3 : Value).ownBlock) (Kd.R_apart' (HO233.out) (Kd.S_typed HO_3.out) (by decide)) (fun k_ hk => ⟨trivial, hk.2⟩))) (fun _ h_ => h_))); (case aB => exact (beY HB.out)); (case aF => exact (fun _ _ => trivial)); (case aO => exact (by (with_reducible repeat (first | apply Kd.S_alloc | apply Kd.S_drewN | apply Kd.S_drew)); exact Kd.S_mono HO_3.out (fun k_ hk => ⟨trivial, fun e_ => hk.2 e_⟩))); (case aS => exact (bz_ (beY HB.out))); (case aL => have := LMc7.out; omega); intro v235 w9 ho hb hg hat; rw [← Ny234.out] at ho; have n0_ := A_.mk (hb); have n1_ := A_.mk (ho); clear HB HO_3 HO233; have HB := n0_; have HO236 := n1_; clear n0_ n1_ ho hb hg hat))
   go_roundg k1
   case measure => have := HK1.out; omega
   case rel => exact ⟨(y234), (wrap64 (x4_1 + 1)), (by first | rfl | (simp; done) | (simp [*]; done)), H', ⟨by have := HK1.out; omega⟩, ⟨by (with_reducible repeat (first | apply Kd.S_alloc | apply Kd.S_drewN | apply Kd.S_drew)); exact HO236.out⟩, ⟨beY HB.out⟩⟩
/-! ### spec_l15Copy: function 48, its calls in a row -/
def spec_l15Copy.f (k : Nat) (l0_0 : List Int) (l0_1 : List Int) (l0_2 : List Int) (l0_3 : List Int) (l0_4 : List (S38)) (l0_5 : List (S38)) : Option ((List Int) × (List Int) × (List Int) × (List Int) × (List (S38)) × (List (S38))) := ((spec_l14Copy.f l0_0 l0_1).bind fun ⟨t1, t2⟩ => ((spec_l14Copy.f l0_2 l0_3).bind fun ⟨t3, t4⟩ => ((spec_l15Copies.f k l0_4).bind fun t5 => ((spec_l15Copies.f k l0_5).bind fun t6 => (some (t1, t2, t3, t4, t5, t6))))))
set_option maxHeartbeats 8000000 in
set_option maxRecDepth 100000 in
theorem spec_l15Copy.calls (k : Nat) (A0_0 : Option Addr) (c0_0 : Nat) (l0_0 : List Int) (A0_1 : Option Addr) (c0_1 : Nat) (l0_1 : List Int) (A0_2 : Option Addr) (c0_2 : Nat) (l0_2 : List Int) (A0_3 : Option Addr) (c0_3 : Nat) (l0_3 : List Int) (A0_4 : Option Addr) (c0_4 : Nat) (l0_4 : List (S38)) (A0_5 : Option Addr) (c0_5 : Nat) (l0_5 : List (S38)) (r1 : List Int) (r2 : List Int) (r3 : List Int) (r4 : List Int) (r5 : List (S38)) (r6 : List (S38)) (w : World) (hr0_0 : Kd.C (Kd.int .i64) w A0_0 l0_0.length l0_0) (hc0_0 : l0_0.length ≤ c0_0) (hr0_1 : Kd.C (Kd.int .i64) w A0_1 l0_1.length l0_1) (hc0_1 : l0_1.length ≤ c0_1) (hr0_2 : Kd.C (Kd.int .i64) w A0_2 l0_2.length l0_2) (hc0_2 : l0_2.length ≤ c0_2) (hr0_3 : Kd.C (Kd.int .i64) w A0_3 l0_3.length l0_3) (hc0_3 : l0_3.length ≤ c0_3) (hr0_4 : Kd.C k38 w A0_4 l0_4.length l0_4) (hc0_4 : l0_4.length ≤ c0_4) (hr0_5 : Kd.C k38 w A0_5 l0_5.length l0_5) (hc0_5 : l0_5.length ≤ c0_5) (h : spec_l15Copy.f k l0_0 l0_1 l0_2 l0_3 l0_4 l0_5 = some (r1, r2, r3, r4, r5, r6)) :
  Calls Try.prog 48 #[.agg #[.slice A0_0 l0_0.length c0_0, .slice A0_1 l0_1.length c0_1, .slice A0_2 l0_2.length c0_2, .slice A0_3 l0_3.length c0_3, .slice A0_4 l0_4.length c0_4, .slice A0_5 l0_5.length c0_5]] w fun e w' => ∃ f_ : Nat → Nat, ∃ v0_ v1_ v2_ v3_ v4_ v5_ : Value, e = .returned (.agg #[v0_, v1_, v2_, v3_, v4_, v5_]) ∧ Kd.R (Kd.int .i64) 3 w' w.heap.size (fun k_ => f_ k_ = 0) v0_ r1 ∧ Kd.R (Kd.int .i64) 3 w' w.heap.size (fun k_ => f_ k_ = 1) v1_ r2 ∧ Kd.R (Kd.int .i64) 3 w' w.heap.size (fun k_ => f_ k_ = 2) v2_ r3 ∧ Kd.R (Kd.int .i64) 3 w' w.heap.size (fun k_ => f_ k_ = 3) v3_ r4 ∧ Kd.S k38 38 w' w.heap.size (fun k_ => f_ k_ = 4) v4_ r5 ∧ Kd.S k38 38 w' w.heap.size (fun k_ => f_ k_ = 5) v5_ r6 ∧ Below w.heap.size w w' := by
 have HR0_0 := A_.mk hr0_0
 have HC0_0 := A_.mk hc0_0
 clear hr0_0 hc0_0
 have HR0_1 := A_.mk hr0_1
 have HC0_1 := A_.mk hc0_1
 clear hr0_1 hc0_1
 have HR0_2 := A_.mk hr0_2
 have HC0_2 := A_.mk hc0_2
 clear hr0_2 hc0_2
 have HR0_3 := A_.mk hr0_3
 have HC0_3 := A_.mk hc0_3
 clear hr0_3 hc0_3
 have HR0_4 := A_.mk hr0_4
 have HC0_4 := A_.mk hc0_4
 clear hr0_4 hc0_4
 have HR0_5 := A_.mk hr0_5
 have HC0_5 := A_.mk hc0_5
 clear hr0_5 hc0_5
 have HB := A_.mk (Below.refl w.heap.size w)
 unfold spec_l15Copy.f at h
 have H := h
 clear h
 replace H := oa_ H
 obtain ⟨⟨t1, t2⟩, A3, H⟩ := H
 try dsimp only at H
 replace H := oa_ H
 obtain ⟨⟨t3, t4⟩, A4, H⟩ := H
 try dsimp only at H
 replace H := oa_ H
 obtain ⟨t5, A5, H⟩ := H
 replace H := oa_ H
 obtain ⟨t6, A6, H⟩ := H
 simp only [Option.some.injEq, Prod.mk.injEq] at H
 obtain ⟨rfl, rfl, rfl, rfl, rfl, rfl⟩ := H
 have hu33 := Try.underlying33
 go_enter Try.func48, Try.ntmps48
 have HS := A_.mk (Nat.le_refl w.heap.size)
 go_wp2_with (first | ((with_reducible refine gd_ (N := 1) rfl ?_); refine by_ 1 (cs := #[.slice A0_0 l0_0.length c0_0, .slice A0_1 l0_1.length c0_1, .slice A0_2 l0_2.length c0_2, .slice A0_3 l0_3.length c0_3, .slice A0_4 l0_4.length c0_4, .slice A0_5 l0_5.length c0_5]) (t := 33) ?_; intro gb1_ hg w1_ hbox hb; replace HS := A_.mk (And.intro HS.out (show gb1_ = w.heap.size ∧ gb1_ < w1_.heap.size from ⟨hg, blk_lt hbox⟩)); replace HB := aHB HB hb; have BK1 := A_.mk hbox; clear hbox hb hg; have Q1 := blk6_ BK1.out) | ((with_reducible refine gd_ (N := 2) rfl ?_); refine by_ 2 (cs := #[.slice none 0 0, .slice none 0 0, .slice none 0 0, .slice none 0 0, .slice none 0 0, .slice none 0 0]) (t := 33) ?_; intro gb2_ hg w2_ hbox hb; replace HS := A_.mk (And.intro HS.out (show gb2_ = w1_.heap.size ∧ gb2_ < w2_.heap.size from ⟨hg, blk_lt hbox⟩)); replace BK1 := aBb BK1 hb; replace HB := aHB HB hb; have BK2 := A_.mk hbox; clear hbox hb hg Q1; have Q1 := blk6_ BK1.out; have Q2 := blk6_ BK2.out))
 refine start_ (n := 14) (S := fun w' => (w'.cell? ⟨gb1_, 0, none⟩ = some (.slice A0_0 l0_0.length c0_0) ∧ w'.cell? ⟨gb1_, 1, none⟩ = some (.slice A0_1 l0_1.length c0_1) ∧ w'.cell? ⟨gb1_, 2, none⟩ = some (.slice A0_2 l0_2.length c0_2) ∧ w'.cell? ⟨gb1_, 3, none⟩ = some (.slice A0_3 l0_3.length c0_3) ∧ w'.cell? ⟨gb1_, 4, none⟩ = some (.slice A0_4 l0_4.length c0_4) ∧ w'.cell? ⟨gb1_, 5, none⟩ = some (.slice A0_5 l0_5.length c0_5))) (ds := [13]) #[F, F, F, F, F, F, F, F, F, F, F, F, F, F] (by kernel_rfl) rfl rfl (blk6_ BK1.out) (fun hHeld => ?_)
 clear Q1 Q2
 have hb := below_drew (Below.refl w2_.heap.size w2_)
 replace HS := aHs HS hb.size
 replace BK1 := aBb BK1 hb
 replace BK2 := aBb BK2 hb
 replace HB := aHB HB hb
 clear hb
 generalize w2_.drew = w8d_ at BK1 BK2 HB HS hHeld ⊢
 refine pd_ (i := 0) (N := some 3) #[T, F, F, F, F, F, F, F, F, F, F, F, F, F] rfl ?_
 refine tl_ (i := 1) (N := some 4) #[T, T, F, F, F, F, F, F, F, F, F, F, F, F] rfl hHeld ?_
 refine pd_ (i := 3) (N := some 6) #[T, T, F, T, F, F, F, F, F, F, F, F, F, F] rfl ?_
 refine tl_ (i := 4) (N := some 7) #[T, T, F, T, T, F, F, F, F, F, F, F, F, F] rfl hHeld ?_
 refine pd_ (i := 6) (N := some 9) #[T, T, F, T, T, F, T, F, F, F, F, F, F, F] rfl ?_
 refine tl_ (i := 7) (N := some 10) #[T, T, F, T, T, F, T, T, F, F, F, F, F, F] rfl hHeld ?_
 refine pd_ (i := 9) (N := some 12) #[T, T, F, T, T, F, T, T, F, T, F, F, F, F] rfl ?_
 refine tl_ (i := 10) (N := some 13) #[T, T, F, T, T, F, T, T, F, T, T, F, F, F] rfl hHeld ?_
 refine on_ (i := 2) (N := some 5) #[T, T, T, T, T, F, T, T, F, T, T, F, F, F] rfl (fun K hK => ?_)
 refine gz_ Try.func34 #[.agg #[.slice A0_0 l0_0.length c0_0, .slice A0_1 l0_1.length c0_1]] ?_
 with_reducible refine (spec_l14Copy.calls _ _ l0_0 _ _ l0_1 t1 t2 _ (Kd.C_below HR0_0.out HB.out) HC0_0.out (Kd.C_below HR0_1.out HB.out) HC0_1.out A3.out).mono ?_
 rintro e w3_ ⟨v0_, v1_, rfl, ho0_, ho1_, hb⟩
 refine ⟨_, rfl, ?_⟩
 obtain ⟨f3_, hn0_, hn1_⟩ := two_col ho0_ ho1_
 clear ho0_ ho1_
 replace HS := aHs HS hb.size
 obtain ⟨Ao3_0, co3_0, ev_⟩ := Kd.R_slice hn0_
 subst ev_
 have HO3_0 := aRn hn0_ HB.out.size
 obtain ⟨Ao3_1, co3_1, ev_⟩ := Kd.R_slice hn1_
 subst ev_
 have HO3_1 := aRn hn1_ HB.out.size
 replace BK1 := aBb BK1 hb
 replace BK2 := aBb BK2 hb
 replace HB := aHB HB hb
 clear hb hn0_ hn1_
 refine hK.out _ _ (blk6_ BK1.out) (fun hHeld => ?_)
 clear hK K
 refine nm_ ?_
 refine on_ (i := 5) (N := some 8) #[T, T, T, T, T, T, T, T, F, T, T, F, F, F] rfl (fun K hK => ?_)
 refine gz_ Try.func34 #[.agg #[.slice A0_2 l0_2.length c0_2, .slice A0_3 l0_3.length c0_3]] ?_
 with_reducible refine (spec_l14Copy.calls _ _ l0_2 _ _ l0_3 t3 t4 _ (Kd.C_below HR0_2.out HB.out) HC0_2.out (Kd.C_below HR0_3.out HB.out) HC0_3.out A4.out).mono ?_
 rintro e w4_ ⟨v0_, v1_, rfl, ho0_, ho1_, hb⟩
 refine ⟨_, rfl, ?_⟩
 obtain ⟨f4_, hn0_, hn1_⟩ := two_col ho0_ ho1_
 clear ho0_ ho1_
 replace HS := aHs HS hb.size
 obtain ⟨Ao4_0, co4_0, ev_⟩ := Kd.R_slice hn0_
 subst ev_
 have HO4_0 := aRn hn0_ HB.out.size
 obtain ⟨Ao4_1, co4_1, ev_⟩ := Kd.R_slice hn1_
 subst ev_
 have HO4_1 := aRn hn1_ HB.out.size
 replace HO3_0 := aRb HO3_0 hb
 replace HO3_1 := aRb HO3_1 hb
 replace BK1 := aBb BK1 hb
 replace BK2 := aBb BK2 hb
 replace HB := aHB HB hb
 clear hb hn0_ hn1_
 refine hK.out _ _ (blk6_ BK1.out) (fun hHeld => ?_)
 clear hK K
 refine nm_ ?_
 refine on_ (i := 8) (N := some 11) #[T, T, T, T, T, T, T, T, T, T, T, F, F, F] rfl (fun K hK => ?_)
 refine gz_ Try.func84 #[.slice A0_4 l0_4.length c0_4] ?_
 with_reducible refine (spec_l15Copies.calls k _ _ l0_4 t5 _ (Kd.C_below HR0_4.out HB.out) HC0_4.out A5.out).mono ?_
 rintro e w5_ ⟨v0_, rfl, ho0_, hb⟩
 refine ⟨_, rfl, ?_⟩
 replace HS := aHs HS hb.size
 obtain ⟨Ao5_0, co5_0, ev_⟩ := Kd.S_slice ho0_
 subst ev_
 have HO5_0 := aSm ho0_ HB.out.size
 replace HO3_0 := aRb HO3_0 hb
 replace HO3_1 := aRb HO3_1 hb
 replace HO4_0 := aRb HO4_0 hb
 replace HO4_1 := aRb HO4_1 hb
 replace BK1 := aBb BK1 hb
 replace BK2 := aBb BK2 hb
 replace HB := aHB HB hb
 clear hb ho0_
 refine hK.out _ _ (blk6_ BK1.out) (fun hHeld => ?_)
 clear hK K
 refine nm_ ?_
 refine on_ (i := 11) (N := some 14) #[T, T, T, T, T, T, T, T, T, T, T, T, F, F] rfl (fun K hK => ?_)
 refine gz_ Try.func84 #[.slice A0_5 l0_5.length c0_5] ?_
 with_reducible refine (spec_l15Copies.calls k _ _ l0_5 t6 _ (Kd.C_below HR0_5.out HB.out) HC0_5.out A6.out).mono ?_
 rintro e w6_ ⟨v0_, rfl, ho0_, hb⟩
 refine ⟨_, rfl, ?_⟩
 replace HS := aHs HS hb.size
 obtain ⟨Ao6_0, co6_0, ev_⟩ := Kd.S_slice ho0_
 subst ev_
 have HO6_0 := aSm ho0_ HB.out.size
 replace HO3_0 := aRb HO3_0 hb
 replace HO3_1 := aRb HO3_1 hb
 replace HO4_0 := aRb HO4_0 hb
 replace HO4_1 := aRb HO4_1 hb
 replace HO5_0 := aSb HO5_0 hb
 replace BK1 := aBb BK1 hb
 replace BK2 := aBb BK2 hb
 replace HB := aHB HB hb
 clear hb ho0_
 refine hK.out _ _ (blk6_ BK1.out) (fun hHeld => ?_)
 clear hK K
 refine nm_ ?_
 refine pd_ (i := 12) (N := some 15) #[T, T, T, T, T, T, T, T, T, T, T, T, T, F] rfl ?_
 refine last_ (i := 13) (N := none) #[T, T, T, T, T, T, T, T, T, T, T, T, T, T] rfl rfl (by kernel_rfl) (by decide) (fun K hK => ?_)
 have Q1 := blk6_ BK1.out
 have Q2 := blk6_ BK2.out
 have qf0 := bf_ BK2.out 0; have qf1 := bf_ BK2.out 1; have qf2 := bf_ BK2.out 2; have qf3 := bf_ BK2.out 3; have qf4 := bf_ BK2.out 4; have qf5 := bf_ BK2.out 5
 obtain ⟨w7_, hw⟩ : ∃ q_ : World, q_ = (ch6_ w6_ gb2_ (.slice Ao3_0 t1.length co3_0) (.slice Ao3_1 t2.length co3_1) (.slice Ao4_0 t3.length co4_0) (.slice Ao4_1 t4.length co4_1) (.slice Ao5_0 t5.length co5_0) (.slice Ao6_0 t6.length co6_0)) := ⟨_, rfl⟩
 refine skip_ (w1 := w7_) (by rfl) rfl ?_ ?_
 ·rw [hw]; go_simp; try rfl
 refine hK.out _ _ ?_
 clear hK K qf0 qf1 qf2 qf3 qf4 qf5 Q1 Q2
 obtain ⟨hbx, hkp, hbb⟩ := st6_ hw BK2 HB (by have := HS.out; omega)
 clear hw
 replace HO3_0 := aRk HO3_0 hkp HS
 replace HO3_1 := aRk HO3_1 hkp HS
 replace HO4_0 := aRk HO4_0 hkp HS
 replace HO4_1 := aRk HO4_1 hkp HS
 replace HO5_0 := aSk HO5_0 hkp HS
 replace HO6_0 := aSk HO6_0 hkp HS
 replace BK1 := aBk BK1 hkp HS
 replace BK2 := A_.mk hbx
 replace HB := A_.mk hbb
 replace HS := aHs HS hkp.1
 clear hkp hbb hbx
 refine done_ (by kernel_rfl) ?_
 have Q1 := blk6_ BK1.out
 have Q2 := blk6_ BK2.out
 go_wp2
 refine bodyPost_ret (results_cell_row rfl _ _ gb2_ 33 #[.slice Ao3_0 t1.length co3_0, .slice Ao3_1 t2.length co3_1, .slice Ao4_0 t3.length co4_0, .slice Ao4_1 t4.length co4_1, .slice Ao5_0 t5.length co5_0, .slice Ao6_0 t6.length co6_0] (0, 0) _ rfl BK2.out Try.underlying33 rfl (by kernel_rfl)) rfl ?_
 obtain ⟨f_, hf_⟩ : ∃ f_ : Nat → Nat, ∀ k_, f_ k_ = (if ((w8d_.heap.size ≤ k_ ∧ k_ < w3_.heap.size) ∧ f3_ k_ = 0) then 0 else (if ((w8d_.heap.size ≤ k_ ∧ k_ < w3_.heap.size) ∧ f3_ k_ = 1) then 1 else (if ((w3_.heap.size ≤ k_ ∧ k_ < w4_.heap.size) ∧ f4_ k_ = 0) then 2 else (if ((w3_.heap.size ≤ k_ ∧ k_ < w4_.heap.size) ∧ f4_ k_ = 1) then 3 else (if ((w4_.heap.size ≤ k_ ∧ k_ < w5_.heap.size)) then 4 else (if ((w5_.heap.size ≤ k_ ∧ k_ < w6_.heap.size)) then 5 else 0)))))) := ⟨fun k_ => (if ((w8d_.heap.size ≤ k_ ∧ k_ < w3_.heap.size) ∧ f3_ k_ = 0) then 0 else (if ((w8d_.heap.size ≤ k_ ∧ k_ < w3_.heap.size) ∧ f3_ k_ = 1) then 1 else (if ((w3_.heap.size ≤ k_ ∧ k_ < w4_.heap.size) ∧ f4_ k_ = 0) then 2 else (if ((w3_.heap.size ≤ k_ ∧ k_ < w4_.heap.size) ∧ f4_ k_ = 1) then 3 else (if ((w4_.heap.size ≤ k_ ∧ k_ < w5_.heap.size)) then 4 else (if ((w5_.heap.size ≤ k_ ∧ k_ < w6_.heap.size)) then 5 else 0)))))), fun _ => rfl⟩
 have hcol0_ : ∀ k_, (((w8d_.heap.size ≤ k_ ∧ k_ < w3_.heap.size) ∧ f3_ k_ = 0)) → f_ k_ = 0 := fun k_ hk_ => by rw [hf_]; have := HS.out; repeat' (first | omega | split)
 have hcol1_ : ∀ k_, (((w8d_.heap.size ≤ k_ ∧ k_ < w3_.heap.size) ∧ f3_ k_ = 1)) → f_ k_ = 1 := fun k_ hk_ => by rw [hf_]; have := HS.out; repeat' (first | omega | split)
 have hcol2_ : ∀ k_, (((w3_.heap.size ≤ k_ ∧ k_ < w4_.heap.size) ∧ f4_ k_ = 0)) → f_ k_ = 2 := fun k_ hk_ => by rw [hf_]; have := HS.out; repeat' (first | omega | split)
 have hcol3_ : ∀ k_, (((w3_.heap.size ≤ k_ ∧ k_ < w4_.heap.size) ∧ f4_ k_ = 1)) → f_ k_ = 3 := fun k_ hk_ => by rw [hf_]; have := HS.out; repeat' (first | omega | split)
 have hcol4_ : ∀ k_, (((w4_.heap.size ≤ k_ ∧ k_ < w5_.heap.size))) → f_ k_ = 4 := fun k_ hk_ => by rw [hf_]; have := HS.out; repeat' (first | omega | split)
 have hcol5_ : ∀ k_, (((w5_.heap.size ≤ k_ ∧ k_ < w6_.heap.size))) → f_ k_ = 5 := fun k_ hk_ => by rw [hf_]; have := HS.out; repeat' (first | omega | split)
 exact ⟨f_, _, _, _, _, _, _, rfl, Kd.R_mono HO3_0.out hcol0_, Kd.R_mono HO3_1.out hcol1_, Kd.R_mono HO4_0.out hcol2_, Kd.R_mono HO4_1.out hcol3_, Kd.S_mono HO5_0.out hcol4_, Kd.S_mono HO6_0.out hcol5_, HB.out⟩
end Go.Proofs.Ytlombfmebinjbaa.PFnExactTellCredits
