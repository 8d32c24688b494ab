-- Written by a program of this session (wip/xp): not trusted, Lean checks it.
import Derived.Test.YtflopendlbciaaaPFnLinkOncex0
import Derived.Test.YtflopendlbciaaaPFnLinkOncex1
import Derived.Test.YtflopendlbciaaaPFnLinkOncex3
import Derived.Test.YtflopendlbciaaaPFnLinkOncex5
namespace Go.Proofs.Ytflopendlbciaaa.PFnLinkOnce
open Go.RowKit Go.Proofs.YtflopendlbciaaaW.PrintWords Go.Proofs.YtflopendlbciaaaW.PrintLast Go.Proofs.YtflopendlbciaaaW.PrintMore
attribute [local go_sem] max2_int min2_int max_two min_two max_three min_three max_four min_four   -- for this text's walks alone
set_option linter.unusedVariables false
set_option linter.unusedSimpArgs false

/-! ### impl_WireFrame: function 38 -/
def impl_WireFrame.f (k : Nat) (a0_0 : Int) (l0_1 : List Int) : Option (List Int) := (impl_IsSeq.f a0_0).bind fun t256 => (if t256 = true then ((some (([a0_0] : List Int) : List Int)).bind fun y257 => (if y257.length + l0_1.length < 17592186044416 then ((impl_AddCheck.f k (y257 ++ l0_1)).bind fun t263 => (some t263)) else (none))) else (some ([] : List Int)))
set_option maxHeartbeats 8000000 in
set_option maxRecDepth 100000 in
theorem impl_WireFrame.calls (k : Nat) (a0_0 : Int) (A0_1 : Option Addr) (c0_1 : Nat) (l0_1 : List Int) (r : List Int) (w : World) (hr0_1 : Kd.C (Kd.int .i64) w A0_1 l0_1.length l0_1) (hc0_1 : l0_1.length ≤ c0_1) (h : impl_WireFrame.f k a0_0 l0_1 = some r) :
  Calls Try.prog 38 #[.agg #[.int .i64 a0_0, .slice A0_1 l0_1.length c0_1]] w fun e w' => ∃ v0_ : Value, e = .returned (v0_) ∧ Kd.R (Kd.int .i64) 3 w' w.heap.size (fun _ => True) v0_ r ∧ Below w.heap.size w w' := by
 have hu68 := Try.underlying68
 have HR0_1 := A_.mk hr0_1
 have HC0_1 := A_.mk hc0_1
 clear hr0_1 hc0_1
 have HB := A_.mk (Below.refl w.heap.size w)
 have H : ((impl_IsSeq.f a0_0).bind fun t256 => (if t256 = true then ((some (([a0_0] : List Int) : List Int)).bind fun y257 => (if y257.length + l0_1.length < 17592186044416 then ((impl_AddCheck.f k (y257 ++ l0_1)).bind fun t263 => (some t263)) else (none))) else (some ([] : List Int)))) = some r := h
 clear h
 replace H := ob_ H
 obtain ⟨t256, A20, H⟩ := H
 have A2 := A_.mk A20
 clear A20
 by_cases c3 : t256 = true
 rotate_left
 ·replace c3 := Bool.eq_false_iff.mpr c3
  subst c3
  have H1 : (some ([] : List Int)) = some r := by rw [if_neg (show ¬ (false = true) by decide)] at H; exact H
  clear H
  have H := H1
  clear H1
  obtain rfl := Option.some.inj H
  go_enter Try.func38, Try.ntmps38
  go_wp2_with (first | ((with_reducible refine gd_ (N := 1) rfl ?_); refine by_ 1 (cs := #[.int .i64 a0_0, .slice A0_1 l0_1.length c0_1]) (t := 68) ?_; intro gb255 hg w14 hbox hb; have n0_ := A_.mk (bt_ (beY HB.out) hb); have n1_ := A_.mk (hbox); have n2_ := A_.mk ((by rw [hg]; exact (bz_ (beY HB.out)) : w.heap.size ≤ gb255)); have n3_ := A_.mk ((by rw [hg]; exact (bz_ (beY HB.out)) : w.heap.size ≤ gb255)); clear HB; have HB := n0_; have BK255 := n1_; have GW255 := n2_; have GE255 := n3_; clear n0_ n1_ n2_ n3_ hb hbox hg; have hcz15_0 : w14.cell? ⟨gb255, 0, none⟩ = some (.int .i64 a0_0) := (bc_ BK255.out 0).trans rfl; have hcz15_1 : w14.cell? ⟨gb255, 1, none⟩ = some (.slice A0_1 l0_1.length c0_1) := (bc_ BK255.out 1).trans rfl; have hfz15_0 := bf_ BK255.out 0; have hfz15_1 := bf_ BK255.out 1) | ((with_reducible refine gc_ (f := 30) rfl ?_); refine gl_ (some 5) Try.func30 #[.int .i64 a0_0] ?_; (with_reducible refine (impl_IsSeq.calls a0_0 false _ A2.out).mono ?_); rintro e w' ⟨rfl, ⟨nd, rfl⟩⟩; refine ⟨_, rfl, ?_⟩))
  go_ret
  exact ⟨_, by first | rfl | (simp [errW_none, errW_some] <;> rfl) | (simp [*, errW_none, errW_some] <;> rfl), by first | exact Kd.R_nil _ _ _ _ _ | exact Kd.N_nil _ _ _ _ _ | exact Kd.V_nil _ _ _ _ _ | exact Kd.Q_nil _ _ _ _ _ | exact Kd.S_nil _ _ _ _ _, by repeat (first | (with_reducible first | exact HB.out | apply ba_ | apply bd_ | apply be_ | refine bs_ ?_ GE255.out) | exact HB.out)⟩
 subst c3
 have H1 : ((some (([a0_0] : List Int) : List Int)).bind fun y257 => (if y257.length + l0_1.length < 17592186044416 then ((impl_AddCheck.f k (y257 ++ l0_1)).bind fun t263 => (some t263)) else (none))) = some r := by rw [if_pos rfl] at H; exact H
 clear H
 have H := H1
 clear H1
 obtain ⟨y257, hy257⟩ : ∃ y_ : List Int, y_ = (([a0_0] : List Int)) := ⟨_, rfl⟩
 replace H : (if y257.length + l0_1.length < 17592186044416 then ((impl_AddCheck.f k (y257 ++ l0_1)).bind fun t263 => (some t263)) else (none)) = some r := by first | (rw [hy257]; with_reducible exact H) | (have H2_ := (Option.bind_some _ _).symm.trans H; rw [hy257]; with_reducible exact H2_) | (have H2_ := (Option.bind_some _ _).symm.trans H; with_reducible exact H2_) | with_reducible exact H | (rw [hy257]; exact H) | exact H
 have Ny257 := A_.mk hy257
 clear hy257
 by_cases c4 : y257.length + l0_1.length < 17592186044416
 rotate_left
 ·rw [if_neg c4] at H
  exact absurd H (by simp)
 rw [if_pos c4] at H
 have LMc4 := A_.mk c4
 clear c4
 obtain ⟨y260, hy260⟩ : ∃ y_ : List Int, y_ = (y257 ++ l0_1) := ⟨_, rfl⟩
 replace H : ((impl_AddCheck.f k y260).bind fun t263 => (some t263)) = some r := by first | (rw [hy260]; with_reducible exact H) | (have H2_ := (Option.bind_some _ _).symm.trans H; rw [hy260]; with_reducible exact H2_) | (have H2_ := (Option.bind_some _ _).symm.trans H; with_reducible exact H2_) | with_reducible exact H | (rw [hy260]; exact H) | exact H
 have Ny260 := A_.mk hy260
 clear hy260
 replace H := ob_ H
 obtain ⟨t263, A50, H⟩ := H
 have A5 := A_.mk A50
 clear A50
 obtain rfl := Option.some.inj H
 go_enter Try.func38, Try.ntmps38
 go_wp2_with (first | ((with_reducible refine gd_ (N := 1) rfl ?_); refine by_ 1 (cs := #[.int .i64 a0_0, .slice A0_1 l0_1.length c0_1]) (t := 68) ?_; intro gb255 hg w6 hbox hb; have n0_ := A_.mk (bt_ (beY HB.out) hb); have n1_ := A_.mk (hbox); have n2_ := A_.mk ((by rw [hg]; exact (bz_ (beY HB.out)) : w.heap.size ≤ gb255)); have n3_ := A_.mk ((by rw [hg]; exact (bz_ (beY HB.out)) : w.heap.size ≤ gb255)); clear HB; have HB := n0_; have BK255 := n1_; have GW255 := n2_; have GE255 := n3_; clear n0_ n1_ n2_ n3_ hb hbox hg; have hcz7_0 : w6.cell? ⟨gb255, 0, none⟩ = some (.int .i64 a0_0) := (bc_ BK255.out 0).trans rfl; have hcz7_1 : w6.cell? ⟨gb255, 1, none⟩ = some (.slice A0_1 l0_1.length c0_1) := (bc_ BK255.out 1).trans rfl; have hfz7_0 := bf_ BK255.out 0; have hfz7_1 := bf_ BK255.out 1) | ((with_reducible refine gc_ (f := 30) rfl ?_); refine gl_ (some 5) Try.func30 #[.int .i64 a0_0] ?_; (with_reducible refine (impl_IsSeq.calls a0_0 true _ A2.out).mono ?_); rintro e w' ⟨rfl, ⟨nd, rfl⟩⟩; refine ⟨_, rfl, ?_⟩) | ((with_reducible refine gd_ (N := 9) rfl ?_); refine Kd.R_lit (Kd.int .i64) _ 3 ?hg (N := 9) ?hd (xs := ([a0_0] : List Int)) (inner := [.int .i64 a0_0]) (ok := fun _ => True) (okp := fun _ => True) ?hr ?hp (fun _ hk => hk) trivial (Below.refl _ _) (Nat.le_refl _) (by simp) ?_; (case hd => rfl); (case hg => rfl); (case hr => first | (go_simp; done) | (go_simp; rfl)); (case hp => exact (Reps.one (show Kd.M (Kd.int .i64) _ _ _ a0_0 [.int .i64 a0_0] from rfl) (Reps.none _ _))); intro v258 w8 ho9 hb hg_ hnew_; clear hg_ hnew_; (first | rw [← Ny257.out] at ho9 | (simp only [Int.reduceToNat] at ho9; rw [← Ny257.out] at ho9)); have n0_ := A_.mk (Kd.R_lower ho9 (bz_ (by repeat (first | (with_reducible first | exact HB.out | apply ba_ | apply bd_ | apply be_ | refine bs_ ?_ GE255.out) | exact HB.out)))); have n1_ := A_.mk (bb_ (bY BK255.out) hb); have n2_ := A_.mk (bt_ (by repeat (first | (with_reducible first | exact HB.out | apply ba_ | apply bd_ | apply be_ | refine bs_ ?_ GE255.out) | exact HB.out)) hb); clear BK255 HB; have HO259 := n0_; have BK255 := n1_; have HB := n2_; clear n0_ n1_ n2_ hb ho9; have hcz10_0 : w8.cell? ⟨gb255, 0, none⟩ = some (.int .i64 a0_0) := (bc_ BK255.out 0).trans rfl; have hcz10_1 : w8.cell? ⟨gb255, 1, none⟩ = some (.slice A0_1 l0_1.length c0_1) := (bc_ BK255.out 1).trans rfl; have hfz10_0 := bf_ BK255.out 0; have hfz10_1 := bf_ BK255.out 1) | ((with_reducible refine gate_builtin (b := .append) (xs := #[.tmp 9, .tmp 11]) rfl ?_); at_builtin; refine Kd.R_append_rows (Kd.int .i64) (w0 := w) w.heap.size rfl (.tmp 9) (.tmp 11) 32 3 (.int .i64 0) 8 rfl Try.underlying32 info3 rfl (by decide) (by omega) v258 y257 l0_1 _ _ _ (fun _ => True) (fun _ => False) rfl rfl ?aO ?aR (fun _ _ h => h) (fun _ h => h.elim) ?aF ?aB ?aS ?aL ?_; (case aR => repeat (first | exact (Kd.C_below HR0_1.out HB.out) | (with_reducible refine Kd.C_alloc ?_ _) | (with_reducible refine Kd.C_drewN ?_ _) | (with_reducible refine Kd.C_drew ?_))); (case aB => exact (by repeat (first | (with_reducible first | exact HB.out | apply ba_ | apply bd_ | apply be_ | refine bs_ ?_ GE255.out) | exact HB.out))); (case aF => exact (fun _ _ => trivial)); (case aO => exact (rY HO259.out)); (case aS => exact (bz_ (by repeat (first | (with_reducible first | exact HB.out | apply ba_ | apply bd_ | apply be_ | refine bs_ ?_ GE255.out) | exact HB.out)))); (case aL => have := LMc4.out; omega); intro v261 w11 ho hb hg hat; rw [← Ny260.out] at ho; have n0_ := A_.mk (blk_grown (g := gb255) (o := .cells #[.int .i64 a0_0, .slice A0_1 l0_1.length c0_1] 68 (0, 0)) (bY BK255.out) hg (Kd.R_ne HO259.out BK255.out (by decide))); have n1_ := A_.mk (hb); have n2_ := A_.mk (ho); clear BK255 HB HO259; have BK255 := n0_; have HB := n1_; have HO262 := n2_; clear n0_ n1_ n2_ ho hb hg hat; obtain ⟨Ao12, co12, eo12⟩ := Kd.R_slice HO262.out; subst eo12) | ((with_reducible refine gc_ (f := 53) rfl ?_); refine gl_ (some 13) Try.func53 #[.slice Ao12 y260.length co12] ?_; (with_reducible refine (impl_AddCheck.calls k _ _ y260 t263 _ ?side1 ?side2 A5.out).mono ?_); (case side1 => exact cY ((Kd.R_reads' HO262.out).2.2)); (case side2 => exact (Kd.R_reads' HO262.out).2.1); rintro e w13 ⟨v264, rfl, ho0, hb⟩; refine ⟨_, rfl, ?_⟩; have n0_ := A_.mk (Kd.R_elder' (rY HO262.out) (Kd.R_base ho0) hb); have n1_ := A_.mk (Kd.R_lower (Kd.R_new' ho0 (Kd.R_lt (rY HO262.out))) (bz_ (by repeat (first | (with_reducible first | exact HB.out | apply ba_ | apply bd_ | apply be_ | refine bs_ ?_ GE255.out) | exact HB.out)))); have n2_ := A_.mk (bb_ (bY BK255.out) hb); have n3_ := A_.mk (bt_ (by repeat (first | (with_reducible first | exact HB.out | apply ba_ | apply bd_ | apply be_ | refine bs_ ?_ GE255.out) | exact HB.out)) hb); clear HO262 BK255 HB; have HO262 := n0_; have HO265 := n1_; have BK255 := n2_; have HB := n3_; clear n0_ n1_ n2_ n3_; (try clear hb); (try clear hb2); (try clear hk); (try clear hi); (try clear ho0)))
 go_ret
 exact ⟨_, by first | rfl | (simp [errW_none, errW_some] <;> rfl) | (simp [*, errW_none, errW_some] <;> rfl), by (repeat apply rX); exact Kd.R_mono HO265.out (fun _ hk => trivial), by repeat (first | (with_reducible first | exact HB.out | apply ba_ | apply bd_ | apply be_ | refine bs_ ?_ GE255.out) | exact HB.out)⟩
/-! ### impl_Link_send: function 16, its calls in a row -/
def impl_Link_send.f (k : Nat) (a0_0 : Int) (l0_1 : List (S68)) (a0_2 : Int) (a0_3 : Int) (l0_4 : List (List Int)) (l0_5 : List (List Int)) (l0_6 : List Int) : Option ((Bool) × (Int) × (List (S68)) × (Int) × (Int) × (List (List Int)) × (List (List Int)) × (List Int)) := ((impl_TakeReady.f k a0_0 l0_1 a0_2).bind fun ⟨t1, t2, t3, t4, t5, t6⟩ => (if t6 = true then (if (l0_5.length : Int) = 8 then (some (false, a0_0, l0_1, a0_2, a0_3, l0_4, l0_5, l0_6)) else ((impl_WireFrame.f k t4 t5).bind fun t7 => (if (l0_5.length + 1) * 24 ≤ 140737488355328 then (some (true, t1, t2, t3, a0_3, l0_4, (l0_5 ++ [t7]), l0_6)) else none))) else (some (false, a0_0, l0_1, a0_2, a0_3, l0_4, l0_5, l0_6))))
set_option maxHeartbeats 8000000 in
set_option maxRecDepth 100000 in
theorem impl_Link_send.calls (k : Nat) (gb_ : Nat) (f0_ : Nat → Nat) (a0_0 : Int) (A0_1 : Option Addr) (c0_1 : Nat) (l0_1 : List (S68)) (a0_2 : Int) (a0_3 : Int) (A0_4 : Option Addr) (c0_4 : Nat) (l0_4 : List (List Int)) (A0_5 : Option Addr) (c0_5 : Nat) (l0_5 : List (List Int)) (A0_6 : Option Addr) (c0_6 : Nat) (l0_6 : List Int) (r1 : Bool) (r2 : Int) (r3 : List (S68)) (r4 : Int) (r5 : Int) (r6 : List (List Int)) (r7 : List (List Int)) (r8 : List Int) (w w1 : World) (hB : Below w.heap.size w w1) (hg : w.heap.size ≤ gb_) (hbx : w1.heap[gb_]? = some (.cells #[.int .i64 a0_0, .slice A0_1 l0_1.length c0_1, .int .i64 a0_2, .int .i64 a0_3, .slice A0_4 l0_4.length c0_4, .slice A0_5 l0_5.length c0_5, .slice A0_6 l0_6.length c0_6] 34 (0, 0))) (hp0_1 : Kd.S k68 68 w1 w.heap.size (fun k_ => (w.heap.size ≤ k_ ∧ k_ < w1.heap.size) ∧ k_ ≠ gb_ ∧ f0_ k_ = 0) (.slice A0_1 l0_1.length c0_1) l0_1) (hp0_4 : Kd.S (Kd.slice 3 (Kd.int .i64)) 32 w1 w.heap.size (fun k_ => (w.heap.size ≤ k_ ∧ k_ < w1.heap.size) ∧ k_ ≠ gb_ ∧ f0_ k_ = 1) (.slice A0_4 l0_4.length c0_4) l0_4) (hp0_5 : Kd.S (Kd.slice 3 (Kd.int .i64)) 32 w1 w.heap.size (fun k_ => (w.heap.size ≤ k_ ∧ k_ < w1.heap.size) ∧ k_ ≠ gb_ ∧ f0_ k_ = 2) (.slice A0_5 l0_5.length c0_5) l0_5) (hp0_6 : Kd.R (Kd.int .i64) 3 w1 w.heap.size (fun k_ => (w.heap.size ≤ k_ ∧ k_ < w1.heap.size) ∧ k_ ≠ gb_ ∧ f0_ k_ = 3) (.slice A0_6 l0_6.length c0_6) l0_6) (h : impl_Link_send.f k a0_0 l0_1 a0_2 a0_3 l0_4 l0_5 l0_6 = some (r1, r2, r3, r4, r5, r6, r7, r8)) :
  Calls Try.prog 16 #[.pointer (some ⟨gb_, 0, none⟩)] w1 fun e w' => ∃ f_ : Nat → Nat, ∃ v0_ v1_ v2_ v3_ : Value, e = .returned (.bool r1) ∧ w'.heap[gb_]? = some (.cells #[.int .i64 r2, v0_, .int .i64 r4, .int .i64 r5, v1_, v2_, v3_] 34 (0, 0)) ∧ Kd.S k68 68 w' w.heap.size (fun k_ => (w.heap.size ≤ k_ ∧ k_ < w'.heap.size) ∧ k_ ≠ gb_ ∧ f_ k_ = 0) v0_ r3 ∧ Kd.S (Kd.slice 3 (Kd.int .i64)) 32 w' w.heap.size (fun k_ => (w.heap.size ≤ k_ ∧ k_ < w'.heap.size) ∧ k_ ≠ gb_ ∧ f_ k_ = 1) v1_ r6 ∧ Kd.S (Kd.slice 3 (Kd.int .i64)) 32 w' w.heap.size (fun k_ => (w.heap.size ≤ k_ ∧ k_ < w'.heap.size) ∧ k_ ≠ gb_ ∧ f_ k_ = 2) v2_ r7 ∧ Kd.R (Kd.int .i64) 3 w' w.heap.size (fun k_ => (w.heap.size ≤ k_ ∧ k_ < w'.heap.size) ∧ k_ ≠ gb_ ∧ f_ k_ = 3) v3_ r8 ∧ (∀ k_, k_ < w1.heap.size → f_ k_ < 4 → k_ = gb_ ∨ f0_ k_ < 4) ∧ Below w.heap.size w w' ∧ Kept w1 w' (fun k_ => k_ = gb_ ∨ ((w.heap.size ≤ k_ ∧ k_ < w1.heap.size) ∧ k_ ≠ gb_ ∧ f0_ k_ < 4)) := by
 obtain ⟨gb1_, rfl⟩ : ∃ q_, q_ = gb_ := ⟨_, rfl⟩
 have HO0_1 := A_.mk hp0_1
 clear hp0_1
 have HO0_4 := A_.mk hp0_4
 clear hp0_4
 have HO0_5 := A_.mk hp0_5
 clear hp0_5
 have HO0_6 := A_.mk hp0_6
 clear hp0_6
 have BK1 := A_.mk hbx
 have HS := A_.mk (And.intro hB.size (And.intro hg (blk_lt hbx)))
 have HK := A_.mk (Kept.refl w1 (fun k_ => k_ = gb1_ ∨ ((w.heap.size ≤ k_ ∧ k_ < w1.heap.size) ∧ k_ ≠ gb1_ ∧ f0_ k_ < 4)))
 clear hbx hg
 have HB := A_.mk hB
 clear hB
 unfold impl_Link_send.f at h
 have H := h
 clear h
 replace H := oa_ H
 obtain ⟨⟨t1, t2, t3, t4, t5, t6⟩, A2, H⟩ := H
 try dsimp only at H
 by_cases hc1_ : t6 = true
 case neg =>
  rw [if_neg hc1_] at H
  replace hc1_ := eq_false_of_ne_true hc1_
  subst hc1_
  simp only [Option.some.injEq, Prod.mk.injEq] at H
  obtain ⟨rfl, rfl, rfl, rfl, rfl, rfl, rfl, rfl⟩ := H
  have hu28 := Try.underlying28
  have hu34 := Try.underlying34
  have hu68 := Try.underlying68
  go_enter Try.func16, Try.ntmps16
  have Q1 := blk7_ BK1.out
  go_wp2_with (first | ((with_reducible refine gc_ (f := 37) rfl ?_); refine gl_ (some 11) Try.func37 #[.agg #[.int .i64 a0_0, .slice A0_1 l0_1.length c0_1, .int .i64 a0_2]] ?_; (with_reducible refine (impl_TakeReady.calls k a0_0 _ _ l0_1 a0_2 t1 t2 t3 t4 t5 false _ (Kd.S_reads' HO0_1.out).2.2 (Kd.S_reads' HO0_1.out).2.1 A2.out).mono ?_); rintro e w2_ ⟨f2_, v0_, v1_, rfl, ho0_, ho1_, hb⟩; refine ⟨_, rfl, ?_⟩; replace HS := aHs HS hb.size; obtain ⟨Ao2_0, co2_0, ev_⟩ := Kd.S_slice ho0_; subst ev_; obtain ⟨Ao2_1, co2_1, ev_⟩ := Kd.R_slice ho1_; subst ev_; replace HO0_1 := aSb HO0_1 hb; replace HO0_4 := aSb HO0_4 hb; replace HO0_5 := aSb HO0_5 hb; replace HO0_6 := aRb HO0_6 hb; replace BK1 := aBb BK1 hb; replace HK := A_.mk (HK.out.below hb); replace HB := aHB HB hb; clear hb ho0_ ho1_ Q1; have Q1 := blk7_ BK1.out) | ((with_reducible refine gd_ (N := 3) rfl ?_); refine by_ 3 (cs := #[.int .i64 0, .slice none 0 0, .int .i64 0]) (t := 28) ?_; intro gb3_ hg w3_ hbox hb; replace HS := A_.mk (And.intro HS.out (show gb3_ = w2_.heap.size ∧ gb3_ < w3_.heap.size from ⟨hg, blk_lt hbox⟩)); replace HO0_1 := aSb HO0_1 hb; replace HO0_4 := aSb HO0_4 hb; replace HO0_5 := aSb HO0_5 hb; replace HO0_6 := aRb HO0_6 hb; replace BK1 := aBb BK1 hb; replace HK := A_.mk (HK.out.below hb); replace HB := aHB HB hb; have BK3 := A_.mk hbox; clear hbox hb hg Q1; have Q1 := blk7_ BK1.out; have Q3 := blk3_ BK3.out) | ((with_reducible refine gd_ (N := 4) rfl ?_); refine by_ 4 (cs := #[.int .i64 0, .slice none 0 0]) (t := 68) ?_; intro gb4_ hg w4_ hbox hb; replace HS := A_.mk (And.intro HS.out (show gb4_ = w3_.heap.size ∧ gb4_ < w4_.heap.size from ⟨hg, blk_lt hbox⟩)); replace HO0_1 := aSb HO0_1 hb; replace HO0_4 := aSb HO0_4 hb; replace HO0_5 := aSb HO0_5 hb; replace HO0_6 := aRb HO0_6 hb; replace BK1 := aBb BK1 hb; replace BK3 := aBb BK3 hb; replace HK := A_.mk (HK.out.below hb); replace HB := aHB HB hb; have BK4 := A_.mk hbox; clear hbox hb hg Q1 Q3; have Q1 := blk7_ BK1.out; have Q3 := blk3_ BK3.out; have Q4 := blk2_ BK4.out) | ((with_reducible refine gate_store (t := 28) (p := 3) rfl ?_); have qf0 := bf_ BK3.out 0; have qf1 := bf_ BK3.out 1; have qf2 := bf_ BK3.out 2; refine se_ (t := 28) (p := 3) (v := ?vo_5) (w1 := (ch3_ w4_ gb3_ (.int .i64 t1) (.slice Ao2_0 t2.length co2_0) (.int .i64 t3))) ?hg ?ho ?hn ?hr ?_; (case ho => rfl); (case hg => rfl); (case hn => rfl); (case hr => first | (go_simp; done) | (go_simp; rfl)); intro w5_ hw; clear qf0 qf1 qf2; obtain ⟨hbx, hkp, hbb⟩ := st3_ hw BK3 HB (by have := HS.out; omega); clear hw; replace HK := A_.mk (HK.out.then_ hkp (fun k_ h_ => by have := HS.out; (try dsimp only at h_ ⊢); omega)); replace HO0_1 := aSk HO0_1 hkp HS; replace HO0_4 := aSk HO0_4 hkp HS; replace HO0_5 := aSk HO0_5 hkp HS; replace HO0_6 := aRk HO0_6 hkp HS; replace BK1 := aBk BK1 hkp HS; replace BK4 := aBk BK4 hkp HS; replace BK3 := A_.mk hbx; replace HB := A_.mk hbb; replace HS := aHs HS hkp.1; clear hkp hbb hbx Q1 Q3 Q4; have Q1 := blk7_ BK1.out; have Q3 := blk3_ BK3.out; have Q4 := blk2_ BK4.out) | ((with_reducible refine gate_store (t := 68) (p := 4) rfl ?_); have qf0 := bf_ BK4.out 0; have qf1 := bf_ BK4.out 1; refine se_ (t := 68) (p := 4) (v := ?vo_6) (w1 := (ch2_ w5_ gb4_ (.int .i64 t4) (.slice Ao2_1 t5.length co2_1))) ?hg ?ho ?hn ?hr ?_; (case ho => rfl); (case hg => rfl); (case hn => rfl); (case hr => first | (go_simp; done) | (go_simp; rfl)); intro w6_ hw; clear qf0 qf1; obtain ⟨hbx, hkp, hbb⟩ := st2_ hw BK4 HB (by have := HS.out; omega); clear hw; replace HK := A_.mk (HK.out.then_ hkp (fun k_ h_ => by have := HS.out; (try dsimp only at h_ ⊢); omega)); replace HO0_1 := aSk HO0_1 hkp HS; replace HO0_4 := aSk HO0_4 hkp HS; replace HO0_5 := aSk HO0_5 hkp HS; replace HO0_6 := aRk HO0_6 hkp HS; replace BK1 := aBk BK1 hkp HS; replace BK3 := aBk BK3 hkp HS; replace BK4 := A_.mk hbx; replace HB := A_.mk hbb; replace HS := aHs HS hkp.1; clear hkp hbb hbx Q1 Q3 Q4; have Q1 := blk7_ BK1.out; have Q3 := blk3_ BK3.out; have Q4 := blk2_ BK4.out))
  go_ret
  obtain ⟨f_, hf_⟩ : ∃ f_ : Nat → Nat, ∀ k_, f_ k_ = (if ((w.heap.size ≤ k_ ∧ k_ < w1.heap.size) ∧ k_ ≠ gb1_ ∧ f0_ k_ = 0) then 0 else (if ((w.heap.size ≤ k_ ∧ k_ < w1.heap.size) ∧ k_ ≠ gb1_ ∧ f0_ k_ = 1) then 1 else (if ((w.heap.size ≤ k_ ∧ k_ < w1.heap.size) ∧ k_ ≠ gb1_ ∧ f0_ k_ = 2) then 2 else (if ((w.heap.size ≤ k_ ∧ k_ < w1.heap.size) ∧ k_ ≠ gb1_ ∧ f0_ k_ = 3) then 3 else 4)))) := ⟨fun k_ => (if ((w.heap.size ≤ k_ ∧ k_ < w1.heap.size) ∧ k_ ≠ gb1_ ∧ f0_ k_ = 0) then 0 else (if ((w.heap.size ≤ k_ ∧ k_ < w1.heap.size) ∧ k_ ≠ gb1_ ∧ f0_ k_ = 1) then 1 else (if ((w.heap.size ≤ k_ ∧ k_ < w1.heap.size) ∧ k_ ≠ gb1_ ∧ f0_ k_ = 2) then 2 else (if ((w.heap.size ≤ k_ ∧ k_ < w1.heap.size) ∧ k_ ≠ gb1_ ∧ f0_ k_ = 3) then 3 else 4)))), fun _ => rfl⟩
  have hcol0_ : ∀ k_, (((w.heap.size ≤ k_ ∧ k_ < w1.heap.size) ∧ k_ ≠ gb1_ ∧ f0_ k_ = 0)) → ((w.heap.size ≤ k_ ∧ k_ < w6_.heap.size) ∧ k_ ≠ gb1_ ∧ f_ k_ = 0) := fun k_ hk_ => ⟨by have := HS.out; omega, by have := HS.out; omega, by rw [hf_]; have := HS.out; repeat' (first | omega | split)⟩
  have hcol1_ : ∀ k_, (((w.heap.size ≤ k_ ∧ k_ < w1.heap.size) ∧ k_ ≠ gb1_ ∧ f0_ k_ = 1)) → ((w.heap.size ≤ k_ ∧ k_ < w6_.heap.size) ∧ k_ ≠ gb1_ ∧ f_ k_ = 1) := fun k_ hk_ => ⟨by have := HS.out; omega, by have := HS.out; omega, by rw [hf_]; have := HS.out; repeat' (first | omega | split)⟩
  have hcol2_ : ∀ k_, (((w.heap.size ≤ k_ ∧ k_ < w1.heap.size) ∧ k_ ≠ gb1_ ∧ f0_ k_ = 2)) → ((w.heap.size ≤ k_ ∧ k_ < w6_.heap.size) ∧ k_ ≠ gb1_ ∧ f_ k_ = 2) := fun k_ hk_ => ⟨by have := HS.out; omega, by have := HS.out; omega, by rw [hf_]; have := HS.out; repeat' (first | omega | split)⟩
  have hcol3_ : ∀ k_, (((w.heap.size ≤ k_ ∧ k_ < w1.heap.size) ∧ k_ ≠ gb1_ ∧ f0_ k_ = 3)) → ((w.heap.size ≤ k_ ∧ k_ < w6_.heap.size) ∧ k_ ≠ gb1_ ∧ f_ k_ = 3) := fun k_ hk_ => ⟨by have := HS.out; omega, by have := HS.out; omega, by rw [hf_]; have := HS.out; repeat' (first | omega | split)⟩
  have hfk_ : ∀ k_, k_ < w1.heap.size → f_ k_ < 4 → k_ = gb1_ ∨ f0_ k_ < 4 := fun k_ h1_ h2_ => by have := HS.out; rw [hf_] at h2_; repeat' (first | omega | split at h2_)
  first | exact ⟨f_, _, _, _, _, rfl, BK1.out, Kd.S_mono HO0_1.out hcol0_, Kd.S_mono HO0_4.out hcol1_, Kd.S_mono HO0_5.out hcol2_, Kd.R_mono HO0_6.out hcol3_, hfk_, HB.out, HK.out⟩ | exact ⟨rfl, f_, _, _, _, _, BK1.out, Kd.S_mono HO0_1.out hcol0_, Kd.S_mono HO0_4.out hcol1_, Kd.S_mono HO0_5.out hcol2_, Kd.R_mono HO0_6.out hcol3_, hfk_, HB.out, HK.out⟩
 rw [if_pos hc1_] at H
 subst hc1_
 by_cases hc2_ : (l0_5.length : Int) = 8
 case pos =>
  rw [if_pos hc2_] at H
  have hc2_b0 : ((l0_5.length : Int) == 8) = true := beq_iff_eq.mpr hc2_
  have hc2_bn : ((l0_5.length : Int) != 8) = false := bne_eq_false_iff_eq.mpr hc2_
  have hc2_b1 : (l0_5.length == 8) = true := by first | simpa using hc2_ | (simp at hc2_ ⊢; omega)
  replace hc2_ := A_.mk hc2_
  simp only [Option.some.injEq, Prod.mk.injEq] at H
  obtain ⟨rfl, rfl, rfl, rfl, rfl, rfl, rfl, rfl⟩ := H
  have hu28 := Try.underlying28
  have hu34 := Try.underlying34
  have hu68 := Try.underlying68
  go_enter Try.func16, Try.ntmps16
  have Q1 := blk7_ BK1.out
  go_wp2_with (first | ((with_reducible refine gc_ (f := 37) rfl ?_); refine gl_ (some 11) Try.func37 #[.agg #[.int .i64 a0_0, .slice A0_1 l0_1.length c0_1, .int .i64 a0_2]] ?_; (with_reducible refine (impl_TakeReady.calls k a0_0 _ _ l0_1 a0_2 t1 t2 t3 t4 t5 true _ (Kd.S_reads' HO0_1.out).2.2 (Kd.S_reads' HO0_1.out).2.1 A2.out).mono ?_); rintro e w2_ ⟨f2_, v0_, v1_, rfl, ho0_, ho1_, hb⟩; refine ⟨_, rfl, ?_⟩; replace HS := aHs HS hb.size; obtain ⟨Ao2_0, co2_0, ev_⟩ := Kd.S_slice ho0_; subst ev_; obtain ⟨Ao2_1, co2_1, ev_⟩ := Kd.R_slice ho1_; subst ev_; replace HO0_1 := aSb HO0_1 hb; replace HO0_4 := aSb HO0_4 hb; replace HO0_5 := aSb HO0_5 hb; replace HO0_6 := aRb HO0_6 hb; replace BK1 := aBb BK1 hb; replace HK := A_.mk (HK.out.below hb); replace HB := aHB HB hb; clear hb ho0_ ho1_ Q1; have Q1 := blk7_ BK1.out) | ((with_reducible refine gd_ (N := 3) rfl ?_); refine by_ 3 (cs := #[.int .i64 0, .slice none 0 0, .int .i64 0]) (t := 28) ?_; intro gb3_ hg w3_ hbox hb; replace HS := A_.mk (And.intro HS.out (show gb3_ = w2_.heap.size ∧ gb3_ < w3_.heap.size from ⟨hg, blk_lt hbox⟩)); replace HO0_1 := aSb HO0_1 hb; replace HO0_4 := aSb HO0_4 hb; replace HO0_5 := aSb HO0_5 hb; replace HO0_6 := aRb HO0_6 hb; replace BK1 := aBb BK1 hb; replace HK := A_.mk (HK.out.below hb); replace HB := aHB HB hb; have BK3 := A_.mk hbox; clear hbox hb hg Q1; have Q1 := blk7_ BK1.out; have Q3 := blk3_ BK3.out) | ((with_reducible refine gd_ (N := 4) rfl ?_); refine by_ 4 (cs := #[.int .i64 0, .slice none 0 0]) (t := 68) ?_; intro gb4_ hg w4_ hbox hb; replace HS := A_.mk (And.intro HS.out (show gb4_ = w3_.heap.size ∧ gb4_ < w4_.heap.size from ⟨hg, blk_lt hbox⟩)); replace HO0_1 := aSb HO0_1 hb; replace HO0_4 := aSb HO0_4 hb; replace HO0_5 := aSb HO0_5 hb; replace HO0_6 := aRb HO0_6 hb; replace BK1 := aBb BK1 hb; replace BK3 := aBb BK3 hb; replace HK := A_.mk (HK.out.below hb); replace HB := aHB HB hb; have BK4 := A_.mk hbox; clear hbox hb hg Q1 Q3; have Q1 := blk7_ BK1.out; have Q3 := blk3_ BK3.out; have Q4 := blk2_ BK4.out) | ((with_reducible refine gate_store (t := 28) (p := 3) rfl ?_); have qf0 := bf_ BK3.out 0; have qf1 := bf_ BK3.out 1; have qf2 := bf_ BK3.out 2; refine se_ (t := 28) (p := 3) (v := ?vo_5) (w1 := (ch3_ w4_ gb3_ (.int .i64 t1) (.slice Ao2_0 t2.length co2_0) (.int .i64 t3))) ?hg ?ho ?hn ?hr ?_; (case ho => rfl); (case hg => rfl); (case hn => rfl); (case hr => first | (go_simp; done) | (go_simp; rfl)); intro w5_ hw; clear qf0 qf1 qf2; obtain ⟨hbx, hkp, hbb⟩ := st3_ hw BK3 HB (by have := HS.out; omega); clear hw; replace HK := A_.mk (HK.out.then_ hkp (fun k_ h_ => by have := HS.out; (try dsimp only at h_ ⊢); omega)); replace HO0_1 := aSk HO0_1 hkp HS; replace HO0_4 := aSk HO0_4 hkp HS; replace HO0_5 := aSk HO0_5 hkp HS; replace HO0_6 := aRk HO0_6 hkp HS; replace BK1 := aBk BK1 hkp HS; replace BK4 := aBk BK4 hkp HS; replace BK3 := A_.mk hbx; replace HB := A_.mk hbb; replace HS := aHs HS hkp.1; clear hkp hbb hbx Q1 Q3 Q4; have Q1 := blk7_ BK1.out; have Q3 := blk3_ BK3.out; have Q4 := blk2_ BK4.out) | ((with_reducible refine gate_store (t := 68) (p := 4) rfl ?_); have qf0 := bf_ BK4.out 0; have qf1 := bf_ BK4.out 1; refine se_ (t := 68) (p := 4) (v := ?vo_6) (w1 := (ch2_ w5_ gb4_ (.int .i64 t4) (.slice Ao2_1 t5.length co2_1))) ?hg ?ho ?hn ?hr ?_; (case ho => rfl); (case hg => rfl); (case hn => rfl); (case hr => first | (go_simp; done) | (go_simp; rfl)); intro w6_ hw; clear qf0 qf1; obtain ⟨hbx, hkp, hbb⟩ := st2_ hw BK4 HB (by have := HS.out; omega); clear hw; replace HK := A_.mk (HK.out.then_ hkp (fun k_ h_ => by have := HS.out; (try dsimp only at h_ ⊢); omega)); replace HO0_1 := aSk HO0_1 hkp HS; replace HO0_4 := aSk HO0_4 hkp HS; replace HO0_5 := aSk HO0_5 hkp HS; replace HO0_6 := aRk HO0_6 hkp HS; replace BK1 := aBk BK1 hkp HS; replace BK3 := aBk BK3 hkp HS; replace BK4 := A_.mk hbx; replace HB := A_.mk hbb; replace HS := aHs HS hkp.1; clear hkp hbb hbx Q1 Q3 Q4; have Q1 := blk7_ BK1.out; have Q3 := blk3_ BK3.out; have Q4 := blk2_ BK4.out))
  go_ret
  obtain ⟨f_, hf_⟩ : ∃ f_ : Nat → Nat, ∀ k_, f_ k_ = (if ((w.heap.size ≤ k_ ∧ k_ < w1.heap.size) ∧ k_ ≠ gb1_ ∧ f0_ k_ = 0) then 0 else (if ((w.heap.size ≤ k_ ∧ k_ < w1.heap.size) ∧ k_ ≠ gb1_ ∧ f0_ k_ = 1) then 1 else (if ((w.heap.size ≤ k_ ∧ k_ < w1.heap.size) ∧ k_ ≠ gb1_ ∧ f0_ k_ = 2) then 2 else (if ((w.heap.size ≤ k_ ∧ k_ < w1.heap.size) ∧ k_ ≠ gb1_ ∧ f0_ k_ = 3) then 3 else 4)))) := ⟨fun k_ => (if ((w.heap.size ≤ k_ ∧ k_ < w1.heap.size) ∧ k_ ≠ gb1_ ∧ f0_ k_ = 0) then 0 else (if ((w.heap.size ≤ k_ ∧ k_ < w1.heap.size) ∧ k_ ≠ gb1_ ∧ f0_ k_ = 1) then 1 else (if ((w.heap.size ≤ k_ ∧ k_ < w1.heap.size) ∧ k_ ≠ gb1_ ∧ f0_ k_ = 2) then 2 else (if ((w.heap.size ≤ k_ ∧ k_ < w1.heap.size) ∧ k_ ≠ gb1_ ∧ f0_ k_ = 3) then 3 else 4)))), fun _ => rfl⟩
  have hcol0_ : ∀ k_, (((w.heap.size ≤ k_ ∧ k_ < w1.heap.size) ∧ k_ ≠ gb1_ ∧ f0_ k_ = 0)) → ((w.heap.size ≤ k_ ∧ k_ < w6_.heap.size) ∧ k_ ≠ gb1_ ∧ f_ k_ = 0) := fun k_ hk_ => ⟨by have := HS.out; omega, by have := HS.out; omega, by rw [hf_]; have := HS.out; repeat' (first | omega | split)⟩
  have hcol1_ : ∀ k_, (((w.heap.size ≤ k_ ∧ k_ < w1.heap.size) ∧ k_ ≠ gb1_ ∧ f0_ k_ = 1)) → ((w.heap.size ≤ k_ ∧ k_ < w6_.heap.size) ∧ k_ ≠ gb1_ ∧ f_ k_ = 1) := fun k_ hk_ => ⟨by have := HS.out; omega, by have := HS.out; omega, by rw [hf_]; have := HS.out; repeat' (first | omega | split)⟩
  have hcol2_ : ∀ k_, (((w.heap.size ≤ k_ ∧ k_ < w1.heap.size) ∧ k_ ≠ gb1_ ∧ f0_ k_ = 2)) → ((w.heap.size ≤ k_ ∧ k_ < w6_.heap.size) ∧ k_ ≠ gb1_ ∧ f_ k_ = 2) := fun k_ hk_ => ⟨by have := HS.out; omega, by have := HS.out; omega, by rw [hf_]; have := HS.out; repeat' (first | omega | split)⟩
  have hcol3_ : ∀ k_, (((w.heap.size ≤ k_ ∧ k_ < w1.heap.size) ∧ k_ ≠ gb1_ ∧ f0_ k_ = 3)) → ((w.heap.size ≤ k_ ∧ k_ < w6_.heap.size) ∧ k_ ≠ gb1_ ∧ f_ k_ = 3) := fun k_ hk_ => ⟨by have := HS.out; omega, by have := HS.out; omega, by rw [hf_]; have := HS.out; repeat' (first | omega | split)⟩
  have hfk_ : ∀ k_, k_ < w1.heap.size → f_ k_ < 4 → k_ = gb1_ ∨ f0_ k_ < 4 := fun k_ h1_ h2_ => by have := HS.out; rw [hf_] at h2_; repeat' (first | omega | split at h2_)
  first | exact ⟨f_, _, _, _, _, rfl, BK1.out, Kd.S_mono HO0_1.out hcol0_, Kd.S_mono HO0_4.out hcol1_, Kd.S_mono HO0_5.out hcol2_, Kd.R_mono HO0_6.out hcol3_, hfk_, HB.out, HK.out⟩ | exact ⟨rfl, f_, _, _, _, _, BK1.out, Kd.S_mono HO0_1.out hcol0_, Kd.S_mono HO0_4.out hcol1_, Kd.S_mono HO0_5.out hcol2_, Kd.R_mono HO0_6.out hcol3_, hfk_, HB.out, HK.out⟩
 rw [if_neg hc2_] at H
 have hc2_b0 : ((l0_5.length : Int) == 8) = false := beq_eq_false_iff_ne.mpr hc2_
 have hc2_bn : ((l0_5.length : Int) != 8) = true := bne_iff_ne.mpr hc2_
 have hc2_b1 : (l0_5.length == 8) = false := by first | simpa using hc2_ | (simp at hc2_ ⊢; omega)
 replace H := oa_ H
 obtain ⟨t7, A7, H⟩ := H
 by_cases hl3_ : (l0_5.length + 1) * 24 ≤ 140737488355328
 case neg => rw [if_neg hl3_] at H; cases H
 rw [if_pos hl3_] at H
 have LM8 := A_.mk hl3_
 clear hl3_
 obtain ⟨y8, Ny8⟩ : ∃ q_, q_ = (l0_5 ++ [t7]) := ⟨_, rfl⟩
 rw [← Ny8] at H
 replace Ny8 := A_.mk Ny8
 simp only [Option.some.injEq, Prod.mk.injEq] at H
 obtain ⟨rfl, rfl, rfl, rfl, rfl, rfl, rfl, rfl⟩ := H
 have hu28 := Try.underlying28
 have hu34 := Try.underlying34
 have hu68 := Try.underlying68
 go_enter Try.func16, Try.ntmps16
 have Q1 := blk7_ BK1.out
 go_wp2_with (first | ((with_reducible refine gc_ (f := 37) rfl ?_); refine gl_ (some 11) Try.func37 #[.agg #[.int .i64 a0_0, .slice A0_1 l0_1.length c0_1, .int .i64 a0_2]] ?_; (with_reducible refine (impl_TakeReady.calls k a0_0 _ _ l0_1 a0_2 t1 t2 t3 t4 t5 true _ (Kd.S_reads' HO0_1.out).2.2 (Kd.S_reads' HO0_1.out).2.1 A2.out).mono ?_); rintro e w2_ ⟨f2_, v0_, v1_, rfl, ho0_, ho1_, hb⟩; refine ⟨_, rfl, ?_⟩; replace HS := aHs HS hb.size; obtain ⟨Ao2_0, co2_0, ev_⟩ := Kd.S_slice ho0_; subst ev_; have HO2_0 := aSn ho0_ HB.out.size; obtain ⟨Ao2_1, co2_1, ev_⟩ := Kd.R_slice ho1_; subst ev_; have HO2_1 := aRn ho1_ HB.out.size; replace HO0_1 := aSb HO0_1 hb; replace HO0_4 := aSb HO0_4 hb; replace HO0_5 := aSb HO0_5 hb; replace HO0_6 := aRb HO0_6 hb; replace BK1 := aBb BK1 hb; replace HK := A_.mk (HK.out.below hb); replace HB := aHB HB hb; clear hb ho0_ ho1_ Q1; have Q1 := blk7_ BK1.out) | ((with_reducible refine gd_ (N := 3) rfl ?_); refine by_ 3 (cs := #[.int .i64 0, .slice none 0 0, .int .i64 0]) (t := 28) ?_; intro gb3_ hg w3_ hbox hb; replace HS := A_.mk (And.intro HS.out (show gb3_ = w2_.heap.size ∧ gb3_ < w3_.heap.size from ⟨hg, blk_lt hbox⟩)); replace HO0_4 := aSb HO0_4 hb; replace HO0_5 := aSb HO0_5 hb; replace HO0_6 := aRb HO0_6 hb; replace HO2_0 := aSb HO2_0 hb; replace HO2_1 := aRb HO2_1 hb; replace BK1 := aBb BK1 hb; replace HK := A_.mk (HK.out.below hb); replace HB := aHB HB hb; have BK3 := A_.mk hbox; clear hbox hb hg Q1; have Q1 := blk7_ BK1.out; have Q3 := blk3_ BK3.out) | ((with_reducible refine gd_ (N := 4) rfl ?_); refine by_ 4 (cs := #[.int .i64 0, .slice none 0 0]) (t := 68) ?_; intro gb4_ hg w4_ hbox hb; replace HS := A_.mk (And.intro HS.out (show gb4_ = w3_.heap.size ∧ gb4_ < w4_.heap.size from ⟨hg, blk_lt hbox⟩)); replace HO0_4 := aSb HO0_4 hb; replace HO0_5 := aSb HO0_5 hb; replace HO0_6 := aRb HO0_6 hb; replace HO2_0 := aSb HO2_0 hb; replace HO2_1 := aRb HO2_1 hb; replace BK1 := aBb BK1 hb; replace BK3 := aBb BK3 hb; replace HK := A_.mk (HK.out.below hb); replace HB := aHB HB hb; have BK4 := A_.mk hbox; clear hbox hb hg Q1 Q3; have Q1 := blk7_ BK1.out; have Q3 := blk3_ BK3.out; have Q4 := blk2_ BK4.out) | ((with_reducible refine gate_store (t := 28) (p := 3) rfl ?_); have qf0 := bf_ BK3.out 0; have qf1 := bf_ BK3.out 1; have qf2 := bf_ BK3.out 2; refine se_ (t := 28) (p := 3) (v := ?vo_5) (w1 := (ch3_ w4_ gb3_ (.int .i64 t1) (.slice Ao2_0 t2.length co2_0) (.int .i64 t3))) ?hg ?ho ?hn ?hr ?_; (case ho => rfl); (case hg => rfl); (case hn => rfl); (case hr => first | (go_simp; done) | (go_simp; rfl)); intro w5_ hw; clear qf0 qf1 qf2; obtain ⟨hbx, hkp, hbb⟩ := st3_ hw BK3 HB (by have := HS.out; omega); clear hw; replace HK := A_.mk (HK.out.then_ hkp (fun k_ h_ => by have := HS.out; (try dsimp only at h_ ⊢); omega)); replace HO0_4 := aSk HO0_4 hkp HS; replace HO0_5 := aSk HO0_5 hkp HS; replace HO0_6 := aRk HO0_6 hkp HS; replace HO2_0 := aSk HO2_0 hkp HS; replace HO2_1 := aRk HO2_1 hkp HS; replace BK1 := aBk BK1 hkp HS; replace BK4 := aBk BK4 hkp HS; replace BK3 := A_.mk hbx; replace HB := A_.mk hbb; replace HS := aHs HS hkp.1; clear hkp hbb hbx Q1 Q3 Q4; have Q1 := blk7_ BK1.out; have Q3 := blk3_ BK3.out; have Q4 := blk2_ BK4.out) | ((with_reducible refine gate_store (t := 68) (p := 4) rfl ?_); have qf0 := bf_ BK4.out 0; have qf1 := bf_ BK4.out 1; refine se_ (t := 68) (p := 4) (v := ?vo_6) (w1 := (ch2_ w5_ gb4_ (.int .i64 t4) (.slice Ao2_1 t5.length co2_1))) ?hg ?ho ?hn ?hr ?_; (case ho => rfl); (case hg => rfl); (case hn => rfl); (case hr => first | (go_simp; done) | (go_simp; rfl)); intro w6_ hw; clear qf0 qf1; obtain ⟨hbx, hkp, hbb⟩ := st2_ hw BK4 HB (by have := HS.out; omega); clear hw; replace HK := A_.mk (HK.out.then_ hkp (fun k_ h_ => by have := HS.out; (try dsimp only at h_ ⊢); omega)); replace HO0_4 := aSk HO0_4 hkp HS; replace HO0_5 := aSk HO0_5 hkp HS; replace HO0_6 := aRk HO0_6 hkp HS; replace HO2_0 := aSk HO2_0 hkp HS; replace HO2_1 := aRk HO2_1 hkp HS; replace BK1 := aBk BK1 hkp HS; replace BK3 := aBk BK3 hkp HS; replace BK4 := A_.mk hbx; replace HB := A_.mk hbb; replace HS := aHs HS hkp.1; clear hkp hbb hbx Q1 Q3 Q4; have Q1 := blk7_ BK1.out; have Q3 := blk3_ BK3.out; have Q4 := blk2_ BK4.out))
 refine start_ (n := 17) (S := fun w' => (w'.cell? ⟨gb1_, 0, none⟩ = some (.int .i64 a0_0) ∧ w'.cell? ⟨gb1_, 1, none⟩ = some (.slice A0_1 l0_1.length c0_1) ∧ w'.cell? ⟨gb1_, 2, none⟩ = some (.int .i64 a0_2) ∧ w'.cell? ⟨gb1_, 3, none⟩ = some (.int .i64 a0_3) ∧ w'.cell? ⟨gb1_, 4, none⟩ = some (.slice A0_4 l0_4.length c0_4) ∧ w'.cell? ⟨gb1_, 5, none⟩ = some (.slice A0_5 l0_5.length c0_5) ∧ w'.cell? ⟨gb1_, 6, none⟩ = some (.slice A0_6 l0_6.length c0_6)) ∧ (w'.cell? ⟨gb3_, 0, none⟩ = some (.int .i64 t1) ∧ w'.cell? ⟨gb3_, 1, none⟩ = some (.slice Ao2_0 t2.length co2_0) ∧ w'.cell? ⟨gb3_, 2, none⟩ = some (.int .i64 t3)) ∧ (w'.cell? ⟨gb4_, 0, none⟩ = some (.int .i64 t4) ∧ w'.cell? ⟨gb4_, 1, none⟩ = some (.slice Ao2_1 t5.length co2_1))) (ds := [13, 16]) #[F, F, F, F, F, F, F, F, F, F, F, F, F, F, F, F, F] (by kernel_rfl) rfl rfl ⟨blk7_ BK1.out, blk3_ BK3.out, blk2_ BK4.out⟩ (fun hHeld => ?_)
 clear Q1 Q3 Q4
 have hb := below_drew (Below.refl w6_.heap.size w6_)
 replace HS := aHs HS hb.size
 replace HO0_4 := aSb HO0_4 hb
 replace HO0_5 := aSb HO0_5 hb
 replace HO0_6 := aRb HO0_6 hb
 replace HO2_0 := aSb HO2_0 hb
 replace HO2_1 := aRb HO2_1 hb
 replace BK1 := aBb BK1 hb
 replace BK3 := aBb BK3 hb
 replace BK4 := aBb BK4 hb
 replace HK := A_.mk (HK.out.below hb)
 replace HB := aHB HB hb
 clear hb
 generalize w6_.drew = w11d_ at HO0_4 HO0_5 HO0_6 HO2_0 HO2_1 HK BK1 BK3 BK4 HB HS hHeld ⊢
 refine pd_ (i := 0) (N := some 25) #[T, F, F, F, F, F, F, F, F, F, F, F, F, F, F, F, F] rfl ?_
 refine pd_ (i := 1) (N := some 26) #[T, T, F, F, F, F, F, F, F, F, F, F, F, F, F, F, F] rfl ?_
 refine tl_ (i := 2) (N := some 27) #[T, T, T, F, F, F, F, F, F, F, F, F, F, F, F, F, F] rfl hHeld ?_
 refine pd_ (i := 3) (N := some 28) #[T, T, T, T, F, F, F, F, F, F, F, F, F, F, F, F, F] rfl ?_
 refine pd_ (i := 4) (N := some 29) #[T, T, T, T, T, F, F, F, F, F, F, F, F, F, F, F, F] rfl ?_
 refine pd_ (i := 5) (N := some 30) #[T, T, T, T, T, T, F, F, F, F, F, F, F, F, F, F, F] rfl ?_
 refine tl_ (i := 6) (N := some 31) #[T, T, T, T, T, T, T, F, F, F, F, F, F, F, F, F, F] rfl hHeld ?_
 refine tl_ (i := 7) (N := some 32) #[T, T, T, T, T, T, T, T, F, F, F, F, F, F, F, F, F] rfl hHeld ?_
 refine on_ (i := 8) (N := some 33) #[T, T, T, T, T, T, T, T, T, F, F, F, F, F, F, F, F] rfl (fun K hK => ?_)
 refine gz_ Try.func38 #[.agg #[.int .i64 t4, .slice Ao2_1 t5.length co2_1]] ?_
 with_reducible refine (impl_WireFrame.calls k t4 _ _ t5 t7 _ (Kd.R_reads' HO2_1.out).2.2 (Kd.R_reads' HO2_1.out).2.1 A7.out).mono ?_
 rintro e w7_ ⟨v0_, rfl, ho0_, hb⟩
 refine ⟨_, rfl, ?_⟩
 replace HS := aHs HS hb.size
 obtain ⟨Ao7_0, co7_0, ev_⟩ := Kd.R_slice ho0_
 subst ev_
 have HO7_0 := aRm ho0_ HB.out.size
 replace HO0_4 := aSb HO0_4 hb
 replace HO0_5 := aSb HO0_5 hb
 replace HO0_6 := aRb HO0_6 hb
 replace HO2_0 := aSb HO2_0 hb
 replace HO2_1 := aRb HO2_1 hb
 replace BK1 := aBb BK1 hb
 replace BK3 := aBb BK3 hb
 replace BK4 := aBb BK4 hb
 replace HK := A_.mk (HK.out.below hb)
 replace HB := aHB HB hb
 clear hb ho0_
 refine hK.out _ _ ⟨blk7_ BK1.out, blk3_ BK3.out, blk2_ BK4.out⟩ (fun hHeld => ?_)
 clear hK K
 refine nm_ ?_
 refine on_ (i := 9) (N := some 34) #[T, T, T, T, T, T, T, T, T, T, F, F, F, F, F, F, F] rfl (fun K hK => ?_)
 refine value_ (w1 := ?_) (v := ?_) (by rfl) rfl ?_ ?_
 rotate_left 2
 ·go_simp
  constructor
  ·rfl
  ·rfl
 refine hK.out _ _ ⟨blk7_ (bl_ BK1.out _), blk3_ (bl_ BK3.out _), blk2_ (bl_ BK4.out _)⟩ (fun hHeld => ?_)
 clear hK K
 refine nm_ ?_
 refine on_ (i := 10) (N := some 35) #[T, T, T, T, T, T, T, T, T, T, T, F, F, F, F, F, F] rfl (fun K hK => ?_)
 refine Kd.S_append_step (Kd.slice 3 (Kd.int .i64)) (w0 := w) w.heap.size (by rfl) (.tmp 31) (.tmp 34) 29 32 ((.slice none 0 0)) 24 rfl Try.underlying29 info32 rfl (by decide) (by omega) (.slice A0_5 l0_5.length c0_5) l0_5 t7 [.slice Ao7_0 t7.length co7_0] (fun k_ => (((w.heap.size ≤ k_ ∧ k_ < w1.heap.size) ∧ k_ ≠ gb1_ ∧ f0_ k_ = 2)) ∨ (((w11d_.heap.size ≤ k_ ∧ k_ < w7_.heap.size))) ∨ w7_.heap.size ≤ k_) (fun k_ => ((w11d_.heap.size ≤ k_ ∧ k_ < w7_.heap.size))) rfl rfl ?aP ?aQ ?aF ?aO HB.out HB.out.size ?aL ?_
 case aP => exact Kd.M_row HO7_0.out
 case aQ => exact fun k_ hk_ => ⟨.inr (.inl hk_), fun e_ => by have := (Kd.S_R HO0_5.out).1 k_ e_.symm; clear e_; have := HS.out; omega⟩
 case aF => exact fun k_ hk_ => .inr (.inr hk_)
 case aO => exact Kd.S_mono HO0_5.out (fun k_ hk_ => ⟨.inl hk_, fun e_ => by have := HS.out; omega⟩)
 case aL => have := LM8.out; omega
 intro v_ w8_ ho hbb hg hat
 clear hat
 rw [← Ny8.out] at ho
 have hkp : Kept w7_ w8_ (fun k_ => ((w.heap.size ≤ k_ ∧ k_ < w1.heap.size) ∧ k_ ≠ gb1_ ∧ f0_ k_ = 2)) := Kept.of_grown hg (Kept.refl _ _) (fun k_ e_ => .inl ((Kd.S_R HO0_5.out).1 k_ e_))
 replace HK := A_.mk (HK.out.then_ hkp (fun k_ h_ => by have := HS.out; (try dsimp only at h_ ⊢); omega))
 replace HO0_4 := aSk HO0_4 hkp HS
 replace HO0_6 := aRk HO0_6 hkp HS
 replace HO2_0 := aSk HO2_0 hkp HS
 replace HO2_1 := aRk HO2_1 hkp HS
 replace BK1 := aBk BK1 hkp HS
 replace BK3 := aBk BK3 hkp HS
 replace BK4 := aBk BK4 hkp HS
 replace HS := aHs HS hkp.1
 obtain ⟨Ao8, co8, ev_⟩ := Kd.S_slice ho
 subst ev_
 have HO8 := A_.mk (Kd.S_mono (ok' := (fun k_ => ((w.heap.size ≤ k_ ∧ k_ < w1.heap.size) ∧ k_ ≠ gb1_ ∧ f0_ k_ = 2) ∨ ((w11d_.heap.size ≤ k_ ∧ k_ < w7_.heap.size)) ∨ ((w7_.heap.size ≤ k_ ∧ k_ < w8_.heap.size)))) (Kd.S_bound ho) (fun k_ hk_ => by have := hk_.1; have := hk_.2.2.1; have := hk_.2.1; clear hk_; have := HS.out; omega))
 replace HB := A_.mk hbb
 clear hkp hbb hg ho HO0_5 HO7_0
 refine hK.out _ _ ⟨blk7_ BK1.out, blk3_ BK3.out, blk2_ BK4.out⟩ (fun hHeld => ?_)
 clear hK K
 refine nm_ ?_
 refine pd_ (i := 11) (N := some 36) #[T, T, T, T, T, T, T, T, T, T, T, T, F, F, F, F, F] rfl ?_
 refine pd_ (i := 12) (N := some 37) #[T, T, T, T, T, T, T, T, T, T, T, T, T, F, F, F, F] rfl ?_
 refine last_ (i := 13) (N := none) #[T, T, T, T, T, T, T, T, T, T, T, T, T, T, F, F, F] rfl rfl (by kernel_rfl) (by decide) (fun K hK => ?_)
 have Q1 := blk7_ BK1.out
 have Q3 := blk3_ BK3.out
 have Q4 := blk2_ BK4.out
 have qf0 := bf_ BK1.out 0; have qf1 := bf_ BK1.out 1; have qf2 := bf_ BK1.out 2
 obtain ⟨w9_, hw⟩ : ∃ q_ : World, q_ = (((w8_.setCell ⟨gb1_, 0, none⟩ (.int .i64 t1)).setCell ⟨gb1_, 1, none⟩ (.slice Ao2_0 t2.length co2_0)).setCell ⟨gb1_, 2, none⟩ (.int .i64 t3)) := ⟨_, rfl⟩
 refine skip_ (w1 := w9_) (by rfl) rfl ?_ ?_
 ·rw [hw]; go_simp; try rfl
 refine hK.out _ _ ?_
 clear hK K qf0 qf1 qf2 Q1 Q3 Q4
 have hge : w.heap.size ≤ gb1_ := (by have := HS.out; omega)
 have hkp : Kept w8_ w9_ (fun k_ => k_ = gb1_) := (by rw [hw]; exact (Kept.of_set (Kept.of_set (Kept.of_set (Kept.refl _ _) _ _) _ _) _ _))
 have hbb : Below w.heap.size w w9_ := (by rw [hw]; exact (bs_ (bs_ (bs_ HB.out hge) hge) hge))
 have hbx : w9_.heap[gb1_]? = some (.cells #[.int .i64 t1, .slice Ao2_0 t2.length co2_0, .int .i64 t3, .int .i64 a0_3, .slice A0_4 l0_4.length c0_4, .slice A0_5 l0_5.length c0_5, .slice A0_6 l0_6.length c0_6] 34 (0, 0)) := (by rw [hw]; exact (bp_ (cs := #[.int .i64 t1, .slice Ao2_0 t2.length co2_0, .int .i64 a0_2, .int .i64 a0_3, .slice A0_4 l0_4.length c0_4, .slice A0_5 l0_5.length c0_5, .slice A0_6 l0_6.length c0_6]) (bp_ (cs := #[.int .i64 t1, .slice A0_1 l0_1.length c0_1, .int .i64 a0_2, .int .i64 a0_3, .slice A0_4 l0_4.length c0_4, .slice A0_5 l0_5.length c0_5, .slice A0_6 l0_6.length c0_6]) (bp_ (cs := #[.int .i64 a0_0, .slice A0_1 l0_1.length c0_1, .int .i64 a0_2, .int .i64 a0_3, .slice A0_4 l0_4.length c0_4, .slice A0_5 l0_5.length c0_5, .slice A0_6 l0_6.length c0_6]) BK1.out 0 _ rfl) 1 _ rfl) 2 _ rfl))
 clear hw
 replace HK := A_.mk (HK.out.then_ hkp (fun k_ h_ => by have := HS.out; (try dsimp only at h_ ⊢); omega))
 replace HO0_4 := aSk HO0_4 hkp HS
 replace HO0_6 := aRk HO0_6 hkp HS
 replace HO2_0 := aSk HO2_0 hkp HS
 replace HO2_1 := aRk HO2_1 hkp HS
 replace HO8 := aSk HO8 hkp HS
 replace BK3 := aBk BK3 hkp HS
 replace BK4 := aBk BK4 hkp HS
 replace BK1 := A_.mk hbx
 replace HB := A_.mk hbb
 replace HS := aHs HS hkp.1
 clear hkp hbb hbx hge
 refine pd_ (i := 14) (N := some 38) #[T, T, T, T, T, T, T, T, T, T, T, T, T, T, T, F, F] rfl ?_
 refine pd_ (i := 15) (N := some 39) #[T, T, T, T, T, T, T, T, T, T, T, T, T, T, T, T, F] rfl ?_
 refine last_ (i := 16) (N := none) #[T, T, T, T, T, T, T, T, T, T, T, T, T, T, T, T, T] rfl rfl (by kernel_rfl) (by decide) (fun K hK => ?_)
 have Q1 := blk7_ BK1.out
 have Q3 := blk3_ BK3.out
 have Q4 := blk2_ BK4.out
 have qf0 := bf_ BK1.out 5
 obtain ⟨w10_, hw⟩ : ∃ q_ : World, q_ = (w9_.setCell ⟨gb1_, 5, none⟩ (.slice Ao8 y8.length co8)) := ⟨_, rfl⟩
 refine skip_ (w1 := w10_) (by rfl) rfl ?_ ?_
 ·rw [hw]; go_simp; try rfl
 refine hK.out _ _ ?_
 clear hK K qf0 Q1 Q3 Q4
 have hge : w.heap.size ≤ gb1_ := (by have := HS.out; omega)
 have hkp : Kept w9_ w10_ (fun k_ => k_ = gb1_) := (by rw [hw]; exact (Kept.of_set (Kept.refl _ _) _ _))
 have hbb : Below w.heap.size w w10_ := (by rw [hw]; exact (bs_ HB.out hge))
 have hbx : w10_.heap[gb1_]? = some (.cells #[.int .i64 t1, .slice Ao2_0 t2.length co2_0, .int .i64 t3, .int .i64 a0_3, .slice A0_4 l0_4.length c0_4, .slice Ao8 y8.length co8, .slice A0_6 l0_6.length c0_6] 34 (0, 0)) := (by rw [hw]; exact (bp_ (cs := #[.int .i64 t1, .slice Ao2_0 t2.length co2_0, .int .i64 t3, .int .i64 a0_3, .slice A0_4 l0_4.length c0_4, .slice A0_5 l0_5.length c0_5, .slice A0_6 l0_6.length c0_6]) BK1.out 5 _ rfl))
 clear hw
 replace HK := A_.mk (HK.out.then_ hkp (fun k_ h_ => by have := HS.out; (try dsimp only at h_ ⊢); omega))
 replace HO0_4 := aSk HO0_4 hkp HS
 replace HO0_6 := aRk HO0_6 hkp HS
 replace HO2_0 := aSk HO2_0 hkp HS
 replace HO2_1 := aRk HO2_1 hkp HS
 replace HO8 := aSk HO8 hkp HS
 replace BK3 := aBk BK3 hkp HS
 replace BK4 := aBk BK4 hkp HS
 replace BK1 := A_.mk hbx
 replace HB := A_.mk hbb
 replace HS := aHs HS hkp.1
 clear hkp hbb hbx hge
 refine done_ (by kernel_rfl) ?_
 have Q1 := blk7_ BK1.out
 have Q3 := blk3_ BK3.out
 have Q4 := blk2_ BK4.out
 go_wp2
 go_ret
 obtain ⟨f_, hf_⟩ : ∃ f_ : Nat → Nat, ∀ k_, f_ k_ = (if ((w1.heap.size ≤ k_ ∧ k_ < w2_.heap.size) ∧ f2_ k_ = 0) then 0 else (if ((w.heap.size ≤ k_ ∧ k_ < w1.heap.size) ∧ k_ ≠ gb1_ ∧ f0_ k_ = 1) then 1 else (if ((w.heap.size ≤ k_ ∧ k_ < w1.heap.size) ∧ k_ ≠ gb1_ ∧ f0_ k_ = 2) ∨ ((w11d_.heap.size ≤ k_ ∧ k_ < w7_.heap.size)) ∨ ((w7_.heap.size ≤ k_ ∧ k_ < w8_.heap.size)) then 2 else (if ((w.heap.size ≤ k_ ∧ k_ < w1.heap.size) ∧ k_ ≠ gb1_ ∧ f0_ k_ = 3) then 3 else 4)))) := ⟨fun k_ => (if ((w1.heap.size ≤ k_ ∧ k_ < w2_.heap.size) ∧ f2_ k_ = 0) then 0 else (if ((w.heap.size ≤ k_ ∧ k_ < w1.heap.size) ∧ k_ ≠ gb1_ ∧ f0_ k_ = 1) then 1 else (if ((w.heap.size ≤ k_ ∧ k_ < w1.heap.size) ∧ k_ ≠ gb1_ ∧ f0_ k_ = 2) ∨ ((w11d_.heap.size ≤ k_ ∧ k_ < w7_.heap.size)) ∨ ((w7_.heap.size ≤ k_ ∧ k_ < w8_.heap.size)) then 2 else (if ((w.heap.size ≤ k_ ∧ k_ < w1.heap.size) ∧ k_ ≠ gb1_ ∧ f0_ k_ = 3) then 3 else 4)))), fun _ => rfl⟩
 have hcol0_ : ∀ k_, (((w1.heap.size ≤ k_ ∧ k_ < w2_.heap.size) ∧ f2_ k_ = 0)) → ((w.heap.size ≤ k_ ∧ k_ < w10_.heap.size) ∧ k_ ≠ gb1_ ∧ f_ k_ = 0) := fun k_ hk_ => ⟨by have := HS.out; omega, by have := HS.out; omega, by rw [hf_]; have := HS.out; repeat' (first | omega | split)⟩
 have hcol1_ : ∀ k_, (((w.heap.size ≤ k_ ∧ k_ < w1.heap.size) ∧ k_ ≠ gb1_ ∧ f0_ k_ = 1)) → ((w.heap.size ≤ k_ ∧ k_ < w10_.heap.size) ∧ k_ ≠ gb1_ ∧ f_ k_ = 1) := fun k_ hk_ => ⟨by have := HS.out; omega, by have := HS.out; omega, by rw [hf_]; have := HS.out; repeat' (first | omega | split)⟩
 have hcol2_ : ∀ k_, (((w.heap.size ≤ k_ ∧ k_ < w1.heap.size) ∧ k_ ≠ gb1_ ∧ f0_ k_ = 2) ∨ ((w11d_.heap.size ≤ k_ ∧ k_ < w7_.heap.size)) ∨ ((w7_.heap.size ≤ k_ ∧ k_ < w8_.heap.size))) → ((w.heap.size ≤ k_ ∧ k_ < w10_.heap.size) ∧ k_ ≠ gb1_ ∧ f_ k_ = 2) := fun k_ hk_ => ⟨by have := HS.out; omega, by have := HS.out; omega, by rw [hf_]; have := HS.out; repeat' (first | omega | split)⟩
 have hcol3_ : ∀ k_, (((w.heap.size ≤ k_ ∧ k_ < w1.heap.size) ∧ k_ ≠ gb1_ ∧ f0_ k_ = 3)) → ((w.heap.size ≤ k_ ∧ k_ < w10_.heap.size) ∧ k_ ≠ gb1_ ∧ f_ k_ = 3) := fun k_ hk_ => ⟨by have := HS.out; omega, by have := HS.out; omega, by rw [hf_]; have := HS.out; repeat' (first | omega | split)⟩
 have hfk_ : ∀ k_, k_ < w1.heap.size → f_ k_ < 4 → k_ = gb1_ ∨ f0_ k_ < 4 := fun k_ h1_ h2_ => by have := HS.out; rw [hf_] at h2_; repeat' (first | omega | split at h2_)
 first | exact ⟨f_, _, _, _, _, rfl, BK1.out, Kd.S_mono HO2_0.out hcol0_, Kd.S_mono HO0_4.out hcol1_, Kd.S_mono HO8.out hcol2_, Kd.R_mono HO0_6.out hcol3_, hfk_, HB.out, HK.out⟩ | exact ⟨rfl, f_, _, _, _, _, BK1.out, Kd.S_mono HO2_0.out hcol0_, Kd.S_mono HO0_4.out hcol1_, Kd.S_mono HO8.out hcol2_, Kd.R_mono HO0_6.out hcol3_, hfk_, HB.out, HK.out⟩
/-! ### slices_Delete_32: function 34 (one element), told by hand -/
theorem R_cleared {α : Type} (d : Kd α) {W : World} {base e g n c : Nat} {ok : Nat → Prop} {xs : List α} (HO : d.R e W base ok (.slice (some ⟨g, 0, none⟩) n c) xs) (hn : n < c) (zs : List Value) (hz : zs.length = d.sz) :
  d.R e (W.setCells g (n * d.sz) zs) base ok (.slice (some ⟨g, 0, none⟩) n c) xs ∧ W.grownBy (W.setCells g (n * d.sz) zs) (some g) ∧ (∀ j, j < d.sz → (W.cell? ⟨g, n * d.sz + j, none⟩).isSome = true) ∧ (∀ j, W.frozen? ⟨g, j, none⟩ = false) := by
 obtain ⟨hl, hnc, _⟩ := Kd.R_reads' HO
 obtain ⟨hok, inner, hown, hr⟩ := HO
 rcases hown.2 with ⟨hv, _⟩ | ⟨g', cap', cur, hv, hb, hh, h3, hcm, hcs, htake⟩
 ·cases hv
 injection hv with ha _ hc
 injection ha with ha
 injection ha with hg
 subst hg; subst hc
 have hle : (n + 1) * d.sz ≤ c * d.sz := Nat.mul_le_mul_right _ hn
 rw [Nat.succ_mul] at hle
 obtain ⟨cur', h4, h5, h6⟩ := setCells_row zs (n * d.sz) W cur hh (by omega)
 obtain ⟨s1, s2, s3, s4⟩ := setCells_same g zs (n * d.sz) W
 have hfar : ∀ k', k' ≠ g → (W.setCells g (n * d.sz) zs).heap[k']? = W.heap[k']? := fun k' hk' => setCells_far zs _ k' hk'
 refine ⟨⟨hok, inner, ⟨hown.1, .inr ⟨g, c, cur', by rw [hl], hb, h4, h3, hcm, by rw [h5, hcs], ?_⟩⟩, hr.imp_ (fun p q hp => d.M_move (fun k' hk' => hfar k' (fun he => hk'.2 (by simp [Value.ownBlock, he]))) hp)⟩, ⟨s1, s2, s3, by rw [s4]; exact Nat.le_refl _, fun k' _ hk' => hfar k' (fun he => hk' (by rw [he]))⟩, fun j hj => ?_, fun j => bf_ hh _⟩
 ·rw [h6, ← htake, ← hl, List.append_assoc, List.take_append_of_le_length (by rw [List.length_take, Array.length_toList]; omega), List.take_take, Nat.min_self]
 ·rw [cell_of_row W g _ cur _ (0, 0) hh]
  simp
  omega
theorem S_cleared {α : Type} (d : Kd α) {W : World} {base e g n c : Nat} {ok : Nat → Prop} {xs : List α} (HO : Kd.S d e W base ok (.slice (some ⟨g, 0, none⟩) n c) xs) (hn : n < c) (zs : List Value) (hz : zs.length = d.sz) :
  Kd.S d e (W.setCells g (n * d.sz) zs) base ok (.slice (some ⟨g, 0, none⟩) n c) xs ∧ W.grownBy (W.setCells g (n * d.sz) zs) (some g) ∧ (∀ j, j < d.sz → (W.cell? ⟨g, n * d.sz + j, none⟩).isSome = true) ∧ (∀ j, W.frozen? ⟨g, j, none⟩ = false) := by
 obtain ⟨f, HR⟩ := HO
 obtain ⟨h1, h2, h3, h4⟩ := R_cleared (Kd.tag f d) HR hn zs hz
 exact ⟨⟨f, h1⟩, h2, h3, h4⟩
theorem run_clear_one {P : Program} (w : World) (t e ty : TypeId) (z : Value) (ht : P.underlying t = some (.slice e)) (hv : ∀ w, (zeroValue e).run P w = .ok z w) (zs : List Value) (hz : z.cells = zs.toArray) (h1 : ∀ u ∈ zs, u.oneCell' = true) (b o c : Nat)
  (hc : ∀ j, j < zs.length → (w.cell? ⟨b, o + j, none⟩).isSome = true) (hf : ∀ j, j < zs.length → w.frozen? ⟨b, o + j, none⟩ = false) :
  (Builtin.clear_ #[t] ty #[.slice (some ⟨b, o, none⟩) 1 c]).run P w = .ok (.tuple #[]) (w.setCells b o zs) := by
 have hzc : (Builtin.zeroCells z.cells 1).toList = zs := by
  rw [hz]
  simp [Builtin.zeroCells]
  apply List.ext_getElem
  ·simp
  ·intro i h1 h2
   simp at h1 ⊢
   simp [Nat.mod_eq_of_lt h2]
   rw [List.getElem?_eq_getElem h2]; rfl
 have hst := run_storeCells_cells (P := P) b o zs 0 w (by simpa using hc) (by simpa using hf) h1
 simp only [Nat.add_zero] at hst
 simp [Builtin.clear_, run_underlying ht, hv, hzc, hst]
set_option maxHeartbeats 8000000 in
set_option maxRecDepth 100000 in
theorem slices_Delete_32.calls (P0_ : Nat → Prop) (g n c : Nat) (l0 : List (List Int)) (i : Int) (w0 w : World) (hB : Below w0.heap.size w0 w) (ho : Kd.S (Kd.slice 3 (Kd.int .i64)) 32 w w0.heap.size P0_ (.slice (some ⟨g, 0, none⟩) n c) l0) (h0 : 0 ≤ i) (h1 : i < (n : Int)) :
  Calls Try.prog 34 #[.slice (some ⟨g, 0, none⟩) n c, .int .i64 i, .int .i64 (wrap64 (i + 1))] w fun e w' => e = .returned (.slice (some ⟨g, 0, none⟩) (n - 1) c) ∧ Kd.S (Kd.slice 3 (Kd.int .i64)) 32 w' w0.heap.size P0_ (.slice (some ⟨g, 0, none⟩) (n - 1) c) (l0.eraseIdx i.toNat) ∧ Below w0.heap.size w0 w' ∧ Kept w w' (fun k_ => k_ = g) := by
 obtain ⟨m, rfl⟩ : ∃ m : Nat, i = m := ⟨i.toNat, by omega⟩
 have hnc := (Kd.S_reads' ho).2.1
 have hcm : c ≤ 9223372036854775807 := by
  obtain ⟨f, _, inner, hown, _⟩ := ho
  rcases hown.2 with ⟨hv, _⟩ | ⟨g', cap', cur, hv, _, _, _, hcm, _⟩
  ·cases hv
  ·cases hv; exact hcm
 obtain ⟨p, rfl⟩ : ∃ p, n = p + 1 := ⟨n - 1, by omega⟩
 have hm : m < p + 1 := by omega
 have hm2 : m ≤ p := by omega
 have hw : wrap64 ((m : Int) + 1) = ((m + 1 : Nat) : Int) := by unfold wrap64; omega
 rw [hw]
 have hbase := hB.size
 have HO := A_.mk ho
 have HB := A_.mk hB
 have hne : ¬ m = m + 1 := by omega
 have hc1 : m + 1 ≤ p + 1 := hm
 have hc2 : m ≤ c := by omega
 have hc3 : m + 1 ≤ c := by omega
 have hc4 : m ≤ m + 1 := by omega
 have hc5 : m ≤ p + 1 := by omega
 have hi1 : (0 : Int) ≤ (m : Int) + 1 := by omega
 have hi2 : (m : Int) + 1 ≤ ((p + 1 : Nat) : Int) := by omega
 clear ho hB hw h0 h1
 go_enter Try.func34, Try.ntmps34
 go_wp2_with fail
 refine start_ (n := 8) (S := fun w' => True) (ds := []) #[F, F, F, F, F, F, F, F] (by kernel_rfl) rfl rfl trivial (fun hHeld => ?_)
 refine pd_ (i := 0) (N := some 20) #[T, F, F, F, F, F, F, F] rfl ?_
 refine pd_ (i := 1) (N := some 21) #[T, T, F, F, F, F, F, F] rfl ?_
 refine pd_ (i := 2) (N := some 22) #[T, T, T, F, F, F, F, F] rfl ?_
 refine pd_ (i := 3) (N := some 23) #[T, T, T, T, F, F, F, F] rfl ?_
 refine pd_ (i := 4) (N := some 24) #[T, T, T, T, T, F, F, F] rfl ?_
 refine pd_ (i := 5) (N := some 25) #[T, T, T, T, T, T, F, F] rfl ?_
 refine on_ (i := 6) (N := some 26) #[T, T, T, T, T, T, T, F] rfl (fun K hK => ?_)
 refine Kd.S_delete_step (Kd.slice 3 (Kd.int .i64)) w0.heap.size (by rfl) (.tmp 22) (.tmp 25) 29 32 rfl Try.underlying29 (by kernel_rfl) (g := g) (n := p + 1) (c := c) (k := m) (m := p - m) rfl rfl ?hA (by omega) (Kd.S_drew HO.out) hm (below_drew HB.out) hbase ?_
 case hA =>
  by_cases hz : c = m + 1
  ·rw [if_pos hz, if_pos hz]
  rw [if_neg hz, if_neg hz]; show _ = some (Addr.add ⟨g, 0, none⟩ ((m + 1) * 1)); rw [add_at, Nat.zero_add, Nat.mul_one]
 intro w1 ho hb hg
 refine hK.out _ _ trivial (fun hHeld => ?_)
 clear hK K
 refine nm_ ?_
 refine pd_ (i := 7) (N := some 0) #[T, T, T, T, T, T, T, T] rfl ?_
 refine done_ (by kernel_rfl) ?_
 have hpc : p < c := by omega
 rw [Nat.add_sub_cancel] at ho
 obtain ⟨hN2, hg2, hcs, hfr⟩ := S_cleared (Kd.slice 3 (Kd.int .i64)) ho hpc [.slice none 0 0] rfl
 simp only [show ((Kd.slice 3 (Kd.int .i64))).sz = 1 from rfl, Nat.mul_one] at hN2 hg2 hcs hfr
 have hcl : ∀ ty, (Builtin.clear_ #[29] ty #[.slice (some ⟨g, p, none⟩) 1 (c - p)]).run Try.prog w1 = .ok (.tuple #[]) (w1.setCells g (p) [.slice none 0 0]) :=
  fun ty => run_clear_one w1 29 32 ty (.slice none 0 0) Try.underlying29 (fun _ => by kernel_rfl) [.slice none 0 0] rfl (by decide) g (p) (c - p) (fun j hj => hcs j hj) (fun j hj => hfr _)
 replace hN2 : Kd.S (Kd.slice 3 (Kd.int .i64)) 32 (w1.setCells g (p) [.slice none 0 0]) w0.heap.size P0_ (.slice (some ⟨g, 0, none⟩) p c) (l0.eraseIdx m) := hN2
 replace hg2 : w1.grownBy (w1.setCells g (p) [.slice none 0 0]) (some g) := hg2
 generalize w1.setCells g (p) [.slice none 0 0] = W2 at hN2 hg2 hcl
 have HN := A_.mk hN2
 have HG := A_.mk hg
 have HG2 := A_.mk hg2
 have HB2 := A_.mk (hb.grown hg2 (Nat.le_trans hbase hg.size) (fun k hk => by injection hk with hk; subst hk; exact (Kd.S_base ho) _ (by simp [Value.ownBlock])))
 have hp1 : p ≤ c := by omega
 have hp2 : p + 1 ≤ c := by omega
 have hp3 : p ≤ p + 1 := by omega
 have hp4 : ¬ c = p := by omega
 clear hN2 hg hg2 hcs hfr ho hb
 go_wp2
 all_goals (go_ret; first | exact ⟨rfl, HN.out, HB2.out, Kept.of_grown HG2.out (Kept.of_grown HG.out (Kept.drew (Kept.refl w _)) (fun k hk => .inl (by injection hk with hk; exact hk.symm))) (fun k hk => .inl (by injection hk with hk; exact hk.symm))⟩ | (subst h; exact ⟨rfl, HN.out, HB2.out, Kept.of_grown HG2.out (Kept.of_grown HG.out (Kept.drew (Kept.refl w _)) (fun k hk => .inl (by injection hk with hk; exact hk.symm))) (fun k hk => .inl (by injection hk with hk; exact hk.symm))⟩))
/-! ### impl_NextSeq: function 51 -/
def impl_NextSeq.f (a0 : Int) : Option (Int) := (impl_IsSeq.f a0).bind fun t266 => (if t266 = true then (some (Int.tmod (wrap64 (a0 + 1)) 16)) else (some (-1)))
set_option maxHeartbeats 8000000 in
set_option maxRecDepth 100000 in
theorem impl_NextSeq.calls (a0 : Int) (r : Int) (w : World) (h : impl_NextSeq.f a0 = some r) :
  Calls Try.prog 51 #[.int .i64 a0] w fun e w' => e = .returned (.int .i64 r) ∧ Drawn0 w w' := by
 have H : ((impl_IsSeq.f a0).bind fun t266 => (if t266 = true then (some (Int.tmod (wrap64 (a0 + 1)) 16)) else (some (-1)))) = some r := h
 clear h
 replace H := ob_ H
 obtain ⟨t266, A20, H⟩ := H
 have A2 := A_.mk A20
 clear A20
 by_cases c3 : t266 = true
 ·subst c3
  have H1 : (some (Int.tmod (wrap64 (a0 + 1)) 16)) = some r := by rw [if_pos rfl] at H; exact H
  clear H
  have H := H1
  clear H1
  obtain rfl := Option.some.inj H
  go_enter Try.func51, Try.ntmps51
  go_wp2_with (first | ((with_reducible refine gc_ (f := 30) rfl ?_); refine gl_ (some 4) Try.func30 #[.int .i64 a0] ?_; (with_reducible refine (impl_IsSeq.calls a0 true _ A2.out).mono ?_); rintro e w' ⟨rfl, ⟨nd, rfl⟩⟩; refine ⟨_, rfl, ?_⟩))
  go_ret
  exact ⟨by first | rfl | (simp; done) | (simp [*]; done), by repeat (first | exact Drawn0.refl _ | apply Drawn0.step)⟩
 ·replace c3 := Bool.eq_false_iff.mpr c3
  subst c3
  have H1 : (some (-1)) = some r := by rw [if_neg (show ¬ (false = true) by decide)] at H; exact H
  clear H
  have H := H1
  clear H1
  obtain rfl := Option.some.inj H
  go_enter Try.func51, Try.ntmps51
  go_wp2_with (first | ((with_reducible refine gc_ (f := 30) rfl ?_); refine gl_ (some 4) Try.func30 #[.int .i64 a0] ?_; (with_reducible refine (impl_IsSeq.calls a0 false _ A2.out).mono ?_); rintro e w' ⟨rfl, ⟨nd, rfl⟩⟩; refine ⟨_, rfl, ?_⟩))
  go_ret
  exact ⟨by first | rfl | (simp; done) | (simp [*]; done), by repeat (first | exact Drawn0.refl _ | apply Drawn0.step)⟩

/-! ### slices_Equal_int_int: function 66 -/
def slices_Equal_int_int.l0 : Nat → List Int → List Int → Int → Int → Option (Bool)
 | 0, _, _, _, _ => none
 | k + 1, x0, x1, x12, x13 => if x13 < x12 then (if 0 ≤ x13 then (if x13 < (x0.length : Int) then (if x13 < (x1.length : Int) then (if (rd x0 x13) = (rd x1 x13) then (slices_Equal_int_int.l0 k x0 x1 x12 (wrap64 (x13 + 1))) else (some false)) else (none)) else (none)) else (none)) else (some true)
def slices_Equal_int_int.f (k : Nat) (l0 : List Int) (l1 : List Int) : Option (Bool) := if (l0.length : Int) = (l1.length : Int) then (slices_Equal_int_int.l0 k l0 l1 (l0.length : Int) 0) else (some false)
set_option maxHeartbeats 8000000 in
set_option maxRecDepth 100000 in
theorem slices_Equal_int_int.calls (k : Nat) (A0 : Option Addr) (c0 : Nat) (l0 : List Int) (A1 : Option Addr) (c1 : Nat) (l1 : List Int) (r : Bool) (w : World) (hr0 : Kd.C (Kd.int .i64) w A0 l0.length l0) (hc0 : l0.length ≤ c0) (hr1 : Kd.C (Kd.int .i64) w A1 l1.length l1) (hc1 : l1.length ≤ c1) (h : slices_Equal_int_int.f k l0 l1 = some r) :
  Calls Try.prog 66 #[.slice A0 l0.length c0, .slice A1 l1.length c1] w fun e w' => e = .returned (.bool r) ∧ Drawn0 w w' := by
 have HR0 := A_.mk hr0
 have HC0 := A_.mk hc0
 clear hr0 hc0
 have HR1 := A_.mk hr1
 have HC1 := A_.mk hc1
 clear hr1 hc1
 have H : (if (l0.length : Int) = (l1.length : Int) then (slices_Equal_int_int.l0 k l0 l1 (l0.length : Int) 0) else (some false)) = some r := h
 clear h
 by_cases c3 : (l0.length : Int) = (l1.length : Int)
 rotate_left
 ·rw [if_neg c3] at H
  have c3b0 : ((l0.length : Int) == (l1.length : Int)) = false := beq_eq_false_iff_ne.mpr c3
  have c3b1 : ((l0.length : Int) != (l1.length : Int)) = true := bne_iff_ne.mpr c3
  have c3b2 : (l0.length == l1.length) = false := by first | simpa using c3 | (simp at c3 ⊢; omega)
  obtain rfl := Option.some.inj H
  go_enter Try.func66, Try.ntmps66
  go_wp2
  repeat (go_quiet (fail); try go_wp2)
  go_ret
  exact ⟨by first | rfl | (simp; done) | (simp [*]; done), by repeat (first | exact Drawn0.refl _ | apply Drawn0.step)⟩
 rw [if_pos c3] at H
 have c3b0 : ((l0.length : Int) == (l1.length : Int)) = true := beq_iff_eq.mpr c3
 have c3b1 : ((l0.length : Int) != (l1.length : Int)) = false := bne_eq_false_iff_eq.mpr c3
 have c3b2 : (l0.length == l1.length) = true := by first | simpa using c3 | (simp at c3 ⊢; omega)
 clear c3
 have H' := A_.mk H
 clear H
 go_enter Try.func66, Try.ntmps66
 go_wp2
 repeat (go_quiet (fail); try go_wp2)
 go_loopg [13] k (fun kq v13 w' => ∃ (x13_1 : Int), v13 = .int .i64 x13_1 ∧ A_ (slices_Equal_int_int.l0 kq l0 l1 (l0.length : Int) x13_1 = some r) ∧ A_ (kq ≤ k) ∧ Drawn0 w w')
 case atStart => exact ⟨(0), (by first | rfl | (simp; done) | (simp [*]; done)), H', ⟨Nat.le_refl _⟩, by repeat (first | exact Drawn0.refl _ | apply Drawn0.step)⟩
 case round =>
  clear H'
  obtain ⟨x13_1, rfl, HA, HK1, ⟨m1, rfl⟩⟩ := hrel
  cases gk with
  | zero => exact absurd HA.out (by simp [slices_Equal_int_int.l0])
  | succ k1 =>
   have H := HA.out
   clear HA
   simp only [slices_Equal_int_int.l0] at H
   by_cases c4 : x13_1 < (l0.length : Int)
   rotate_left
   ·rw [if_neg c4] at H
    have c4b0 : decide (x13_1 < (l0.length : Int)) = false := decide_eq_false c4
    clear c4
    obtain rfl := Option.some.inj H
    go_wp2
    repeat (go_quiet (fail); try go_wp2)
    go_ret
    exact ⟨by first | rfl | (simp; done) | (simp [*]; done), by repeat (first | exact Drawn0.refl _ | apply Drawn0.step)⟩
   rw [if_pos c4] at H
   have c4b0 : decide (x13_1 < (l0.length : Int)) = true := decide_eq_true c4
   clear c4
   by_cases c5 : 0 ≤ x13_1
   rotate_left
   ·rw [if_neg c5] at H
    exact absurd H (by simp)
   rw [if_pos c5] at H
   have c5b0 : decide (0 ≤ x13_1) = true := decide_eq_true c5
   clear c5
   by_cases c6 : x13_1 < (l0.length : Int)
   rotate_left
   ·rw [if_neg c6] at H
    exact absurd H (by simp)
   rw [if_pos c6] at H
   have c6b0 : decide (x13_1 < (l0.length : Int)) = true := decide_eq_true c6
   clear c6
   by_cases c7 : x13_1 < (l1.length : Int)
   rotate_left
   ·rw [if_neg c7] at H
    exact absurd H (by simp)
   rw [if_pos c7] at H
   have c7b0 : decide (x13_1 < (l1.length : Int)) = true := decide_eq_true c7
   clear c7
   by_cases c8 : (rd l0 x13_1) = (rd l1 x13_1)
   rotate_left
   ·rw [if_neg c8] at H
    have c8b0 : ((rd l0 x13_1) == (rd l1 x13_1)) = false := beq_eq_false_iff_ne.mpr c8
    have c8b1 : ((rd l0 x13_1) != (rd l1 x13_1)) = true := bne_iff_ne.mpr c8
    obtain rfl := Option.some.inj H
    have p267 : 0 ≤ (x13_1 : Int) := od_
    have q267 : x13_1 < (l0.length : Int) := od_
    obtain ⟨ad267, e267, hx267_0⟩ := Kd.at_int HR0.out x13_1 p267 q267
    cases e267
    replace p267 := eq_true p267
    replace q267 := eq_true q267
    have p268 : 0 ≤ (x13_1 : Int) := od_
    have q268 : x13_1 < (l1.length : Int) := od_
    obtain ⟨ad268, e268, hx268_0⟩ := Kd.at_int HR1.out x13_1 p268 q268
    cases e268
    replace p268 := eq_true p268
    replace q268 := eq_true q268
    go_wp2
    repeat (go_quiet (fail); try go_wp2)
    go_ret
    exact ⟨by first | rfl | (simp; done) | (simp [*]; done), by repeat (first | exact Drawn0.refl _ | apply Drawn0.step)⟩
   rw [if_pos c8] at H
   have c8b0 : ((rd l0 x13_1) == (rd l1 x13_1)) = true := beq_iff_eq.mpr c8
   have c8b1 : ((rd l0 x13_1) != (rd l1 x13_1)) = false := bne_eq_false_iff_eq.mpr c8
   clear c8
   have H' := A_.mk H
   clear H
   have p267 : 0 ≤ (x13_1 : Int) := od_
   have q267 : x13_1 < (l0.length : Int) := od_
   obtain ⟨ad267, e267, hx267_0⟩ := Kd.at_int HR0.out x13_1 p267 q267
   cases e267
   replace p267 := eq_true p267
   replace q267 := eq_true q267
   have p268 : 0 ≤ (x13_1 : Int) := od_
   have q268 : x13_1 < (l1.length : Int) := od_
   obtain ⟨ad268, e268, hx268_0⟩ := Kd.at_int HR1.out x13_1 p268 q268
   cases e268
   replace p268 := eq_true p268
   replace q268 := eq_true q268
   go_wp2
   repeat (go_quiet (fail); try go_wp2)
   go_roundg k1
   case measure => have := HK1.out; omega
   case rel => exact ⟨(wrap64 (x13_1 + 1)), (by first | rfl | (simp; done) | (simp [*]; done)), H', ⟨by have := HK1.out; omega⟩, by repeat (first | exact Drawn0.refl _ | apply Drawn0.step)⟩
end Go.Proofs.Ytflopendlbciaaa.PFnLinkOnce
