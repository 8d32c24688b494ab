-- Written by a program of this session (wip/xp): not trusted, Lean checks it.
import Derived.Test.YtmdehehgmnihpaaPFnLinkStepsx0
import Derived.Test.YtmdehehgmnihpaaPFnLinkStepsx1
import Derived.Test.YtmdehehgmnihpaaPFnLinkStepsx3
import Derived.Test.YtmdehehgmnihpaaPFnLinkStepsx4
import Derived.Test.YtmdehehgmnihpaaPFnLinkStepsx14
import Derived.Test.YtmdehehgmnihpaaPFnLinkStepsx15
namespace Go.Proofs.Ytmdehehgmnihpaa.PFnLinkSteps
open Go.RowKit Go.Proofs.YtmdehehgmnihpaaW.PrintWords Go.Proofs.YtmdehehgmnihpaaW.PrintLast Go.Proofs.YtmdehehgmnihpaaW.PrintMore
attribute [local go_sem] max2_int min2_int max_two min_two max_three min_three max_four min_four   -- for this text's walks alone
set_option linter.unusedVariables false
set_option linter.unusedSimpArgs false

/-! ### laws_FnLinkSteps: function 3, all its calls in a row -/
def laws_FnLinkSteps.f (k : Nat) (l0 : List Int) : Option (Bool) := ((laws_big.f l0).bind fun t1 => (if t1 = true then (some true) else ((spec_DrawLinkActs.f k l0).bind fun t2 => ((impl_NewLink.f).bind fun ⟨t3, t4, t5, t6, t7, t8, t9⟩ => ((impl_RunLink.f k t3 t4 t5 t6 t7 t8 t9 t2).bind fun ⟨t10, t11, t12, t13, t14, t15, t16, t17⟩ => ((impl_LinkOk.f k t10 t11 t12 t13 t14 t15 t16).bind fun t18 => (if t18 = true then (if 0 ≤ t17 then (if t17 ≤ (t2.length : Int) then ((impl_DrainLink.f k t10 t11 t12 t13 t14 t15 t16).bind fun ⟨t19, t20, t21, t22, t23, t24, t25⟩ => ((impl_LinkOk.f k t19 t20 t21 t22 t23 t24 t25).bind fun t26 => (if t26 = true then (some true) else (some false)))) else (some false)) else (some false)) else (some false))))))))
set_option maxHeartbeats 8000000 in
set_option maxRecDepth 100000 in
theorem laws_FnLinkSteps.calls (k : Nat) (A0 : Option Addr) (c0 : Nat) (l0 : List Int) (r : Bool) (w : World) (hr0 : Kd.C (Kd.int .u8) w A0 l0.length l0) (hc0 : l0.length ≤ c0) (hrt : A_ (r = true)) (h : laws_FnLinkSteps.f k l0 = some r) :
  Calls Try.prog 3 #[.slice A0 l0.length c0] w fun e w' => e = .returned (.bool r) ∧ Below w.heap.size w w' := by
 have HR0 := A_.mk hr0
 have HC0 := A_.mk hc0
 clear hr0 hc0
 obtain rfl := hrt.out
 clear hrt
 have HB := A_.mk (Below.refl w.heap.size w)
 unfold laws_FnLinkSteps.f at h
 have H := h
 clear h
 replace H := oa_ H
 obtain ⟨t1, A1, H⟩ := H
 replace H := A_.mk H
 have hu34 := Try.underlying34
 go_enter Try.func3, Try.ntmps3
 have HS := A_.mk (Nat.le_refl w.heap.size)
 go_wp2_with (fail)
 (with_reducible refine (laws_big.calls _ _ l0 t1 _ (Kd.C_below HR0.out HB.out) HC0.out A1.out).mono ?_)
 rintro e w1_ ⟨rfl, hb⟩
 replace hb := Drawn0.below hb
 replace HS := aHs HS hb.size
 replace HB := aHB HB hb
 clear hb 
 replace H := H.out
 by_cases hc1_ : t1 = true
 case pos =>
  rw [if_pos hc1_] at H
  subst hc1_
  clear H
  go_wp2
  go_ret
  exact ⟨rfl, HB.out⟩
 rw [if_neg hc1_] at H
 replace hc1_ := eq_false_of_ne_true hc1_
 subst hc1_
 replace H := oa_ H
 obtain ⟨t2, A2, H⟩ := H
 replace H := oa_ H
 obtain ⟨⟨t3, t4, t5, t6, t7, t8, t9⟩, A3, H⟩ := H
 try dsimp only at H
 replace H := oa_ H
 obtain ⟨⟨t10, t11, t12, t13, t14, t15, t16, t17⟩, A4, H⟩ := H
 try dsimp only at H
 replace H := oa_ H
 obtain ⟨t18, A7, H⟩ := H
 replace H := A_.mk H
 go_wp2_with (fail)
 (with_reducible refine (spec_DrawLinkActs.calls k _ _ l0 t2 _ (Kd.C_below HR0.out HB.out) HC0.out A2.out).mono ?_)
 rintro e w2_ ⟨v0_, rfl, ho0_, hb⟩
 replace HS := aHs HS hb.size
 obtain ⟨Ao2_0, co2_0, ev_⟩ := Kd.R_slice ho0_
 subst ev_
 have HO2_0 := aRm ho0_ HB.out.size
 replace HB := aHB HB hb
 clear hb ho0_
 go_wp2_with (first | ((with_reducible refine gc_ (f := 7) rfl ?_); refine gl_ (some 11) Try.func7 #[] ?_; (with_reducible refine (impl_NewLink.calls t3 t4 t5 t6 t7 t8 t9 _ A3.out).mono ?_); rintro e w3_ ⟨v1_, v4_, v5_, v6_, rfl, ho0_, ho1_, ho2_, ho3_, hb⟩; refine ⟨_, rfl, ?_⟩; replace HS := aHs HS hb.size; obtain ⟨Ao3_1, co3_1, ev_⟩ := Kd.S_slice ho0_; subst ev_; have HO3_1 := aSm ho0_ HB.out.size; obtain ⟨Ao3_4, co3_4, ev_⟩ := Kd.S_slice ho1_; subst ev_; have HO3_4 := aSm ho1_ HB.out.size; obtain ⟨Ao3_5, co3_5, ev_⟩ := Kd.S_slice ho2_; subst ev_; have HO3_5 := aSm ho2_ HB.out.size; obtain ⟨Ao3_6, co3_6, ev_⟩ := Kd.R_slice ho3_; subst ev_; have HO3_6 := aRm ho3_ HB.out.size; replace HO2_0 := aRb HO2_0 hb; replace HB := aHB HB hb; clear hb ho0_ ho1_ ho2_ ho3_) | ((with_reducible refine gc_ (f := 6) rfl ?_); refine gl_ (some 13) Try.func6 #[.agg #[.int .i64 t3, .slice Ao3_1 t4.length co3_1, .int .i64 t5, .int .i64 t6, .slice Ao3_4 t7.length co3_4, .slice Ao3_5 t8.length co3_5, .slice Ao3_6 t9.length co3_6], .slice Ao2_0 t2.length co2_0] ?_; (with_reducible refine (impl_RunLink.calls k t3 _ _ t4 t5 t6 _ _ t7 _ _ t8 _ _ t9 _ _ t2 t10 t11 t12 t13 t14 t15 t16 t17 _ (Kd.S_reads' HO3_1.out).2.2 (Kd.S_reads' HO3_1.out).2.1 (Kd.S_reads' HO3_4.out).2.2 (Kd.S_reads' HO3_4.out).2.1 (Kd.S_reads' HO3_5.out).2.2 (Kd.S_reads' HO3_5.out).2.1 (Kd.R_reads' HO3_6.out).2.2 (Kd.R_reads' HO3_6.out).2.1 (Kd.R_reads' HO2_0.out).2.2 (Kd.R_reads' HO2_0.out).2.1 A4.out).mono ?_); rintro e w4_ ⟨f4_, v0_, v1_, v2_, v3_, rfl, ho0_, ho1_, ho2_, ho3_, hb⟩; refine ⟨_, rfl, ?_⟩; replace HS := aHs HS hb.size; obtain ⟨Ao4_0, co4_0, ev_⟩ := Kd.S_slice ho0_; subst ev_; have HO4_0 := aSn ho0_ HB.out.size; obtain ⟨Ao4_1, co4_1, ev_⟩ := Kd.S_slice ho1_; subst ev_; have HO4_1 := aSn ho1_ HB.out.size; obtain ⟨Ao4_2, co4_2, ev_⟩ := Kd.S_slice ho2_; subst ev_; have HO4_2 := aSn ho2_ HB.out.size; obtain ⟨Ao4_3, co4_3, ev_⟩ := Kd.R_slice ho3_; subst ev_; have HO4_3 := aRn ho3_ HB.out.size; replace HO2_0 := aRb HO2_0 hb; replace HO3_1 := aSb HO3_1 hb; replace HO3_4 := aSb HO3_4 hb; replace HO3_5 := aSb HO3_5 hb; replace HO3_6 := aRb HO3_6 hb; replace HB := aHB HB hb; clear hb ho0_ ho1_ ho2_ ho3_) | ((with_reducible refine gd_ (N := 4) rfl ?_); refine by_ 4 (cs := #[.int .i64 0, .slice none 0 0, .int .i64 0, .int .i64 0, .slice none 0 0, .slice none 0 0, .slice none 0 0]) (t := 34) ?_; intro gb5_ hg w5_ hbox hb; replace HS := A_.mk (And.intro HS.out (show gb5_ = w4_.heap.size ∧ gb5_ < w5_.heap.size from ⟨hg, blk_lt hbox⟩)); replace HO4_0 := aSb HO4_0 hb; replace HO4_1 := aSb HO4_1 hb; replace HO4_2 := aSb HO4_2 hb; replace HO4_3 := aRb HO4_3 hb; replace HB := aHB HB hb; have BK5 := A_.mk hbox; clear hbox hb hg; have Q5 := blk7_ BK5.out) | ((with_reducible refine gate_store (t := 34) (p := 4) rfl ?_); have qf0 := bf_ BK5.out 0; have qf1 := bf_ BK5.out 1; have qf2 := bf_ BK5.out 2; have qf3 := bf_ BK5.out 3; have qf4 := bf_ BK5.out 4; have qf5 := bf_ BK5.out 5; have qf6 := bf_ BK5.out 6; refine se_ (t := 34) (p := 4) (v := ?vo_6) (w1 := (ch7_ w5_ gb5_ (.int .i64 t10) (.slice Ao4_0 t11.length co4_0) (.int .i64 t12) (.int .i64 t13) (.slice Ao4_1 t14.length co4_1) (.slice Ao4_2 t15.length co4_2) (.slice Ao4_3 t16.length co4_3))) ?hg ?ho ?hn ?hr ?_; (case ho => rfl); (case hg => rfl); (case hn => rfl); (case hr => first | (go_simp; done) | (go_simp; rfl)); intro w6_ hw; clear qf0 qf1 qf2 qf3 qf4 qf5 qf6; obtain ⟨hbx, hkp, hbb⟩ := st7_ hw BK5 HB (by have := HS.out; omega); clear hw; replace HO4_0 := aSk HO4_0 hkp HS; replace HO4_1 := aSk HO4_1 hkp HS; replace HO4_2 := aSk HO4_2 hkp HS; replace HO4_3 := aRk HO4_3 hkp HS; replace BK5 := A_.mk hbx; replace HB := A_.mk hbb; replace HS := aHs HS hkp.1; clear hkp hbb hbx Q5; have Q5 := blk7_ BK5.out))
 (with_reducible refine (impl_LinkOk.calls k t10 _ _ t11 t12 t13 _ _ t14 _ _ t15 _ _ t16 t18 _ (Kd.S_reads' HO4_0.out).2.2 (Kd.S_reads' HO4_0.out).2.1 (Kd.S_reads' HO4_1.out).2.2 (Kd.S_reads' HO4_1.out).2.1 (Kd.S_reads' HO4_2.out).2.2 (Kd.S_reads' HO4_2.out).2.1 (Kd.R_reads' HO4_3.out).2.2 (Kd.R_reads' HO4_3.out).2.1 A7.out).mono ?_)
 rintro e w7_ ⟨rfl, hb⟩
 replace HS := aHs HS hb.size
 replace HO4_0 := aSb HO4_0 hb
 replace HO4_1 := aSb HO4_1 hb
 replace HO4_2 := aSb HO4_2 hb
 replace HO4_3 := aRb HO4_3 hb
 replace BK5 := aBb BK5 hb
 replace HB := aHB HB hb
 clear hb  Q5
 have Q5 := blk7_ BK5.out
 replace H := H.out
 by_cases hc2_ : t18 = true
 case neg =>
  rw [if_neg hc2_] at H
  replace hc2_ := eq_false_of_ne_true hc2_
  subst hc2_
  exact absurd H (by simp)
 rw [if_pos hc2_] at H
 subst hc2_
 by_cases hc3_ : 0 ≤ t17
 case neg =>
  rw [if_neg hc3_] at H
  have hc3_b0 : decide (0 ≤ t17) = false := decide_eq_false hc3_
  replace hc3_ := A_.mk hc3_
  exact absurd H (by simp)
 rw [if_pos hc3_] at H
 have hc3_b0 : decide (0 ≤ t17) = true := decide_eq_true hc3_
 replace hc3_ := A_.mk hc3_
 by_cases hc4_ : t17 ≤ (t2.length : Int)
 case neg =>
  rw [if_neg hc4_] at H
  have hc4_b0 : decide (t17 ≤ (t2.length : Int)) = false := decide_eq_false hc4_
  have hc4_b1 : decide (t17 ≤ t2.length) = false := decide_eq_false (by omega)
  exact absurd H (by simp)
 rw [if_pos hc4_] at H
 have hc4_b0 : decide (t17 ≤ (t2.length : Int)) = true := decide_eq_true hc4_
 have hc4_b1 : decide (t17 ≤ t2.length) = true := decide_eq_true (by omega)
 replace H := oa_ H
 obtain ⟨⟨t19, t20, t21, t22, t23, t24, t25⟩, A8, H⟩ := H
 try dsimp only at H
 replace H := oa_ H
 obtain ⟨t26, A9, H⟩ := H
 replace H := A_.mk H
 go_wp2_with (fail)
 (with_reducible refine (impl_DrainLink.calls k t10 _ _ t11 t12 t13 _ _ t14 _ _ t15 _ _ t16 t19 t20 t21 t22 t23 t24 t25 _ (Kd.S_reads' HO4_0.out).2.2 (Kd.S_reads' HO4_0.out).2.1 (Kd.S_reads' HO4_1.out).2.2 (Kd.S_reads' HO4_1.out).2.1 (Kd.S_reads' HO4_2.out).2.2 (Kd.S_reads' HO4_2.out).2.1 (Kd.R_reads' HO4_3.out).2.2 (Kd.R_reads' HO4_3.out).2.1 A8.out).mono ?_)
 rintro e w8_ ⟨f8_, v0_, v1_, v2_, v3_, rfl, ho0_, ho1_, ho2_, ho3_, hb⟩
 replace HS := aHs HS hb.size
 obtain ⟨Ao8_0, co8_0, ev_⟩ := Kd.S_slice ho0_
 subst ev_
 have HO8_0 := aSn ho0_ HB.out.size
 obtain ⟨Ao8_1, co8_1, ev_⟩ := Kd.S_slice ho1_
 subst ev_
 have HO8_1 := aSn ho1_ HB.out.size
 obtain ⟨Ao8_2, co8_2, ev_⟩ := Kd.S_slice ho2_
 subst ev_
 have HO8_2 := aSn ho2_ HB.out.size
 obtain ⟨Ao8_3, co8_3, ev_⟩ := Kd.R_slice ho3_
 subst ev_
 have HO8_3 := aRn ho3_ HB.out.size
 replace HO4_0 := aSb HO4_0 hb
 replace HO4_1 := aSb HO4_1 hb
 replace HO4_2 := aSb HO4_2 hb
 replace HO4_3 := aRb HO4_3 hb
 replace BK5 := aBb BK5 hb
 replace HB := aHB HB hb
 clear hb ho0_ ho1_ ho2_ ho3_ Q5
 have Q5 := blk7_ BK5.out
 go_wp2_with (fail)
 (with_reducible refine (impl_LinkOk.calls k t19 _ _ t20 t21 t22 _ _ t23 _ _ t24 _ _ t25 t26 _ (Kd.S_reads' HO8_0.out).2.2 (Kd.S_reads' HO8_0.out).2.1 (Kd.S_reads' HO8_1.out).2.2 (Kd.S_reads' HO8_1.out).2.1 (Kd.S_reads' HO8_2.out).2.2 (Kd.S_reads' HO8_2.out).2.1 (Kd.R_reads' HO8_3.out).2.2 (Kd.R_reads' HO8_3.out).2.1 A9.out).mono ?_)
 rintro e w9_ ⟨rfl, hb⟩
 replace HS := aHs HS hb.size
 replace HO8_0 := aSb HO8_0 hb
 replace HO8_1 := aSb HO8_1 hb
 replace HO8_2 := aSb HO8_2 hb
 replace HO8_3 := aRb HO8_3 hb
 replace BK5 := aBb BK5 hb
 replace HB := aHB HB hb
 clear hb  Q5
 have Q5 := blk7_ BK5.out
 replace H := H.out
 by_cases hc5_ : t26 = true
 case pos =>
  rw [if_pos hc5_] at H
  subst hc5_
  clear H
  go_wp2
  go_ret
  exact ⟨rfl, HB.out⟩
 rw [if_neg hc5_] at H
 replace hc5_ := eq_false_of_ne_true hc5_
 subst hc5_
 exact absurd H (by simp)
/-- THE ONE PURE STATEMENT of laws_FnLinkSteps. -/
def laws_FnLinkSteps.Pure : Prop := ∀ (l0 : List Int), (l0.length ≤ 9223372036854775807 ∧ ∀ e332 ∈ l0, (Lit.int .u8 e332).wf = true) → ∃ k, laws_FnLinkSteps.f k l0 = some true

end Go.Proofs.Ytmdehehgmnihpaa.PFnLinkSteps
