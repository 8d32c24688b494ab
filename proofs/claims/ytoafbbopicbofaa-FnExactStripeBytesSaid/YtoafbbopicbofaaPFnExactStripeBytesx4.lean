-- Written by a program of this session (wip/xp): not trusted, Lean checks it.
import Derived.Test.YtoafbbopicbofaaPFnExactStripeBytesx0
import Derived.Test.YtoafbbopicbofaaPFnExactStripeBytesx1
import Derived.Test.YtoafbbopicbofaaPFnExactStripeBytesx2
import Derived.Test.YtoafbbopicbofaaPFnExactStripeBytesx3
namespace Go.Proofs.Ytoafbbopicbofaa.PFnExactStripeBytes
open Go.RowKit Go.Proofs.YtoafbbopicbofaaW.PrintWords Go.Proofs.YtoafbbopicbofaaW.PrintLast Go.Proofs.YtoafbbopicbofaaW.PrintMore
attribute [local go_sem] max2_int min2_int max_two min_two max_three min_three max_four min_four   -- for this text's walks alone
set_option linter.unusedVariables false
set_option linter.unusedSimpArgs false

theorem if_true_ {c : Prop} [Decidable c] {a : Option Bool} (h : (if c then a else (some false)) = some true) : c ∧ a = some true := by
  by_cases hc : c
  · rw [if_pos hc] at h; exact ⟨hc, h⟩
  · rw [if_neg hc] at h; simp at h
theorem calls_cast {P : Program} {n : Nat} {a b : Array Value} {w : World} {Q : Ending → World → Prop} (h : a = b) (hc : Calls P n a w Q) : Calls P n b w Q := h ▸ hc

/-! ### laws_FnExactStripeBytes: function 3, all its calls in a row -/
def laws_FnExactStripeBytes.f (k : Nat) (l0 : List Int) (a1 : Int) : Option (Bool) := (if 1048576 < (l0.length : Int) then (some true) else ((laws_toIntS.f k l0).bind fun t1 => ((spec_StripeBytes.f k t1 a1).bind fun t2 => ((laws_toIntS.f k l0).bind fun t3 => ((impl_StripeBytes.f k t3 a1).bind fun t4 => ((laws_eqIntSS.f k t4 t2).bind fun t5 => (if t5 = true then ((laws_toIntS.f k l0).bind fun t6 => ((laws_eqIntS.f k t3 t6).bind fun t7 => (if t7 = true then ((laws_markIntS.f k t3 1).bind fun ⟨t8, t9⟩ => (if ¬ (t8 < 0) then ((laws_eqIntSS.f k t4 t2).bind fun t10 => (if t10 = true then ((laws_markIntSS.f k t4 1).bind fun ⟨t11, t12⟩ => ((laws_heldIntSS.f k t12 1).bind fun t13 => (if ¬ (t13 < 0) then (if t11 = t13 then ((laws_toIntS.f k l0).bind fun t14 => ((impl_StripeBytes.f k t14 a1).bind fun t15 => ((laws_eqIntSS.f k t15 t2).bind fun t16 => (if t16 = true then ((laws_heldIntSS.f k t12 1).bind fun t17 => (if ¬ (t17 < 0) then (if t11 = t17 then (some true) else (some false)) else (some false))) else (some false))))) else (some false)) else (some false)))) else (some false))) else (some false))) else (some false)))) else (some false))))))))
set_option maxHeartbeats 8000000 in
set_option maxRecDepth 100000 in
theorem laws_FnExactStripeBytes.calls (k : Nat) (A0 : Option Addr) (c0 : Nat) (l0 : List Int) (a1 : Int) (r : Bool) (w : World) (hr0 : Kd.C (Kd.int .i64) w A0 l0.length l0) (hc0 : l0.length ≤ c0) (hrt : Aside0 (r = true)) (h : laws_FnExactStripeBytes.f k l0 a1 = some r) :
    Calls Try.prog 3 #[.slice A0 l0.length c0, .int .i64 a1] w fun e w' => e = .returned (.bool r) ∧ Below w.heap.size w w' := by
  have HR0 := Aside0.mk hr0
  have HC0 := Aside0.mk hc0
  clear hr0 hc0
  obtain rfl := hrt.out
  clear hrt
  have HB := Aside0.mk (Below.refl w.heap.size w)
  unfold laws_FnExactStripeBytes.f at h
  have H := h
  clear h
  by_cases hc0_ : 1048576 < (l0.length : Int)
  case pos =>
    clear H
    have hc0_b0 : decide (1048576 < (l0.length : Int)) = true := decide_eq_true hc0_
    have hc0_b1 : decide (1048576 < l0.length) = true := decide_eq_true (by omega)
    clear hc0_
    go_enter Try.func3, Try.ntmps3
    go_wp2
    go_ret
    exact ⟨rfl, HB.out⟩
  rw [if_neg hc0_] at H
  have hc0_b0 : decide (1048576 < (l0.length : Int)) = false := decide_eq_false hc0_
  have hc0_b1 : decide (1048576 < l0.length) = false := decide_eq_false (by omega)
  clear hc0_
  replace H := Option.bind_eq_some_iff.mp H
  obtain ⟨t1, A1_0, H⟩ := H
  have A1 := Aside0.mk A1_0
  clear A1_0
  replace H := Option.bind_eq_some_iff.mp H
  obtain ⟨t2, A2_0, H⟩ := H
  have A2 := Aside0.mk A2_0
  clear A2_0
  replace H := Option.bind_eq_some_iff.mp H
  obtain ⟨t3, A3_0, H⟩ := H
  have A3 := Aside0.mk A3_0
  clear A3_0
  replace H := Option.bind_eq_some_iff.mp H
  obtain ⟨t4, A4_0, H⟩ := H
  have A4 := Aside0.mk A4_0
  clear A4_0
  replace H := Option.bind_eq_some_iff.mp H
  obtain ⟨t5, A5_0, H⟩ := H
  have A5 := Aside0.mk A5_0
  clear A5_0
  replace H := if_true_ H
  obtain ⟨hc34_, H⟩ := H
  subst hc34_
  replace H := Option.bind_eq_some_iff.mp H
  obtain ⟨t6, A6_0, H⟩ := H
  have A6 := Aside0.mk A6_0
  clear A6_0
  replace H := Option.bind_eq_some_iff.mp H
  obtain ⟨t7, A7_0, H⟩ := H
  have A7 := Aside0.mk A7_0
  clear A7_0
  replace H := if_true_ H
  obtain ⟨hc45_, H⟩ := H
  subst hc45_
  replace H := Option.bind_eq_some_iff.mp H
  obtain ⟨⟨t8, t9⟩, A8_0, H⟩ := H
  have A8 := Aside0.mk A8_0
  clear A8_0
  replace H := if_true_ H
  obtain ⟨hc52_, H⟩ := H
  have hc52_b0 : decide (t8 < 0) = false := decide_eq_false hc52_
  clear hc52_
  replace H := Option.bind_eq_some_iff.mp H
  obtain ⟨t10, A9_0, H⟩ := H
  have A9 := Aside0.mk A9_0
  clear A9_0
  replace H := if_true_ H
  obtain ⟨hc60_, H⟩ := H
  subst hc60_
  replace H := Option.bind_eq_some_iff.mp H
  obtain ⟨⟨t11, t12⟩, A10_0, H⟩ := H
  have A10 := Aside0.mk A10_0
  clear A10_0
  replace H := Option.bind_eq_some_iff.mp H
  obtain ⟨t13, A11_0, H⟩ := H
  have A11 := Aside0.mk A11_0
  clear A11_0
  replace H := if_true_ H
  obtain ⟨hc71_, H⟩ := H
  have hc71_b0 : decide (t13 < 0) = false := decide_eq_false hc71_
  clear hc71_
  replace H := if_true_ H
  obtain ⟨hc75_, H⟩ := H
  subst hc75_
  replace H := Option.bind_eq_some_iff.mp H
  obtain ⟨t14, A12_0, H⟩ := H
  have A12 := Aside0.mk A12_0
  clear A12_0
  replace H := Option.bind_eq_some_iff.mp H
  obtain ⟨t15, A13_0, H⟩ := H
  have A13 := Aside0.mk A13_0
  clear A13_0
  replace H := Option.bind_eq_some_iff.mp H
  obtain ⟨t16, A14_0, H⟩ := H
  have A14 := Aside0.mk A14_0
  clear A14_0
  replace H := if_true_ H
  obtain ⟨hc90_, H⟩ := H
  subst hc90_
  replace H := Option.bind_eq_some_iff.mp H
  obtain ⟨t17, A15_0, H⟩ := H
  have A15 := Aside0.mk A15_0
  clear A15_0
  replace H := if_true_ H
  obtain ⟨hc97_, H⟩ := H
  have hc97_b0 : decide (t17 < 0) = false := decide_eq_false hc97_
  clear hc97_
  replace H := if_true_ H
  obtain ⟨hc101_, H⟩ := H
  subst hc101_
  clear H
  go_enter Try.func3, Try.ntmps3
  go_wp2_with fail
  (with_reducible refine (laws_toIntS.calls k _ _ l0 t1 _ (Kd.C_below HR0.out HB.out) HC0.out A1.out).mono ?_)
  rintro e w1_ ⟨v0_, rfl, ho0_, hb⟩
  have hs1 := Aside0.mk hb.size
  obtain ⟨Ao1_0, co1_0, ev_⟩ := Kd.R_slice ho0_
  subst ev_
  have HO1_0 := Aside0.mk (Kd.R_lower (Kd.R_mono (ok' := (fun k_ => w.heap.size ≤ k_ ∧ k_ < w1_.heap.size)) (Kd.R_bound ho0_) (fun k_ hk_ => ⟨hk_.2.1, hk_.2.2.1⟩)) HB.out.size)
  replace HB := Aside0.mk (below_then HB.out HB.out.size hb)
  clear hb ho0_
  go_wp2_with fail
  (with_reducible refine (spec_StripeBytes.calls k _ _ t1 a1 t2 _ (Kd.R_reads' HO1_0.out).2.2 (Kd.R_reads' HO1_0.out).2.1 A2.out).mono ?_)
  rintro e w2_ ⟨v0_, rfl, ho0_, hb⟩
  have hs2 := Aside0.mk hb.size
  replace HO1_0 := Aside0.mk (Kd.R_below HO1_0.out hb)
  obtain ⟨Ao2_0, co2_0, ev_⟩ := Kd.S_slice ho0_
  subst ev_
  have HO2_0 := Aside0.mk (Kd.S_lower (Kd.S_mono (ok' := (fun k_ => w1_.heap.size ≤ k_ ∧ k_ < w2_.heap.size)) (Kd.S_bound ho0_) (fun k_ hk_ => ⟨hk_.2.1, hk_.2.2.1⟩)) HB.out.size)
  replace HB := Aside0.mk (below_then HB.out HB.out.size hb)
  clear hb ho0_
  go_wp2_with fail
  (with_reducible refine (laws_toIntS.calls k _ _ l0 t3 _ (Kd.C_below HR0.out HB.out) HC0.out A3.out).mono ?_)
  rintro e w3_ ⟨v0_, rfl, ho0_, hb⟩
  have hs3 := Aside0.mk hb.size
  replace HO1_0 := Aside0.mk (Kd.R_below HO1_0.out hb)
  replace HO2_0 := Aside0.mk (Kd.S_below HO2_0.out hb)
  obtain ⟨Ao3_0, co3_0, ev_⟩ := Kd.R_slice ho0_
  subst ev_
  have HO3_0 := Aside0.mk (Kd.R_lower (Kd.R_mono (ok' := (fun k_ => w2_.heap.size ≤ k_ ∧ k_ < w3_.heap.size)) (Kd.R_bound ho0_) (fun k_ hk_ => ⟨hk_.2.1, hk_.2.2.1⟩)) HB.out.size)
  replace HB := Aside0.mk (below_then HB.out HB.out.size hb)
  clear hb ho0_
  go_wp2_with fail
  (with_reducible refine (impl_StripeBytes.calls k _ _ t3 a1 t4 _ (Kd.R_reads' HO3_0.out).2.2 (Kd.R_reads' HO3_0.out).2.1 A4.out).mono ?_)
  rintro e w4_ ⟨v0_, rfl, ho0_, hb⟩
  have hs4 := Aside0.mk hb.size
  replace HO1_0 := Aside0.mk (Kd.R_below HO1_0.out hb)
  replace HO2_0 := Aside0.mk (Kd.S_below HO2_0.out hb)
  replace HO3_0 := Aside0.mk (Kd.R_below HO3_0.out hb)
  obtain ⟨Ao4_0, co4_0, ev_⟩ := Kd.S_slice ho0_
  subst ev_
  have HO4_0 := Aside0.mk (Kd.S_lower (Kd.S_mono (ok' := (fun k_ => w3_.heap.size ≤ k_ ∧ k_ < w4_.heap.size)) (Kd.S_bound ho0_) (fun k_ hk_ => ⟨hk_.2.1, hk_.2.2.1⟩)) HB.out.size)
  replace HB := Aside0.mk (below_then HB.out HB.out.size hb)
  clear hb ho0_
  go_wp2_with fail
  (with_reducible refine (laws_eqIntSS.calls k _ _ t4 _ _ t2 true _ (Kd.S_reads' HO4_0.out).2.2 (Kd.S_reads' HO4_0.out).2.1 (Kd.S_reads' HO2_0.out).2.2 (Kd.S_reads' HO2_0.out).2.1 A5.out).mono ?_)
  rintro e w5_ ⟨rfl, hb⟩
  replace hb := Drawn0.below hb
  have hs5 := Aside0.mk hb.size
  replace HO1_0 := Aside0.mk (Kd.R_below HO1_0.out hb)
  replace HO2_0 := Aside0.mk (Kd.S_below HO2_0.out hb)
  replace HO3_0 := Aside0.mk (Kd.R_below HO3_0.out hb)
  replace HO4_0 := Aside0.mk (Kd.S_below HO4_0.out hb)
  replace HB := Aside0.mk (below_then HB.out HB.out.size hb)
  clear hb 
  go_wp2_with fail
  (with_reducible refine (laws_toIntS.calls k _ _ l0 t6 _ (Kd.C_below HR0.out HB.out) HC0.out A6.out).mono ?_)
  rintro e w6_ ⟨v0_, rfl, ho0_, hb⟩
  have hs6 := Aside0.mk hb.size
  replace HO1_0 := Aside0.mk (Kd.R_below HO1_0.out hb)
  replace HO2_0 := Aside0.mk (Kd.S_below HO2_0.out hb)
  replace HO3_0 := Aside0.mk (Kd.R_below HO3_0.out hb)
  replace HO4_0 := Aside0.mk (Kd.S_below HO4_0.out hb)
  obtain ⟨Ao6_0, co6_0, ev_⟩ := Kd.R_slice ho0_
  subst ev_
  have HO6_0 := Aside0.mk (Kd.R_lower (Kd.R_mono (ok' := (fun k_ => w5_.heap.size ≤ k_ ∧ k_ < w6_.heap.size)) (Kd.R_bound ho0_) (fun k_ hk_ => ⟨hk_.2.1, hk_.2.2.1⟩)) HB.out.size)
  replace HB := Aside0.mk (below_then HB.out HB.out.size hb)
  clear hb ho0_
  go_wp2_with fail
  (with_reducible refine (laws_eqIntS.calls k _ _ t3 _ _ t6 true _ (Kd.R_reads' HO3_0.out).2.2 (Kd.R_reads' HO3_0.out).2.1 (Kd.R_reads' HO6_0.out).2.2 (Kd.R_reads' HO6_0.out).2.1 A7.out).mono ?_)
  rintro e w7_ ⟨rfl, hb⟩
  replace hb := Drawn0.below hb
  have hs7 := Aside0.mk hb.size
  replace HO1_0 := Aside0.mk (Kd.R_below HO1_0.out hb)
  replace HO2_0 := Aside0.mk (Kd.S_below HO2_0.out hb)
  replace HO3_0 := Aside0.mk (Kd.R_below HO3_0.out hb)
  replace HO4_0 := Aside0.mk (Kd.S_below HO4_0.out hb)
  replace HO6_0 := Aside0.mk (Kd.R_below HO6_0.out hb)
  replace HB := Aside0.mk (below_then HB.out HB.out.size hb)
  clear hb 
  go_wp2_with fail
  (with_reducible refine (laws_markIntS.calls k (fun k_ => w2_.heap.size ≤ k_ ∧ k_ < w3_.heap.size) (.slice Ao3_0 t3.length co3_0) t3 1 t8 t9 w _ HB.out HO3_0.out A8.out).mono ?_)
  rintro e w8_ ⟨rfl, ho0_, ho1_, hkp⟩
  have hs8 := Aside0.mk hkp.1
  replace HO1_0 := Aside0.mk (Kd.R_kept HO1_0.out hkp (fun k_ hk_ hs_ => by obtain ⟨hk1_, hk2_⟩ := hk_; obtain ⟨hs1_, hs2_⟩ := hs_; have := hs1.out; have := hs2.out; have := hs3.out; have := hs4.out; have := hs5.out; have := hs6.out; have := hs7.out; have := hs8.out; omega))
  replace HO2_0 := Aside0.mk (Kd.S_kept HO2_0.out hkp (fun k_ hk_ hs_ => by obtain ⟨hk1_, hk2_⟩ := hk_; obtain ⟨hs1_, hs2_⟩ := hs_; have := hs1.out; have := hs2.out; have := hs3.out; have := hs4.out; have := hs5.out; have := hs6.out; have := hs7.out; have := hs8.out; omega))
  replace HO4_0 := Aside0.mk (Kd.S_kept HO4_0.out hkp (fun k_ hk_ hs_ => by obtain ⟨hk1_, hk2_⟩ := hk_; obtain ⟨hs1_, hs2_⟩ := hs_; have := hs1.out; have := hs2.out; have := hs3.out; have := hs4.out; have := hs5.out; have := hs6.out; have := hs7.out; have := hs8.out; omega))
  replace HO6_0 := Aside0.mk (Kd.R_kept HO6_0.out hkp (fun k_ hk_ hs_ => by obtain ⟨hk1_, hk2_⟩ := hk_; obtain ⟨hs1_, hs2_⟩ := hs_; have := hs1.out; have := hs2.out; have := hs3.out; have := hs4.out; have := hs5.out; have := hs6.out; have := hs7.out; have := hs8.out; omega))
  replace HO3_0 := Aside0.mk (Kd.R_reok rfl ho0_ (fun k_ e_ => HO3_0.out.1 k_ e_))
  have LQHO3_0 := Aside0.mk (Kd.R_reads' HO3_0.out).1.symm
  replace HB := Aside0.mk ho1_
  clear hkp ho0_ ho1_
  go_wp2_with fail
  (with_reducible refine (laws_eqIntSS.calls k _ _ t4 _ _ t2 true _ (Kd.S_reads' HO4_0.out).2.2 (Kd.S_reads' HO4_0.out).2.1 (Kd.S_reads' HO2_0.out).2.2 (Kd.S_reads' HO2_0.out).2.1 A9.out).mono ?_)
  rintro e w9_ ⟨rfl, hb⟩
  replace hb := Drawn0.below hb
  have hs9 := Aside0.mk hb.size
  replace HO1_0 := Aside0.mk (Kd.R_below HO1_0.out hb)
  replace HO2_0 := Aside0.mk (Kd.S_below HO2_0.out hb)
  replace HO3_0 := Aside0.mk (Kd.R_below HO3_0.out hb)
  replace HO4_0 := Aside0.mk (Kd.S_below HO4_0.out hb)
  replace HO6_0 := Aside0.mk (Kd.R_below HO6_0.out hb)
  replace HB := Aside0.mk (below_then HB.out HB.out.size hb)
  clear hb 
  go_wp2_with fail
  (with_reducible refine (laws_markIntSS.calls k (fun k_ => w3_.heap.size ≤ k_ ∧ k_ < w4_.heap.size) (.slice Ao4_0 t4.length co4_0) t4 1 t11 t12 w _ HB.out HO4_0.out A10.out).mono ?_)
  rintro e w10_ ⟨rfl, ho0_, ho1_, hkp⟩
  have hs10 := Aside0.mk hkp.1
  replace HO1_0 := Aside0.mk (Kd.R_kept HO1_0.out hkp (fun k_ hk_ hs_ => by obtain ⟨hk1_, hk2_⟩ := hk_; obtain ⟨hs1_, hs2_⟩ := hs_; have := hs1.out; have := hs2.out; have := hs3.out; have := hs4.out; have := hs5.out; have := hs6.out; have := hs7.out; have := hs8.out; have := hs9.out; have := hs10.out; omega))
  replace HO2_0 := Aside0.mk (Kd.S_kept HO2_0.out hkp (fun k_ hk_ hs_ => by obtain ⟨hk1_, hk2_⟩ := hk_; obtain ⟨hs1_, hs2_⟩ := hs_; have := hs1.out; have := hs2.out; have := hs3.out; have := hs4.out; have := hs5.out; have := hs6.out; have := hs7.out; have := hs8.out; have := hs9.out; have := hs10.out; omega))
  replace HO3_0 := Aside0.mk (Kd.R_kept HO3_0.out hkp (fun k_ hk_ hs_ => by obtain ⟨hk1_, hk2_⟩ := hk_; obtain ⟨hs1_, hs2_⟩ := hs_; have := hs1.out; have := hs2.out; have := hs3.out; have := hs4.out; have := hs5.out; have := hs6.out; have := hs7.out; have := hs8.out; have := hs9.out; have := hs10.out; omega))
  replace HO6_0 := Aside0.mk (Kd.R_kept HO6_0.out hkp (fun k_ hk_ hs_ => by obtain ⟨hk1_, hk2_⟩ := hk_; obtain ⟨hs1_, hs2_⟩ := hs_; have := hs1.out; have := hs2.out; have := hs3.out; have := hs4.out; have := hs5.out; have := hs6.out; have := hs7.out; have := hs8.out; have := hs9.out; have := hs10.out; omega))
  replace HO4_0 := Aside0.mk ho0_
  have LQHO4_0 := Aside0.mk (Kd.S_reads' HO4_0.out).1.symm
  replace HB := Aside0.mk ho1_
  clear hkp ho0_ ho1_
  go_wp2_with fail
  refine (calls_cast (by rw [LQHO4_0.out]) (laws_heldIntSS.calls k _ _ t12 1 t11 _ (Kd.S_reads' HO4_0.out).2.2 (by rw [LQHO4_0.out]; exact (Kd.S_reads' HO4_0.out).2.1) A11.out)).mono ?_
  rintro e w11_ ⟨rfl, hb⟩
  replace hb := Drawn0.below hb
  have hs11 := Aside0.mk hb.size
  replace HO1_0 := Aside0.mk (Kd.R_below HO1_0.out hb)
  replace HO2_0 := Aside0.mk (Kd.S_below HO2_0.out hb)
  replace HO3_0 := Aside0.mk (Kd.R_below HO3_0.out hb)
  replace HO4_0 := Aside0.mk (Kd.S_below HO4_0.out hb)
  replace HO6_0 := Aside0.mk (Kd.R_below HO6_0.out hb)
  replace HB := Aside0.mk (below_then HB.out HB.out.size hb)
  clear hb 
  go_wp2_with fail
  (with_reducible refine (laws_toIntS.calls k _ _ l0 t14 _ (Kd.C_below HR0.out HB.out) HC0.out A12.out).mono ?_)
  rintro e w12_ ⟨v0_, rfl, ho0_, hb⟩
  have hs12 := Aside0.mk hb.size
  replace HO1_0 := Aside0.mk (Kd.R_below HO1_0.out hb)
  replace HO2_0 := Aside0.mk (Kd.S_below HO2_0.out hb)
  replace HO3_0 := Aside0.mk (Kd.R_below HO3_0.out hb)
  replace HO4_0 := Aside0.mk (Kd.S_below HO4_0.out hb)
  replace HO6_0 := Aside0.mk (Kd.R_below HO6_0.out hb)
  obtain ⟨Ao12_0, co12_0, ev_⟩ := Kd.R_slice ho0_
  subst ev_
  have HO12_0 := Aside0.mk (Kd.R_lower (Kd.R_mono (ok' := (fun k_ => w11_.heap.size ≤ k_ ∧ k_ < w12_.heap.size)) (Kd.R_bound ho0_) (fun k_ hk_ => ⟨hk_.2.1, hk_.2.2.1⟩)) HB.out.size)
  replace HB := Aside0.mk (below_then HB.out HB.out.size hb)
  clear hb ho0_
  go_wp2_with fail
  (with_reducible refine (impl_StripeBytes.calls k _ _ t14 a1 t15 _ (Kd.R_reads' HO12_0.out).2.2 (Kd.R_reads' HO12_0.out).2.1 A13.out).mono ?_)
  rintro e w13_ ⟨v0_, rfl, ho0_, hb⟩
  have hs13 := Aside0.mk hb.size
  replace HO1_0 := Aside0.mk (Kd.R_below HO1_0.out hb)
  replace HO2_0 := Aside0.mk (Kd.S_below HO2_0.out hb)
  replace HO3_0 := Aside0.mk (Kd.R_below HO3_0.out hb)
  replace HO4_0 := Aside0.mk (Kd.S_below HO4_0.out hb)
  replace HO6_0 := Aside0.mk (Kd.R_below HO6_0.out hb)
  replace HO12_0 := Aside0.mk (Kd.R_below HO12_0.out hb)
  obtain ⟨Ao13_0, co13_0, ev_⟩ := Kd.S_slice ho0_
  subst ev_
  have HO13_0 := Aside0.mk (Kd.S_lower (Kd.S_mono (ok' := (fun k_ => w12_.heap.size ≤ k_ ∧ k_ < w13_.heap.size)) (Kd.S_bound ho0_) (fun k_ hk_ => ⟨hk_.2.1, hk_.2.2.1⟩)) HB.out.size)
  replace HB := Aside0.mk (below_then HB.out HB.out.size hb)
  clear hb ho0_
  go_wp2_with fail
  (with_reducible refine (laws_eqIntSS.calls k _ _ t15 _ _ t2 true _ (Kd.S_reads' HO13_0.out).2.2 (Kd.S_reads' HO13_0.out).2.1 (Kd.S_reads' HO2_0.out).2.2 (Kd.S_reads' HO2_0.out).2.1 A14.out).mono ?_)
  rintro e w14_ ⟨rfl, hb⟩
  replace hb := Drawn0.below hb
  have hs14 := Aside0.mk hb.size
  replace HO1_0 := Aside0.mk (Kd.R_below HO1_0.out hb)
  replace HO2_0 := Aside0.mk (Kd.S_below HO2_0.out hb)
  replace HO3_0 := Aside0.mk (Kd.R_below HO3_0.out hb)
  replace HO4_0 := Aside0.mk (Kd.S_below HO4_0.out hb)
  replace HO6_0 := Aside0.mk (Kd.R_below HO6_0.out hb)
  replace HO12_0 := Aside0.mk (Kd.R_below HO12_0.out hb)
  replace HO13_0 := Aside0.mk (Kd.S_below HO13_0.out hb)
  replace HB := Aside0.mk (below_then HB.out HB.out.size hb)
  clear hb 
  go_wp2_with fail
  refine (calls_cast (by rw [LQHO4_0.out]) (laws_heldIntSS.calls k _ _ t12 1 t11 _ (Kd.S_reads' HO4_0.out).2.2 (by rw [LQHO4_0.out]; exact (Kd.S_reads' HO4_0.out).2.1) A15.out)).mono ?_
  rintro e w15_ ⟨rfl, hb⟩
  replace hb := Drawn0.below hb
  have hs15 := Aside0.mk hb.size
  replace HO1_0 := Aside0.mk (Kd.R_below HO1_0.out hb)
  replace HO2_0 := Aside0.mk (Kd.S_below HO2_0.out hb)
  replace HO3_0 := Aside0.mk (Kd.R_below HO3_0.out hb)
  replace HO4_0 := Aside0.mk (Kd.S_below HO4_0.out hb)
  replace HO6_0 := Aside0.mk (Kd.R_below HO6_0.out hb)
  replace HO12_0 := Aside0.mk (Kd.R_below HO12_0.out hb)
  replace HO13_0 := Aside0.mk (Kd.S_below HO13_0.out hb)
  replace HB := Aside0.mk (below_then HB.out HB.out.size hb)
  clear hb 
  go_wp2
  go_ret
  exact ⟨rfl, HB.out⟩


/-- THE ONE PURE STATEMENT of laws_FnExactStripeBytes. -/
def laws_FnExactStripeBytes.Pure : Prop := ∀ (l0 : List Int) (a1 : Int), (l0.length ≤ 9223372036854775807 ∧ ∀ e155 ∈ l0, (Lit.int .i64 e155).wf = true) → ((Lit.int .i64 a1).wf = true) → ∃ k, laws_FnExactStripeBytes.f k l0 a1 = some true

end Go.Proofs.Ytoafbbopicbofaa.PFnExactStripeBytes
