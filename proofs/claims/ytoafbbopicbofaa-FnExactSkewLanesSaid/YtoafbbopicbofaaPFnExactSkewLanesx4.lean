-- Written by a program of this session (wip/xp): not trusted, Lean checks it.
import Derived.Test.YtoafbbopicbofaaPFnExactSkewLanesx0
import Derived.Test.YtoafbbopicbofaaPFnExactSkewLanesx1
import Derived.Test.YtoafbbopicbofaaPFnExactSkewLanesx2
import Derived.Test.YtoafbbopicbofaaPFnExactSkewLanesx3
namespace Go.Proofs.Ytoafbbopicbofaa.PFnExactSkewLanes
open Go.RowKit Go.Proofs.YtoafbbopicbofaaW.PrintWords Go.Proofs.YtoafbbopicbofaaW.PrintLast Go.Proofs.YtoafbbopicbofaaW.PrintMore
attribute [local go_sem] max2_int min2_int max_two min_two max_three min_three max_four min_four   -- for this text's walks alone
set_option linter.unusedVariables false
set_option linter.unusedSimpArgs false

theorem if_true_ {c : Prop} [Decidable c] {a : Option Bool} (h : (if c then a else (some false)) = some true) : c ∧ a = some true := by
  by_cases hc : c
  · rw [if_pos hc] at h; exact ⟨hc, h⟩
  · rw [if_neg hc] at h; simp at h
theorem calls_cast {P : Program} {n : Nat} {a b : Array Value} {w : World} {Q : Ending → World → Prop} (h : a = b) (hc : Calls P n a w Q) : Calls P n b w Q := h ▸ hc

/-! ### laws_FnExactSkewLanes: function 5, all its calls in a row -/
def laws_FnExactSkewLanes.f (k : Nat) (l0 : List (List Int)) (l1 : List Int) : Option (Bool) := (if 1048576 < (l1.length : Int) then (some true) else ((laws_szIntSS.f k l0 1048576).bind fun t1 => (if t1 < 0 then (some true) else ((laws_toIntSS.f k l0).bind fun t2 => ((laws_toIntS.f k l1).bind fun t3 => ((spec_SkewLanes.f k t2 t3).bind fun t4 => ((laws_toIntSS.f k l0).bind fun t5 => ((laws_toIntS.f k l1).bind fun t6 => ((impl_SkewLanes.f k t5 t6).bind fun t7 => ((laws_eqIntSS.f k t7 t4).bind fun t8 => (if t8 = true then ((laws_toIntSS.f k l0).bind fun t9 => ((laws_eqIntSS.f k t5 t9).bind fun t10 => (if t10 = true then ((laws_toIntS.f k l1).bind fun t11 => ((laws_eqIntS.f k t6 t11).bind fun t12 => (if t12 = true then ((laws_markIntSS.f k t5 1).bind fun ⟨t13, t14⟩ => ((laws_markIntS.f k t6 t13).bind fun ⟨t15, t16⟩ => (if ¬ (t15 < 0) then ((laws_eqIntSS.f k t7 t4).bind fun t17 => (if t17 = true then ((laws_markIntSS.f k t7 1).bind fun ⟨t18, t19⟩ => ((laws_heldIntSS.f k t19 1).bind fun t20 => (if ¬ (t20 < 0) then (if t18 = t20 then ((laws_toIntSS.f k l0).bind fun t21 => ((laws_toIntS.f k l1).bind fun t22 => ((impl_SkewLanes.f k t21 t22).bind fun t23 => ((laws_eqIntSS.f k t23 t4).bind fun t24 => (if t24 = true then ((laws_heldIntSS.f k t19 1).bind fun t25 => (if ¬ (t25 < 0) then (if t18 = t25 then (some true) else (some false)) else (some false))) else (some false)))))) else (some false)) else (some false)))) else (some false))) else (some false)))) else (some false)))) else (some false)))) else (some false))))))))))))
set_option maxHeartbeats 8000000 in
set_option maxRecDepth 100000 in
theorem laws_FnExactSkewLanes.calls (k : Nat) (A0 : Option Addr) (c0 : Nat) (l0 : List (List Int)) (A1 : Option Addr) (c1 : Nat) (l1 : List Int) (r : Bool) (w : World) (hr0 : Kd.C (Kd.slice 3 (Kd.int .i64)) w A0 l0.length l0) (hc0 : l0.length ≤ c0) (hr1 : Kd.C (Kd.int .i64) w A1 l1.length l1) (hc1 : l1.length ≤ c1) (hrt : Aside0 (r = true)) (h : laws_FnExactSkewLanes.f k l0 l1 = some r) :
    Calls Try.prog 5 #[.slice A0 l0.length c0, .slice A1 l1.length c1] w fun e w' => e = .returned (.bool r) ∧ Below w.heap.size w w' := by
  have HR0 := Aside0.mk hr0
  have HC0 := Aside0.mk hc0
  clear hr0 hc0
  have HR1 := Aside0.mk hr1
  have HC1 := Aside0.mk hc1
  clear hr1 hc1
  obtain rfl := hrt.out
  clear hrt
  have HB := Aside0.mk (Below.refl w.heap.size w)
  unfold laws_FnExactSkewLanes.f at h
  have H := h
  clear h
  by_cases hc0_ : 1048576 < (l1.length : Int)
  case pos =>
    clear H
    have hc0_b0 : decide (1048576 < (l1.length : Int)) = true := decide_eq_true hc0_
    have hc0_b1 : decide (1048576 < l1.length) = true := decide_eq_true (by omega)
    clear hc0_
    go_enter Try.func5, Try.ntmps5
    go_wp2
    go_ret
    exact ⟨rfl, HB.out⟩
  rw [if_neg hc0_] at H
  have hc0_b0 : decide (1048576 < (l1.length : Int)) = false := decide_eq_false hc0_
  have hc0_b1 : decide (1048576 < l1.length) = false := decide_eq_false (by omega)
  clear hc0_
  replace H := Option.bind_eq_some_iff.mp H
  obtain ⟨t1, A1_0, H⟩ := H
  have A1 := Aside0.mk A1_0
  clear A1_0
  by_cases hc18_ : t1 < 0
  case pos =>
    clear H
    have hc18_b0 : decide (t1 < 0) = true := decide_eq_true hc18_
    clear hc18_
    go_enter Try.func5, Try.ntmps5
    go_wp2_with fail
    (with_reducible refine (laws_szIntSS.calls k _ _ l0 1048576 t1 _ (Kd.C_below HR0.out HB.out) HC0.out A1.out).mono ?_)
    rintro e w1_ ⟨rfl, hb⟩
    replace hb := Drawn0.below hb
    have hs1 := Aside0.mk hb.size
    replace HB := Aside0.mk (below_then HB.out HB.out.size hb)
    clear hb 
    go_wp2
    go_ret
    exact ⟨rfl, HB.out⟩
  rw [if_neg hc18_] at H
  have hc18_b0 : decide (t1 < 0) = false := decide_eq_false hc18_
  clear hc18_
  replace H := Option.bind_eq_some_iff.mp H
  obtain ⟨t2, A2_0, H⟩ := H
  have A2 := Aside0.mk A2_0
  clear A2_0
  replace H := Option.bind_eq_some_iff.mp H
  obtain ⟨t3, A3_0, H⟩ := H
  have A3 := Aside0.mk A3_0
  clear A3_0
  replace H := Option.bind_eq_some_iff.mp H
  obtain ⟨t4, A4_0, H⟩ := H
  have A4 := Aside0.mk A4_0
  clear A4_0
  replace H := Option.bind_eq_some_iff.mp H
  obtain ⟨t5, A5_0, H⟩ := H
  have A5 := Aside0.mk A5_0
  clear A5_0
  replace H := Option.bind_eq_some_iff.mp H
  obtain ⟨t6, A6_0, H⟩ := H
  have A6 := Aside0.mk A6_0
  clear A6_0
  replace H := Option.bind_eq_some_iff.mp H
  obtain ⟨t7, A7_0, H⟩ := H
  have A7 := Aside0.mk A7_0
  clear A7_0
  replace H := Option.bind_eq_some_iff.mp H
  obtain ⟨t8, A8_0, H⟩ := H
  have A8 := Aside0.mk A8_0
  clear A8_0
  replace H := if_true_ H
  obtain ⟨hc65_, H⟩ := H
  subst hc65_
  replace H := Option.bind_eq_some_iff.mp H
  obtain ⟨t9, A9_0, H⟩ := H
  have A9 := Aside0.mk A9_0
  clear A9_0
  replace H := Option.bind_eq_some_iff.mp H
  obtain ⟨t10, A10_0, H⟩ := H
  have A10 := Aside0.mk A10_0
  clear A10_0
  replace H := if_true_ H
  obtain ⟨hc76_, H⟩ := H
  subst hc76_
  replace H := Option.bind_eq_some_iff.mp H
  obtain ⟨t11, A11_0, H⟩ := H
  have A11 := Aside0.mk A11_0
  clear A11_0
  replace H := Option.bind_eq_some_iff.mp H
  obtain ⟨t12, A12_0, H⟩ := H
  have A12 := Aside0.mk A12_0
  clear A12_0
  replace H := if_true_ H
  obtain ⟨hc87_, H⟩ := H
  subst hc87_
  replace H := Option.bind_eq_some_iff.mp H
  obtain ⟨⟨t13, t14⟩, A13_0, H⟩ := H
  have A13 := Aside0.mk A13_0
  clear A13_0
  replace H := Option.bind_eq_some_iff.mp H
  obtain ⟨⟨t15, t16⟩, A14_0, H⟩ := H
  have A14 := Aside0.mk A14_0
  clear A14_0
  replace H := if_true_ H
  obtain ⟨hc98_, H⟩ := H
  have hc98_b0 : decide (t15 < 0) = false := decide_eq_false hc98_
  clear hc98_
  replace H := Option.bind_eq_some_iff.mp H
  obtain ⟨t17, A15_0, H⟩ := H
  have A15 := Aside0.mk A15_0
  clear A15_0
  replace H := if_true_ H
  obtain ⟨hc106_, H⟩ := H
  subst hc106_
  replace H := Option.bind_eq_some_iff.mp H
  obtain ⟨⟨t18, t19⟩, A16_0, H⟩ := H
  have A16 := Aside0.mk A16_0
  clear A16_0
  replace H := Option.bind_eq_some_iff.mp H
  obtain ⟨t20, A17_0, H⟩ := H
  have A17 := Aside0.mk A17_0
  clear A17_0
  replace H := if_true_ H
  obtain ⟨hc117_, H⟩ := H
  have hc117_b0 : decide (t20 < 0) = false := decide_eq_false hc117_
  clear hc117_
  replace H := if_true_ H
  obtain ⟨hc121_, H⟩ := H
  subst hc121_
  replace H := Option.bind_eq_some_iff.mp H
  obtain ⟨t21, A18_0, H⟩ := H
  have A18 := Aside0.mk A18_0
  clear A18_0
  replace H := Option.bind_eq_some_iff.mp H
  obtain ⟨t22, A19_0, H⟩ := H
  have A19 := Aside0.mk A19_0
  clear A19_0
  replace H := Option.bind_eq_some_iff.mp H
  obtain ⟨t23, A20_0, H⟩ := H
  have A20 := Aside0.mk A20_0
  clear A20_0
  replace H := Option.bind_eq_some_iff.mp H
  obtain ⟨t24, A21_0, H⟩ := H
  have A21 := Aside0.mk A21_0
  clear A21_0
  replace H := if_true_ H
  obtain ⟨hc140_, H⟩ := H
  subst hc140_
  replace H := Option.bind_eq_some_iff.mp H
  obtain ⟨t25, A22_0, H⟩ := H
  have A22 := Aside0.mk A22_0
  clear A22_0
  replace H := if_true_ H
  obtain ⟨hc147_, H⟩ := H
  have hc147_b0 : decide (t25 < 0) = false := decide_eq_false hc147_
  clear hc147_
  replace H := if_true_ H
  obtain ⟨hc151_, H⟩ := H
  subst hc151_
  clear H
  go_enter Try.func5, Try.ntmps5
  go_wp2_with fail
  (with_reducible refine (laws_szIntSS.calls k _ _ l0 1048576 t1 _ (Kd.C_below HR0.out HB.out) HC0.out A1.out).mono ?_)
  rintro e w1_ ⟨rfl, hb⟩
  replace hb := Drawn0.below hb
  have hs1 := Aside0.mk hb.size
  replace HB := Aside0.mk (below_then HB.out HB.out.size hb)
  clear hb 
  go_wp2_with fail
  (with_reducible refine (laws_toIntSS.calls k _ _ l0 t2 _ (Kd.C_below HR0.out HB.out) HC0.out A2.out).mono ?_)
  rintro e w2_ ⟨v0_, rfl, ho0_, hb⟩
  have hs2 := Aside0.mk hb.size
  obtain ⟨Ao2_0, co2_0, ev_⟩ := Kd.S_slice ho0_
  subst ev_
  have HO2_0 := Aside0.mk (Kd.S_lower (Kd.S_mono (ok' := (fun k_ => w1_.heap.size ≤ k_ ∧ k_ < w2_.heap.size)) (Kd.S_bound ho0_) (fun k_ hk_ => ⟨hk_.2.1, hk_.2.2.1⟩)) HB.out.size)
  replace HB := Aside0.mk (below_then HB.out HB.out.size hb)
  clear hb ho0_
  go_wp2_with fail
  (with_reducible refine (laws_toIntS.calls k _ _ l1 t3 _ (Kd.C_below HR1.out HB.out) HC1.out A3.out).mono ?_)
  rintro e w3_ ⟨v0_, rfl, ho0_, hb⟩
  have hs3 := Aside0.mk hb.size
  replace HO2_0 := Aside0.mk (Kd.S_below HO2_0.out hb)
  obtain ⟨Ao3_0, co3_0, ev_⟩ := Kd.R_slice ho0_
  subst ev_
  have HO3_0 := Aside0.mk (Kd.R_lower (Kd.R_mono (ok' := (fun k_ => w2_.heap.size ≤ k_ ∧ k_ < w3_.heap.size)) (Kd.R_bound ho0_) (fun k_ hk_ => ⟨hk_.2.1, hk_.2.2.1⟩)) HB.out.size)
  replace HB := Aside0.mk (below_then HB.out HB.out.size hb)
  clear hb ho0_
  go_wp2_with fail
  (with_reducible refine (spec_SkewLanes.calls k _ _ t2 _ _ t3 t4 _ (Kd.S_reads' HO2_0.out).2.2 (Kd.S_reads' HO2_0.out).2.1 (Kd.R_reads' HO3_0.out).2.2 (Kd.R_reads' HO3_0.out).2.1 A4.out).mono ?_)
  rintro e w4_ ⟨v0_, rfl, ho0_, hb⟩
  have hs4 := Aside0.mk hb.size
  replace HO2_0 := Aside0.mk (Kd.S_below HO2_0.out hb)
  replace HO3_0 := Aside0.mk (Kd.R_below HO3_0.out hb)
  obtain ⟨Ao4_0, co4_0, ev_⟩ := Kd.S_slice ho0_
  subst ev_
  have HO4_0 := Aside0.mk (Kd.S_lower (Kd.S_mono (ok' := (fun k_ => w3_.heap.size ≤ k_ ∧ k_ < w4_.heap.size)) (Kd.S_bound ho0_) (fun k_ hk_ => ⟨hk_.2.1, hk_.2.2.1⟩)) HB.out.size)
  replace HB := Aside0.mk (below_then HB.out HB.out.size hb)
  clear hb ho0_
  go_wp2_with fail
  (with_reducible refine (laws_toIntSS.calls k _ _ l0 t5 _ (Kd.C_below HR0.out HB.out) HC0.out A5.out).mono ?_)
  rintro e w5_ ⟨v0_, rfl, ho0_, hb⟩
  have hs5 := Aside0.mk hb.size
  replace HO2_0 := Aside0.mk (Kd.S_below HO2_0.out hb)
  replace HO3_0 := Aside0.mk (Kd.R_below HO3_0.out hb)
  replace HO4_0 := Aside0.mk (Kd.S_below HO4_0.out hb)
  obtain ⟨Ao5_0, co5_0, ev_⟩ := Kd.S_slice ho0_
  subst ev_
  have HO5_0 := Aside0.mk (Kd.S_lower (Kd.S_mono (ok' := (fun k_ => w4_.heap.size ≤ k_ ∧ k_ < w5_.heap.size)) (Kd.S_bound ho0_) (fun k_ hk_ => ⟨hk_.2.1, hk_.2.2.1⟩)) HB.out.size)
  replace HB := Aside0.mk (below_then HB.out HB.out.size hb)
  clear hb ho0_
  go_wp2_with fail
  (with_reducible refine (laws_toIntS.calls k _ _ l1 t6 _ (Kd.C_below HR1.out HB.out) HC1.out A6.out).mono ?_)
  rintro e w6_ ⟨v0_, rfl, ho0_, hb⟩
  have hs6 := Aside0.mk hb.size
  replace HO2_0 := Aside0.mk (Kd.S_below HO2_0.out hb)
  replace HO3_0 := Aside0.mk (Kd.R_below HO3_0.out hb)
  replace HO4_0 := Aside0.mk (Kd.S_below HO4_0.out hb)
  replace HO5_0 := Aside0.mk (Kd.S_below HO5_0.out hb)
  obtain ⟨Ao6_0, co6_0, ev_⟩ := Kd.R_slice ho0_
  subst ev_
  have HO6_0 := Aside0.mk (Kd.R_lower (Kd.R_mono (ok' := (fun k_ => w5_.heap.size ≤ k_ ∧ k_ < w6_.heap.size)) (Kd.R_bound ho0_) (fun k_ hk_ => ⟨hk_.2.1, hk_.2.2.1⟩)) HB.out.size)
  replace HB := Aside0.mk (below_then HB.out HB.out.size hb)
  clear hb ho0_
  go_wp2_with fail
  (with_reducible refine (impl_SkewLanes.calls k _ _ t5 _ _ t6 t7 _ (Kd.S_reads' HO5_0.out).2.2 (Kd.S_reads' HO5_0.out).2.1 (Kd.R_reads' HO6_0.out).2.2 (Kd.R_reads' HO6_0.out).2.1 A7.out).mono ?_)
  rintro e w7_ ⟨v0_, rfl, ho0_, hb⟩
  have hs7 := Aside0.mk hb.size
  replace HO2_0 := Aside0.mk (Kd.S_below HO2_0.out hb)
  replace HO3_0 := Aside0.mk (Kd.R_below HO3_0.out hb)
  replace HO4_0 := Aside0.mk (Kd.S_below HO4_0.out hb)
  replace HO5_0 := Aside0.mk (Kd.S_below HO5_0.out hb)
  replace HO6_0 := Aside0.mk (Kd.R_below HO6_0.out hb)
  obtain ⟨Ao7_0, co7_0, ev_⟩ := Kd.S_slice ho0_
  subst ev_
  have HO7_0 := Aside0.mk (Kd.S_lower (Kd.S_mono (ok' := (fun k_ => w6_.heap.size ≤ k_ ∧ k_ < w7_.heap.size)) (Kd.S_bound ho0_) (fun k_ hk_ => ⟨hk_.2.1, hk_.2.2.1⟩)) HB.out.size)
  replace HB := Aside0.mk (below_then HB.out HB.out.size hb)
  clear hb ho0_
  go_wp2_with fail
  (with_reducible refine (laws_eqIntSS.calls k _ _ t7 _ _ t4 true _ (Kd.S_reads' HO7_0.out).2.2 (Kd.S_reads' HO7_0.out).2.1 (Kd.S_reads' HO4_0.out).2.2 (Kd.S_reads' HO4_0.out).2.1 A8.out).mono ?_)
  rintro e w8_ ⟨rfl, hb⟩
  replace hb := Drawn0.below hb
  have hs8 := Aside0.mk hb.size
  replace HO2_0 := Aside0.mk (Kd.S_below HO2_0.out hb)
  replace HO3_0 := Aside0.mk (Kd.R_below HO3_0.out hb)
  replace HO4_0 := Aside0.mk (Kd.S_below HO4_0.out hb)
  replace HO5_0 := Aside0.mk (Kd.S_below HO5_0.out hb)
  replace HO6_0 := Aside0.mk (Kd.R_below HO6_0.out hb)
  replace HO7_0 := Aside0.mk (Kd.S_below HO7_0.out hb)
  replace HB := Aside0.mk (below_then HB.out HB.out.size hb)
  clear hb 
  go_wp2_with fail
  (with_reducible refine (laws_toIntSS.calls k _ _ l0 t9 _ (Kd.C_below HR0.out HB.out) HC0.out A9.out).mono ?_)
  rintro e w9_ ⟨v0_, rfl, ho0_, hb⟩
  have hs9 := Aside0.mk hb.size
  replace HO2_0 := Aside0.mk (Kd.S_below HO2_0.out hb)
  replace HO3_0 := Aside0.mk (Kd.R_below HO3_0.out hb)
  replace HO4_0 := Aside0.mk (Kd.S_below HO4_0.out hb)
  replace HO5_0 := Aside0.mk (Kd.S_below HO5_0.out hb)
  replace HO6_0 := Aside0.mk (Kd.R_below HO6_0.out hb)
  replace HO7_0 := Aside0.mk (Kd.S_below HO7_0.out hb)
  obtain ⟨Ao9_0, co9_0, ev_⟩ := Kd.S_slice ho0_
  subst ev_
  have HO9_0 := Aside0.mk (Kd.S_lower (Kd.S_mono (ok' := (fun k_ => w8_.heap.size ≤ k_ ∧ k_ < w9_.heap.size)) (Kd.S_bound ho0_) (fun k_ hk_ => ⟨hk_.2.1, hk_.2.2.1⟩)) HB.out.size)
  replace HB := Aside0.mk (below_then HB.out HB.out.size hb)
  clear hb ho0_
  go_wp2_with fail
  (with_reducible refine (laws_eqIntSS.calls k _ _ t5 _ _ t9 true _ (Kd.S_reads' HO5_0.out).2.2 (Kd.S_reads' HO5_0.out).2.1 (Kd.S_reads' HO9_0.out).2.2 (Kd.S_reads' HO9_0.out).2.1 A10.out).mono ?_)
  rintro e w10_ ⟨rfl, hb⟩
  replace hb := Drawn0.below hb
  have hs10 := Aside0.mk hb.size
  replace HO2_0 := Aside0.mk (Kd.S_below HO2_0.out hb)
  replace HO3_0 := Aside0.mk (Kd.R_below HO3_0.out hb)
  replace HO4_0 := Aside0.mk (Kd.S_below HO4_0.out hb)
  replace HO5_0 := Aside0.mk (Kd.S_below HO5_0.out hb)
  replace HO6_0 := Aside0.mk (Kd.R_below HO6_0.out hb)
  replace HO7_0 := Aside0.mk (Kd.S_below HO7_0.out hb)
  replace HO9_0 := Aside0.mk (Kd.S_below HO9_0.out hb)
  replace HB := Aside0.mk (below_then HB.out HB.out.size hb)
  clear hb 
  go_wp2_with fail
  (with_reducible refine (laws_toIntS.calls k _ _ l1 t11 _ (Kd.C_below HR1.out HB.out) HC1.out A11.out).mono ?_)
  rintro e w11_ ⟨v0_, rfl, ho0_, hb⟩
  have hs11 := Aside0.mk hb.size
  replace HO2_0 := Aside0.mk (Kd.S_below HO2_0.out hb)
  replace HO3_0 := Aside0.mk (Kd.R_below HO3_0.out hb)
  replace HO4_0 := Aside0.mk (Kd.S_below HO4_0.out hb)
  replace HO5_0 := Aside0.mk (Kd.S_below HO5_0.out hb)
  replace HO6_0 := Aside0.mk (Kd.R_below HO6_0.out hb)
  replace HO7_0 := Aside0.mk (Kd.S_below HO7_0.out hb)
  replace HO9_0 := Aside0.mk (Kd.S_below HO9_0.out hb)
  obtain ⟨Ao11_0, co11_0, ev_⟩ := Kd.R_slice ho0_
  subst ev_
  have HO11_0 := Aside0.mk (Kd.R_lower (Kd.R_mono (ok' := (fun k_ => w10_.heap.size ≤ k_ ∧ k_ < w11_.heap.size)) (Kd.R_bound ho0_) (fun k_ hk_ => ⟨hk_.2.1, hk_.2.2.1⟩)) HB.out.size)
  replace HB := Aside0.mk (below_then HB.out HB.out.size hb)
  clear hb ho0_
  go_wp2_with fail
  (with_reducible refine (laws_eqIntS.calls k _ _ t6 _ _ t11 true _ (Kd.R_reads' HO6_0.out).2.2 (Kd.R_reads' HO6_0.out).2.1 (Kd.R_reads' HO11_0.out).2.2 (Kd.R_reads' HO11_0.out).2.1 A12.out).mono ?_)
  rintro e w12_ ⟨rfl, hb⟩
  replace hb := Drawn0.below hb
  have hs12 := Aside0.mk hb.size
  replace HO2_0 := Aside0.mk (Kd.S_below HO2_0.out hb)
  replace HO3_0 := Aside0.mk (Kd.R_below HO3_0.out hb)
  replace HO4_0 := Aside0.mk (Kd.S_below HO4_0.out hb)
  replace HO5_0 := Aside0.mk (Kd.S_below HO5_0.out hb)
  replace HO6_0 := Aside0.mk (Kd.R_below HO6_0.out hb)
  replace HO7_0 := Aside0.mk (Kd.S_below HO7_0.out hb)
  replace HO9_0 := Aside0.mk (Kd.S_below HO9_0.out hb)
  replace HO11_0 := Aside0.mk (Kd.R_below HO11_0.out hb)
  replace HB := Aside0.mk (below_then HB.out HB.out.size hb)
  clear hb 
  go_wp2_with fail
  (with_reducible refine (laws_markIntSS.calls k (fun k_ => w4_.heap.size ≤ k_ ∧ k_ < w5_.heap.size) (.slice Ao5_0 t5.length co5_0) t5 1 t13 t14 w _ HB.out HO5_0.out A13.out).mono ?_)
  rintro e w13_ ⟨rfl, ho0_, ho1_, hkp⟩
  have hs13 := Aside0.mk hkp.1
  replace HO2_0 := Aside0.mk (Kd.S_kept HO2_0.out hkp (fun k_ hk_ hs_ => by obtain ⟨hk1_, hk2_⟩ := hk_; obtain ⟨hs1_, hs2_⟩ := hs_; have := hs1.out; have := hs2.out; have := hs3.out; have := hs4.out; have := hs5.out; have := hs6.out; have := hs7.out; have := hs8.out; have := hs9.out; have := hs10.out; have := hs11.out; have := hs12.out; have := hs13.out; omega))
  replace HO3_0 := Aside0.mk (Kd.R_kept HO3_0.out hkp (fun k_ hk_ hs_ => by obtain ⟨hk1_, hk2_⟩ := hk_; obtain ⟨hs1_, hs2_⟩ := hs_; have := hs1.out; have := hs2.out; have := hs3.out; have := hs4.out; have := hs5.out; have := hs6.out; have := hs7.out; have := hs8.out; have := hs9.out; have := hs10.out; have := hs11.out; have := hs12.out; have := hs13.out; omega))
  replace HO4_0 := Aside0.mk (Kd.S_kept HO4_0.out hkp (fun k_ hk_ hs_ => by obtain ⟨hk1_, hk2_⟩ := hk_; obtain ⟨hs1_, hs2_⟩ := hs_; have := hs1.out; have := hs2.out; have := hs3.out; have := hs4.out; have := hs5.out; have := hs6.out; have := hs7.out; have := hs8.out; have := hs9.out; have := hs10.out; have := hs11.out; have := hs12.out; have := hs13.out; omega))
  replace HO6_0 := Aside0.mk (Kd.R_kept HO6_0.out hkp (fun k_ hk_ hs_ => by obtain ⟨hk1_, hk2_⟩ := hk_; obtain ⟨hs1_, hs2_⟩ := hs_; have := hs1.out; have := hs2.out; have := hs3.out; have := hs4.out; have := hs5.out; have := hs6.out; have := hs7.out; have := hs8.out; have := hs9.out; have := hs10.out; have := hs11.out; have := hs12.out; have := hs13.out; omega))
  replace HO7_0 := Aside0.mk (Kd.S_kept HO7_0.out hkp (fun k_ hk_ hs_ => by obtain ⟨hk1_, hk2_⟩ := hk_; obtain ⟨hs1_, hs2_⟩ := hs_; have := hs1.out; have := hs2.out; have := hs3.out; have := hs4.out; have := hs5.out; have := hs6.out; have := hs7.out; have := hs8.out; have := hs9.out; have := hs10.out; have := hs11.out; have := hs12.out; have := hs13.out; omega))
  replace HO9_0 := Aside0.mk (Kd.S_kept HO9_0.out hkp (fun k_ hk_ hs_ => by obtain ⟨hk1_, hk2_⟩ := hk_; obtain ⟨hs1_, hs2_⟩ := hs_; have := hs1.out; have := hs2.out; have := hs3.out; have := hs4.out; have := hs5.out; have := hs6.out; have := hs7.out; have := hs8.out; have := hs9.out; have := hs10.out; have := hs11.out; have := hs12.out; have := hs13.out; omega))
  replace HO11_0 := Aside0.mk (Kd.R_kept HO11_0.out hkp (fun k_ hk_ hs_ => by obtain ⟨hk1_, hk2_⟩ := hk_; obtain ⟨hs1_, hs2_⟩ := hs_; have := hs1.out; have := hs2.out; have := hs3.out; have := hs4.out; have := hs5.out; have := hs6.out; have := hs7.out; have := hs8.out; have := hs9.out; have := hs10.out; have := hs11.out; have := hs12.out; have := hs13.out; omega))
  replace HO5_0 := Aside0.mk ho0_
  have LQHO5_0 := Aside0.mk (Kd.S_reads' HO5_0.out).1.symm
  replace HB := Aside0.mk ho1_
  clear hkp ho0_ ho1_
  go_wp2_with fail
  (with_reducible refine (laws_markIntS.calls k (fun k_ => w5_.heap.size ≤ k_ ∧ k_ < w6_.heap.size) (.slice Ao6_0 t6.length co6_0) t6 t13 t15 t16 w _ HB.out HO6_0.out A14.out).mono ?_)
  rintro e w14_ ⟨rfl, ho0_, ho1_, hkp⟩
  have hs14 := Aside0.mk hkp.1
  replace HO2_0 := Aside0.mk (Kd.S_kept HO2_0.out hkp (fun k_ hk_ hs_ => by obtain ⟨hk1_, hk2_⟩ := hk_; obtain ⟨hs1_, hs2_⟩ := hs_; have := hs1.out; have := hs2.out; have := hs3.out; have := hs4.out; have := hs5.out; have := hs6.out; have := hs7.out; have := hs8.out; have := hs9.out; have := hs10.out; have := hs11.out; have := hs12.out; have := hs13.out; have := hs14.out; omega))
  replace HO3_0 := Aside0.mk (Kd.R_kept HO3_0.out hkp (fun k_ hk_ hs_ => by obtain ⟨hk1_, hk2_⟩ := hk_; obtain ⟨hs1_, hs2_⟩ := hs_; have := hs1.out; have := hs2.out; have := hs3.out; have := hs4.out; have := hs5.out; have := hs6.out; have := hs7.out; have := hs8.out; have := hs9.out; have := hs10.out; have := hs11.out; have := hs12.out; have := hs13.out; have := hs14.out; omega))
  replace HO4_0 := Aside0.mk (Kd.S_kept HO4_0.out hkp (fun k_ hk_ hs_ => by obtain ⟨hk1_, hk2_⟩ := hk_; obtain ⟨hs1_, hs2_⟩ := hs_; have := hs1.out; have := hs2.out; have := hs3.out; have := hs4.out; have := hs5.out; have := hs6.out; have := hs7.out; have := hs8.out; have := hs9.out; have := hs10.out; have := hs11.out; have := hs12.out; have := hs13.out; have := hs14.out; omega))
  replace HO5_0 := Aside0.mk (Kd.S_kept HO5_0.out hkp (fun k_ hk_ hs_ => by obtain ⟨hk1_, hk2_⟩ := hk_; obtain ⟨hs1_, hs2_⟩ := hs_; have := hs1.out; have := hs2.out; have := hs3.out; have := hs4.out; have := hs5.out; have := hs6.out; have := hs7.out; have := hs8.out; have := hs9.out; have := hs10.out; have := hs11.out; have := hs12.out; have := hs13.out; have := hs14.out; omega))
  replace HO7_0 := Aside0.mk (Kd.S_kept HO7_0.out hkp (fun k_ hk_ hs_ => by obtain ⟨hk1_, hk2_⟩ := hk_; obtain ⟨hs1_, hs2_⟩ := hs_; have := hs1.out; have := hs2.out; have := hs3.out; have := hs4.out; have := hs5.out; have := hs6.out; have := hs7.out; have := hs8.out; have := hs9.out; have := hs10.out; have := hs11.out; have := hs12.out; have := hs13.out; have := hs14.out; omega))
  replace HO9_0 := Aside0.mk (Kd.S_kept HO9_0.out hkp (fun k_ hk_ hs_ => by obtain ⟨hk1_, hk2_⟩ := hk_; obtain ⟨hs1_, hs2_⟩ := hs_; have := hs1.out; have := hs2.out; have := hs3.out; have := hs4.out; have := hs5.out; have := hs6.out; have := hs7.out; have := hs8.out; have := hs9.out; have := hs10.out; have := hs11.out; have := hs12.out; have := hs13.out; have := hs14.out; omega))
  replace HO11_0 := Aside0.mk (Kd.R_kept HO11_0.out hkp (fun k_ hk_ hs_ => by obtain ⟨hk1_, hk2_⟩ := hk_; obtain ⟨hs1_, hs2_⟩ := hs_; have := hs1.out; have := hs2.out; have := hs3.out; have := hs4.out; have := hs5.out; have := hs6.out; have := hs7.out; have := hs8.out; have := hs9.out; have := hs10.out; have := hs11.out; have := hs12.out; have := hs13.out; have := hs14.out; omega))
  replace HO6_0 := Aside0.mk (Kd.R_reok rfl ho0_ (fun k_ e_ => HO6_0.out.1 k_ e_))
  have LQHO6_0 := Aside0.mk (Kd.R_reads' HO6_0.out).1.symm
  replace HB := Aside0.mk ho1_
  clear hkp ho0_ ho1_
  go_wp2_with fail
  (with_reducible refine (laws_eqIntSS.calls k _ _ t7 _ _ t4 true _ (Kd.S_reads' HO7_0.out).2.2 (Kd.S_reads' HO7_0.out).2.1 (Kd.S_reads' HO4_0.out).2.2 (Kd.S_reads' HO4_0.out).2.1 A15.out).mono ?_)
  rintro e w15_ ⟨rfl, hb⟩
  replace hb := Drawn0.below hb
  have hs15 := Aside0.mk hb.size
  replace HO2_0 := Aside0.mk (Kd.S_below HO2_0.out hb)
  replace HO3_0 := Aside0.mk (Kd.R_below HO3_0.out hb)
  replace HO4_0 := Aside0.mk (Kd.S_below HO4_0.out hb)
  replace HO5_0 := Aside0.mk (Kd.S_below HO5_0.out hb)
  replace HO6_0 := Aside0.mk (Kd.R_below HO6_0.out hb)
  replace HO7_0 := Aside0.mk (Kd.S_below HO7_0.out hb)
  replace HO9_0 := Aside0.mk (Kd.S_below HO9_0.out hb)
  replace HO11_0 := Aside0.mk (Kd.R_below HO11_0.out hb)
  replace HB := Aside0.mk (below_then HB.out HB.out.size hb)
  clear hb 
  go_wp2_with fail
  (with_reducible refine (laws_markIntSS.calls k (fun k_ => w6_.heap.size ≤ k_ ∧ k_ < w7_.heap.size) (.slice Ao7_0 t7.length co7_0) t7 1 t18 t19 w _ HB.out HO7_0.out A16.out).mono ?_)
  rintro e w16_ ⟨rfl, ho0_, ho1_, hkp⟩
  have hs16 := Aside0.mk hkp.1
  replace HO2_0 := Aside0.mk (Kd.S_kept HO2_0.out hkp (fun k_ hk_ hs_ => by obtain ⟨hk1_, hk2_⟩ := hk_; obtain ⟨hs1_, hs2_⟩ := hs_; have := hs1.out; have := hs2.out; have := hs3.out; have := hs4.out; have := hs5.out; have := hs6.out; have := hs7.out; have := hs8.out; have := hs9.out; have := hs10.out; have := hs11.out; have := hs12.out; have := hs13.out; have := hs14.out; have := hs15.out; have := hs16.out; omega))
  replace HO3_0 := Aside0.mk (Kd.R_kept HO3_0.out hkp (fun k_ hk_ hs_ => by obtain ⟨hk1_, hk2_⟩ := hk_; obtain ⟨hs1_, hs2_⟩ := hs_; have := hs1.out; have := hs2.out; have := hs3.out; have := hs4.out; have := hs5.out; have := hs6.out; have := hs7.out; have := hs8.out; have := hs9.out; have := hs10.out; have := hs11.out; have := hs12.out; have := hs13.out; have := hs14.out; have := hs15.out; have := hs16.out; omega))
  replace HO4_0 := Aside0.mk (Kd.S_kept HO4_0.out hkp (fun k_ hk_ hs_ => by obtain ⟨hk1_, hk2_⟩ := hk_; obtain ⟨hs1_, hs2_⟩ := hs_; have := hs1.out; have := hs2.out; have := hs3.out; have := hs4.out; have := hs5.out; have := hs6.out; have := hs7.out; have := hs8.out; have := hs9.out; have := hs10.out; have := hs11.out; have := hs12.out; have := hs13.out; have := hs14.out; have := hs15.out; have := hs16.out; omega))
  replace HO5_0 := Aside0.mk (Kd.S_kept HO5_0.out hkp (fun k_ hk_ hs_ => by obtain ⟨hk1_, hk2_⟩ := hk_; obtain ⟨hs1_, hs2_⟩ := hs_; have := hs1.out; have := hs2.out; have := hs3.out; have := hs4.out; have := hs5.out; have := hs6.out; have := hs7.out; have := hs8.out; have := hs9.out; have := hs10.out; have := hs11.out; have := hs12.out; have := hs13.out; have := hs14.out; have := hs15.out; have := hs16.out; omega))
  replace HO6_0 := Aside0.mk (Kd.R_kept HO6_0.out hkp (fun k_ hk_ hs_ => by obtain ⟨hk1_, hk2_⟩ := hk_; obtain ⟨hs1_, hs2_⟩ := hs_; have := hs1.out; have := hs2.out; have := hs3.out; have := hs4.out; have := hs5.out; have := hs6.out; have := hs7.out; have := hs8.out; have := hs9.out; have := hs10.out; have := hs11.out; have := hs12.out; have := hs13.out; have := hs14.out; have := hs15.out; have := hs16.out; omega))
  replace HO9_0 := Aside0.mk (Kd.S_kept HO9_0.out hkp (fun k_ hk_ hs_ => by obtain ⟨hk1_, hk2_⟩ := hk_; obtain ⟨hs1_, hs2_⟩ := hs_; have := hs1.out; have := hs2.out; have := hs3.out; have := hs4.out; have := hs5.out; have := hs6.out; have := hs7.out; have := hs8.out; have := hs9.out; have := hs10.out; have := hs11.out; have := hs12.out; have := hs13.out; have := hs14.out; have := hs15.out; have := hs16.out; omega))
  replace HO11_0 := Aside0.mk (Kd.R_kept HO11_0.out hkp (fun k_ hk_ hs_ => by obtain ⟨hk1_, hk2_⟩ := hk_; obtain ⟨hs1_, hs2_⟩ := hs_; have := hs1.out; have := hs2.out; have := hs3.out; have := hs4.out; have := hs5.out; have := hs6.out; have := hs7.out; have := hs8.out; have := hs9.out; have := hs10.out; have := hs11.out; have := hs12.out; have := hs13.out; have := hs14.out; have := hs15.out; have := hs16.out; omega))
  replace HO7_0 := Aside0.mk ho0_
  have LQHO7_0 := Aside0.mk (Kd.S_reads' HO7_0.out).1.symm
  replace HB := Aside0.mk ho1_
  clear hkp ho0_ ho1_
  go_wp2_with fail
  refine (calls_cast (by rw [LQHO7_0.out]) (laws_heldIntSS.calls k _ _ t19 1 t18 _ (Kd.S_reads' HO7_0.out).2.2 (by rw [LQHO7_0.out]; exact (Kd.S_reads' HO7_0.out).2.1) A17.out)).mono ?_
  rintro e w17_ ⟨rfl, hb⟩
  replace hb := Drawn0.below hb
  have hs17 := Aside0.mk hb.size
  replace HO2_0 := Aside0.mk (Kd.S_below HO2_0.out hb)
  replace HO3_0 := Aside0.mk (Kd.R_below HO3_0.out hb)
  replace HO4_0 := Aside0.mk (Kd.S_below HO4_0.out hb)
  replace HO5_0 := Aside0.mk (Kd.S_below HO5_0.out hb)
  replace HO6_0 := Aside0.mk (Kd.R_below HO6_0.out hb)
  replace HO7_0 := Aside0.mk (Kd.S_below HO7_0.out hb)
  replace HO9_0 := Aside0.mk (Kd.S_below HO9_0.out hb)
  replace HO11_0 := Aside0.mk (Kd.R_below HO11_0.out hb)
  replace HB := Aside0.mk (below_then HB.out HB.out.size hb)
  clear hb 
  go_wp2_with fail
  (with_reducible refine (laws_toIntSS.calls k _ _ l0 t21 _ (Kd.C_below HR0.out HB.out) HC0.out A18.out).mono ?_)
  rintro e w18_ ⟨v0_, rfl, ho0_, hb⟩
  have hs18 := Aside0.mk hb.size
  replace HO2_0 := Aside0.mk (Kd.S_below HO2_0.out hb)
  replace HO3_0 := Aside0.mk (Kd.R_below HO3_0.out hb)
  replace HO4_0 := Aside0.mk (Kd.S_below HO4_0.out hb)
  replace HO5_0 := Aside0.mk (Kd.S_below HO5_0.out hb)
  replace HO6_0 := Aside0.mk (Kd.R_below HO6_0.out hb)
  replace HO7_0 := Aside0.mk (Kd.S_below HO7_0.out hb)
  replace HO9_0 := Aside0.mk (Kd.S_below HO9_0.out hb)
  replace HO11_0 := Aside0.mk (Kd.R_below HO11_0.out hb)
  obtain ⟨Ao18_0, co18_0, ev_⟩ := Kd.S_slice ho0_
  subst ev_
  have HO18_0 := Aside0.mk (Kd.S_lower (Kd.S_mono (ok' := (fun k_ => w17_.heap.size ≤ k_ ∧ k_ < w18_.heap.size)) (Kd.S_bound ho0_) (fun k_ hk_ => ⟨hk_.2.1, hk_.2.2.1⟩)) HB.out.size)
  replace HB := Aside0.mk (below_then HB.out HB.out.size hb)
  clear hb ho0_
  go_wp2_with fail
  (with_reducible refine (laws_toIntS.calls k _ _ l1 t22 _ (Kd.C_below HR1.out HB.out) HC1.out A19.out).mono ?_)
  rintro e w19_ ⟨v0_, rfl, ho0_, hb⟩
  have hs19 := Aside0.mk hb.size
  replace HO2_0 := Aside0.mk (Kd.S_below HO2_0.out hb)
  replace HO3_0 := Aside0.mk (Kd.R_below HO3_0.out hb)
  replace HO4_0 := Aside0.mk (Kd.S_below HO4_0.out hb)
  replace HO5_0 := Aside0.mk (Kd.S_below HO5_0.out hb)
  replace HO6_0 := Aside0.mk (Kd.R_below HO6_0.out hb)
  replace HO7_0 := Aside0.mk (Kd.S_below HO7_0.out hb)
  replace HO9_0 := Aside0.mk (Kd.S_below HO9_0.out hb)
  replace HO11_0 := Aside0.mk (Kd.R_below HO11_0.out hb)
  replace HO18_0 := Aside0.mk (Kd.S_below HO18_0.out hb)
  obtain ⟨Ao19_0, co19_0, ev_⟩ := Kd.R_slice ho0_
  subst ev_
  have HO19_0 := Aside0.mk (Kd.R_lower (Kd.R_mono (ok' := (fun k_ => w18_.heap.size ≤ k_ ∧ k_ < w19_.heap.size)) (Kd.R_bound ho0_) (fun k_ hk_ => ⟨hk_.2.1, hk_.2.2.1⟩)) HB.out.size)
  replace HB := Aside0.mk (below_then HB.out HB.out.size hb)
  clear hb ho0_
  go_wp2_with fail
  (with_reducible refine (impl_SkewLanes.calls k _ _ t21 _ _ t22 t23 _ (Kd.S_reads' HO18_0.out).2.2 (Kd.S_reads' HO18_0.out).2.1 (Kd.R_reads' HO19_0.out).2.2 (Kd.R_reads' HO19_0.out).2.1 A20.out).mono ?_)
  rintro e w20_ ⟨v0_, rfl, ho0_, hb⟩
  have hs20 := Aside0.mk hb.size
  replace HO2_0 := Aside0.mk (Kd.S_below HO2_0.out hb)
  replace HO3_0 := Aside0.mk (Kd.R_below HO3_0.out hb)
  replace HO4_0 := Aside0.mk (Kd.S_below HO4_0.out hb)
  replace HO5_0 := Aside0.mk (Kd.S_below HO5_0.out hb)
  replace HO6_0 := Aside0.mk (Kd.R_below HO6_0.out hb)
  replace HO7_0 := Aside0.mk (Kd.S_below HO7_0.out hb)
  replace HO9_0 := Aside0.mk (Kd.S_below HO9_0.out hb)
  replace HO11_0 := Aside0.mk (Kd.R_below HO11_0.out hb)
  replace HO18_0 := Aside0.mk (Kd.S_below HO18_0.out hb)
  replace HO19_0 := Aside0.mk (Kd.R_below HO19_0.out hb)
  obtain ⟨Ao20_0, co20_0, ev_⟩ := Kd.S_slice ho0_
  subst ev_
  have HO20_0 := Aside0.mk (Kd.S_lower (Kd.S_mono (ok' := (fun k_ => w19_.heap.size ≤ k_ ∧ k_ < w20_.heap.size)) (Kd.S_bound ho0_) (fun k_ hk_ => ⟨hk_.2.1, hk_.2.2.1⟩)) HB.out.size)
  replace HB := Aside0.mk (below_then HB.out HB.out.size hb)
  clear hb ho0_
  go_wp2_with fail
  (with_reducible refine (laws_eqIntSS.calls k _ _ t23 _ _ t4 true _ (Kd.S_reads' HO20_0.out).2.2 (Kd.S_reads' HO20_0.out).2.1 (Kd.S_reads' HO4_0.out).2.2 (Kd.S_reads' HO4_0.out).2.1 A21.out).mono ?_)
  rintro e w21_ ⟨rfl, hb⟩
  replace hb := Drawn0.below hb
  have hs21 := Aside0.mk hb.size
  replace HO2_0 := Aside0.mk (Kd.S_below HO2_0.out hb)
  replace HO3_0 := Aside0.mk (Kd.R_below HO3_0.out hb)
  replace HO4_0 := Aside0.mk (Kd.S_below HO4_0.out hb)
  replace HO5_0 := Aside0.mk (Kd.S_below HO5_0.out hb)
  replace HO6_0 := Aside0.mk (Kd.R_below HO6_0.out hb)
  replace HO7_0 := Aside0.mk (Kd.S_below HO7_0.out hb)
  replace HO9_0 := Aside0.mk (Kd.S_below HO9_0.out hb)
  replace HO11_0 := Aside0.mk (Kd.R_below HO11_0.out hb)
  replace HO18_0 := Aside0.mk (Kd.S_below HO18_0.out hb)
  replace HO19_0 := Aside0.mk (Kd.R_below HO19_0.out hb)
  replace HO20_0 := Aside0.mk (Kd.S_below HO20_0.out hb)
  replace HB := Aside0.mk (below_then HB.out HB.out.size hb)
  clear hb 
  go_wp2_with fail
  refine (calls_cast (by rw [LQHO7_0.out]) (laws_heldIntSS.calls k _ _ t19 1 t18 _ (Kd.S_reads' HO7_0.out).2.2 (by rw [LQHO7_0.out]; exact (Kd.S_reads' HO7_0.out).2.1) A22.out)).mono ?_
  rintro e w22_ ⟨rfl, hb⟩
  replace hb := Drawn0.below hb
  have hs22 := Aside0.mk hb.size
  replace HO2_0 := Aside0.mk (Kd.S_below HO2_0.out hb)
  replace HO3_0 := Aside0.mk (Kd.R_below HO3_0.out hb)
  replace HO4_0 := Aside0.mk (Kd.S_below HO4_0.out hb)
  replace HO5_0 := Aside0.mk (Kd.S_below HO5_0.out hb)
  replace HO6_0 := Aside0.mk (Kd.R_below HO6_0.out hb)
  replace HO7_0 := Aside0.mk (Kd.S_below HO7_0.out hb)
  replace HO9_0 := Aside0.mk (Kd.S_below HO9_0.out hb)
  replace HO11_0 := Aside0.mk (Kd.R_below HO11_0.out hb)
  replace HO18_0 := Aside0.mk (Kd.S_below HO18_0.out hb)
  replace HO19_0 := Aside0.mk (Kd.R_below HO19_0.out hb)
  replace HO20_0 := Aside0.mk (Kd.S_below HO20_0.out hb)
  replace HB := Aside0.mk (below_then HB.out HB.out.size hb)
  clear hb 
  go_wp2
  go_ret
  exact ⟨rfl, HB.out⟩


/-- THE ONE PURE STATEMENT of laws_FnExactSkewLanes. -/
def laws_FnExactSkewLanes.Pure : Prop := ∀ (l0 : List (List Int)) (l1 : List Int), (l0.length ≤ 9223372036854775807 ∧ ∀ e164 ∈ l0, e164.length ≤ 9223372036854775807 ∧ ∀ e165 ∈ e164, (Lit.int .i64 e165).wf = true) → (l1.length ≤ 9223372036854775807 ∧ ∀ e166 ∈ l1, (Lit.int .i64 e166).wf = true) → ∃ k, laws_FnExactSkewLanes.f k l0 l1 = some true

end Go.Proofs.Ytoafbbopicbofaa.PFnExactSkewLanes
