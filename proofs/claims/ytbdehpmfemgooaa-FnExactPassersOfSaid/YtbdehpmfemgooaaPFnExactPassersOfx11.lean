-- Written by a program of this session (wip/xp): not trusted, Lean checks it.
import Derived.Test.YtbdehpmfemgooaaPFnExactPassersOfx0
import Derived.Test.YtbdehpmfemgooaaPFnExactPassersOfx1
import Derived.Test.YtbdehpmfemgooaaPFnExactPassersOfx4
import Derived.Test.YtbdehpmfemgooaaPFnExactPassersOfx5
import Derived.Test.YtbdehpmfemgooaaPFnExactPassersOfx9
import Derived.Test.YtbdehpmfemgooaaPFnExactPassersOfx10
namespace Go.Proofs.Ytbdehpmfemgooaa.PFnExactPassersOf
open Go.RowKit Go.Proofs.YtbdehpmfemgooaaW.PrintWords Go.Proofs.YtbdehpmfemgooaaW.PrintLast Go.Proofs.YtbdehpmfemgooaaW.PrintMore
attribute [local go_sem] max2_int min2_int max_two min_two max_three min_three max_four min_four   -- for this text's walks alone
set_option linter.unusedVariables false
set_option linter.unusedSimpArgs false

/-! ### laws_heldIntS: function 25 -/
def laws_heldIntS.l0 : Nat → List Int → Int → Int → Option (Int)
  | 0, _, _, _ => none
  | k + 1, x0, x1, x5 => if x5 < (x0.length : Int) then (if 0 ≤ x5 then (if (rd x0 x5) = x1 then (laws_heldIntS.l0 k x0 (wrap64 (x1 + 1)) (wrap64 (x5 + 1))) else (some (-1))) else (none)) else (some x1)
def laws_heldIntS.f (k : Nat) (l0 : List Int) (a1 : Int) : Option (Int) := laws_heldIntS.l0 k l0 a1 0
theorem laws_heldIntS.mono_l : ∀ k, (∀ y0 y1 y2, LeO (laws_heldIntS.l0 k y0 y1 y2) (laws_heldIntS.l0 (k + 1) y0 y1 y2))
  | 0 => fun _ _ _ r h => by simp [laws_heldIntS.l0] at h
  | k + 1 => by
    have ih0 := laws_heldIntS.mono_l k
    · intro y0 y1 y2
      unfold laws_heldIntS.l0
      repeat' first
      | (with_reducible exact ih0 _ _ _)
      | (with_reducible exact LeO.refl _)
      | (with_reducible exact LeO.none _)
      | (with_reducible refine LeO.ite ?_ ?_)
      | (with_reducible refine LeO.bind ?_ (fun _ => ?_))
      | exact ih0 _ _ _
      | exact LeO.none _
      | refine LeO.ite ?_ ?_
      | refine LeO.bind ?_ (fun _ => ?_)
theorem laws_heldIntS.mono : ∀ a0 a1 k, LeO (laws_heldIntS.f k a0 a1) (laws_heldIntS.f (k + 1) a0 a1) := by
  intro a0 a1 k
  have ih0 := laws_heldIntS.mono_l k
  unfold laws_heldIntS.f
  repeat' first
      | (with_reducible exact ih0 _ _ _)
      | (with_reducible exact LeO.refl _)
      | (with_reducible exact LeO.none _)
      | (with_reducible refine LeO.ite ?_ ?_)
      | (with_reducible refine LeO.bind ?_ (fun _ => ?_))
      | exact ih0 _ _ _
      | exact LeO.none _
      | refine LeO.ite ?_ ?_
      | refine LeO.bind ?_ (fun _ => ?_)
set_option maxHeartbeats 8000000 in
set_option maxRecDepth 100000 in
theorem laws_heldIntS.calls (k : Nat) (A0 : Option Addr) (c0 : Nat) (l0 : List Int) (a1 : Int) (r : Int) (w : World) (hr0 : Kd.C (Kd.int .i64) w A0 l0.length l0) (hc0 : l0.length ≤ c0) (h : laws_heldIntS.f k l0 a1 = some r) :
    Calls Try.prog 25 #[.slice A0 l0.length c0, .int .i64 a1] w fun e w' => e = .returned (.int .i64 r) ∧ Drawn0 w w' := by
  have HR0 := Aside0.mk hr0
  have HC0 := Aside0.mk hc0
  clear hr0 hc0
  have H : (laws_heldIntS.l0 k l0 a1 0) = some r := h
  clear h
  have H' := Aside0.mk H
  clear H
  go_enter Try.func25, Try.ntmps25
  go_wp2
  go_loopg [1, 5] k (fun kq v1 v5 w' => ∃ (x1_1 : Int) (x5_1 : Int), v1 = .int .i64 x1_1 ∧ v5 = .int .i64 x5_1 ∧ Aside0 (laws_heldIntS.l0 kq l0 x1_1 x5_1 = some r) ∧ Aside0 (kq ≤ k) ∧ Drawn0 w w')
  case atStart => exact ⟨(a1), (0), (by first | rfl | (simp; done) | (simp [*]; done)), (by first | rfl | (simp; done) | (simp [*]; done)), H', ⟨Nat.le_refl _⟩, by repeat (first | exact Drawn0.refl _ | apply Drawn0.step)⟩
  case round =>
    clear H'
    try clear c2
    try clear p2
    obtain ⟨x1_1, x5_1, rfl, rfl, HA, HK1, ⟨m1, rfl⟩⟩ := hrel
    cases gk with
    | zero => exact absurd HA.out (by simp [laws_heldIntS.l0])
    | succ k1 =>
      have H := HA.out
      clear HA
      simp only [laws_heldIntS.l0] at H
      by_cases c3 : x5_1 < (l0.length : Int)
      · rw [if_pos c3] at H
        have c3b0 : decide (x5_1 < (l0.length : Int)) = true := decide_eq_true c3
        clear c3
        by_cases c4 : 0 ≤ x5_1
        · rw [if_pos c4] at H
          have c4b0 : decide (0 ≤ x5_1) = true := decide_eq_true c4
          clear c4
          by_cases c5 : (rd l0 x5_1) = x1_1
          · rw [if_pos c5] at H
            have c5b0 : ((rd l0 x5_1) == x1_1) = true := beq_iff_eq.mpr c5
            have c5b1 : ((rd l0 x5_1) != x1_1) = false := bne_eq_false_iff_eq.mpr c5
            clear c5
            have H' := Aside0.mk H
            clear H
            have p236 : 0 ≤ (x5_1 : Int) := of_decide_eq_true (by first | (with_reducible assumption) | assumption)
            have q236 : x5_1 < (l0.length : Int) := of_decide_eq_true (by first | (with_reducible assumption) | assumption)
            obtain ⟨ad236, e236, hx236_0⟩ := Kd.at_int HR0.out x5_1 p236 q236
            cases e236
            replace p236 := eq_true p236
            replace q236 := eq_true q236
            go_wp2
            go_roundg k1
            case measure => have := HK1.out; omega
            case rel => exact ⟨(wrap64 (x1_1 + 1)), (wrap64 (x5_1 + 1)), (by first | rfl | (simp; done) | (simp [*]; done)), (by first | rfl | (simp; done) | (simp [*]; done)), H', ⟨by have := HK1.out; omega⟩, by repeat (first | exact Drawn0.refl _ | apply Drawn0.step)⟩
          · rw [if_neg c5] at H
            have c5b0 : ((rd l0 x5_1) == x1_1) = false := beq_eq_false_iff_ne.mpr c5
            have c5b1 : ((rd l0 x5_1) != x1_1) = true := bne_iff_ne.mpr c5
            obtain rfl := Option.some.inj H
            have p236 : 0 ≤ (x5_1 : Int) := of_decide_eq_true (by first | (with_reducible assumption) | assumption)
            have q236 : x5_1 < (l0.length : Int) := of_decide_eq_true (by first | (with_reducible assumption) | assumption)
            obtain ⟨ad236, e236, hx236_0⟩ := Kd.at_int HR0.out x5_1 p236 q236
            cases e236
            replace p236 := eq_true p236
            replace q236 := eq_true q236
            go_wp2
            go_ret
            exact ⟨by first | rfl | (simp; done) | (simp [*]; done), by repeat (first | exact Drawn0.refl _ | apply Drawn0.step)⟩
        · rw [if_neg c4] at H
          exact absurd H (by simp)
      · rw [if_neg c3] at H
        have c3b0 : decide (x5_1 < (l0.length : Int)) = false := decide_eq_false c3
        clear c3
        obtain rfl := Option.some.inj H
        go_wp2
        go_ret
        exact ⟨by first | rfl | (simp; done) | (simp [*]; done), by repeat (first | exact Drawn0.refl _ | apply Drawn0.step)⟩

theorem if_true_ {c : Prop} [Decidable c] {a : Option Bool} (h : (if c then a else (some false)) = some true) : c ∧ a = some true := by
  by_cases hc : c
  · rw [if_pos hc] at h; exact ⟨hc, h⟩
  · rw [if_neg hc] at h; simp at h
theorem calls_cast {P : Program} {n : Nat} {a b : Array Value} {w : World} {Q : Ending → World → Prop} (h : a = b) (hc : Calls P n a w Q) : Calls P n b w Q := h ▸ hc

/-! ### laws_FnExactPassersOf: function 4, all its calls in a row -/
def laws_FnExactPassersOf.f (k : Nat) (l0 : List (S69)) : Option (Bool) := ((laws_szPacketS.f k l0 1048576).bind fun t1 => (if t1 < 0 then (some true) else ((laws_toPacketS.f k l0).bind fun t2 => ((spec_PassersOf.f k t2).bind fun t3 => ((laws_toPacketS.f k l0).bind fun t4 => ((impl_PassersOf.f k t4).bind fun t5 => ((laws_eqIntS.f k t5 t3).bind fun t6 => (if t6 = true then ((laws_toPacketS.f k l0).bind fun t7 => ((laws_eqPacketS.f k t4 t7).bind fun t8 => (if t8 = true then ((laws_markPacketS.f k t4 1).bind fun ⟨t9, t10⟩ => (if ¬ (t9 < 0) then ((laws_eqIntS.f k t5 t3).bind fun t11 => (if t11 = true then ((laws_markIntS.f k t5 1).bind fun ⟨t12, t13⟩ => ((laws_heldIntS.f k t13 1).bind fun t14 => (if ¬ (t14 < 0) then (if t12 = t14 then ((laws_toPacketS.f k l0).bind fun t15 => ((impl_PassersOf.f k t15).bind fun t16 => ((laws_eqIntS.f k t16 t3).bind fun t17 => (if t17 = true then ((laws_heldIntS.f k t13 1).bind fun t18 => (if ¬ (t18 < 0) then (if t12 = t18 then (some true) else (some false)) else (some false))) else (some false))))) else (some false)) else (some false)))) else (some false))) else (some false))) else (some false)))) else (some false)))))))))
set_option maxHeartbeats 8000000 in
set_option maxRecDepth 100000 in
theorem laws_FnExactPassersOf.calls (k : Nat) (A0 : Option Addr) (c0 : Nat) (l0 : List (S69)) (r : Bool) (w : World) (hr0 : Kd.C k69 w A0 l0.length l0) (hc0 : l0.length ≤ c0) (hrt : Aside0 (r = true)) (h : laws_FnExactPassersOf.f k l0 = some r) :
    Calls Try.prog 4 #[.slice A0 l0.length c0] w fun e w' => e = .returned (.bool r) ∧ Below w.heap.size w w' := by
  have HR0 := Aside0.mk hr0
  have HC0 := Aside0.mk hc0
  clear hr0 hc0
  obtain rfl := hrt.out
  clear hrt
  have HB := Aside0.mk (Below.refl w.heap.size w)
  unfold laws_FnExactPassersOf.f at h
  have H := h
  clear h
  replace H := Option.bind_eq_some_iff.mp H
  obtain ⟨t1, A1_0, H⟩ := H
  have A1 := Aside0.mk A1_0
  clear A1_0
  by_cases hc4_ : t1 < 0
  case pos =>
    clear H
    have hc4_b0 : decide (t1 < 0) = true := decide_eq_true hc4_
    clear hc4_
    go_enter Try.func4, Try.ntmps4
    go_wp2_with fail
    (with_reducible refine (laws_szPacketS.calls k _ _ l0 1048576 t1 _ (Kd.C_below HR0.out HB.out) HC0.out A1.out).mono ?_)
    rintro e w1_ ⟨rfl, hb⟩
    have hs1 := Aside0.mk hb.size
    replace HB := Aside0.mk (below_then HB.out HB.out.size hb)
    clear hb 
    go_wp2
    go_ret
    exact ⟨rfl, HB.out⟩
  rw [if_neg hc4_] at H
  have hc4_b0 : decide (t1 < 0) = false := decide_eq_false hc4_
  clear hc4_
  replace H := Option.bind_eq_some_iff.mp H
  obtain ⟨t2, A2_0, H⟩ := H
  have A2 := Aside0.mk A2_0
  clear A2_0
  replace H := Option.bind_eq_some_iff.mp H
  obtain ⟨t3, A3_0, H⟩ := H
  have A3 := Aside0.mk A3_0
  clear A3_0
  replace H := Option.bind_eq_some_iff.mp H
  obtain ⟨t4, A4_0, H⟩ := H
  have A4 := Aside0.mk A4_0
  clear A4_0
  replace H := Option.bind_eq_some_iff.mp H
  obtain ⟨t5, A5_0, H⟩ := H
  have A5 := Aside0.mk A5_0
  clear A5_0
  replace H := Option.bind_eq_some_iff.mp H
  obtain ⟨t6, A6_0, H⟩ := H
  have A6 := Aside0.mk A6_0
  clear A6_0
  replace H := if_true_ H
  obtain ⟨hc42_, H⟩ := H
  subst hc42_
  replace H := Option.bind_eq_some_iff.mp H
  obtain ⟨t7, A7_0, H⟩ := H
  have A7 := Aside0.mk A7_0
  clear A7_0
  replace H := Option.bind_eq_some_iff.mp H
  obtain ⟨t8, A8_0, H⟩ := H
  have A8 := Aside0.mk A8_0
  clear A8_0
  replace H := if_true_ H
  obtain ⟨hc53_, H⟩ := H
  subst hc53_
  replace H := Option.bind_eq_some_iff.mp H
  obtain ⟨⟨t9, t10⟩, A9_0, H⟩ := H
  have A9 := Aside0.mk A9_0
  clear A9_0
  replace H := if_true_ H
  obtain ⟨hc60_, H⟩ := H
  have hc60_b0 : decide (t9 < 0) = false := decide_eq_false hc60_
  clear hc60_
  replace H := Option.bind_eq_some_iff.mp H
  obtain ⟨t11, A10_0, H⟩ := H
  have A10 := Aside0.mk A10_0
  clear A10_0
  replace H := if_true_ H
  obtain ⟨hc68_, H⟩ := H
  subst hc68_
  replace H := Option.bind_eq_some_iff.mp H
  obtain ⟨⟨t12, t13⟩, A11_0, H⟩ := H
  have A11 := Aside0.mk A11_0
  clear A11_0
  replace H := Option.bind_eq_some_iff.mp H
  obtain ⟨t14, A12_0, H⟩ := H
  have A12 := Aside0.mk A12_0
  clear A12_0
  replace H := if_true_ H
  obtain ⟨hc79_, H⟩ := H
  have hc79_b0 : decide (t14 < 0) = false := decide_eq_false hc79_
  clear hc79_
  replace H := if_true_ H
  obtain ⟨hc83_, H⟩ := H
  subst hc83_
  replace H := Option.bind_eq_some_iff.mp H
  obtain ⟨t15, A13_0, H⟩ := H
  have A13 := Aside0.mk A13_0
  clear A13_0
  replace H := Option.bind_eq_some_iff.mp H
  obtain ⟨t16, A14_0, H⟩ := H
  have A14 := Aside0.mk A14_0
  clear A14_0
  replace H := Option.bind_eq_some_iff.mp H
  obtain ⟨t17, A15_0, H⟩ := H
  have A15 := Aside0.mk A15_0
  clear A15_0
  replace H := if_true_ H
  obtain ⟨hc98_, H⟩ := H
  subst hc98_
  replace H := Option.bind_eq_some_iff.mp H
  obtain ⟨t18, A16_0, H⟩ := H
  have A16 := Aside0.mk A16_0
  clear A16_0
  replace H := if_true_ H
  obtain ⟨hc105_, H⟩ := H
  have hc105_b0 : decide (t18 < 0) = false := decide_eq_false hc105_
  clear hc105_
  replace H := if_true_ H
  obtain ⟨hc109_, H⟩ := H
  subst hc109_
  clear H
  go_enter Try.func4, Try.ntmps4
  go_wp2_with fail
  (with_reducible refine (laws_szPacketS.calls k _ _ l0 1048576 t1 _ (Kd.C_below HR0.out HB.out) HC0.out A1.out).mono ?_)
  rintro e w1_ ⟨rfl, hb⟩
  have hs1 := Aside0.mk hb.size
  replace HB := Aside0.mk (below_then HB.out HB.out.size hb)
  clear hb 
  go_wp2_with fail
  (with_reducible refine (laws_toPacketS.calls k _ _ l0 t2 _ (Kd.C_below HR0.out HB.out) HC0.out A2.out).mono ?_)
  rintro e w2_ ⟨v0_, rfl, ho0_, hb⟩
  have hs2 := Aside0.mk hb.size
  obtain ⟨Ao2_0, co2_0, ev_⟩ := Kd.S_slice ho0_
  subst ev_
  have HO2_0 := Aside0.mk (Kd.S_lower (Kd.S_mono (ok' := (fun k_ => w1_.heap.size ≤ k_ ∧ k_ < w2_.heap.size)) (Kd.S_bound ho0_) (fun k_ hk_ => ⟨hk_.2.1, hk_.2.2.1⟩)) HB.out.size)
  replace HB := Aside0.mk (below_then HB.out HB.out.size hb)
  clear hb ho0_
  go_wp2_with fail
  (with_reducible refine (spec_PassersOf.calls k _ _ t2 t3 _ (Kd.S_reads' HO2_0.out).2.2 (Kd.S_reads' HO2_0.out).2.1 A3.out).mono ?_)
  rintro e w3_ ⟨v0_, rfl, ho0_, hb⟩
  have hs3 := Aside0.mk hb.size
  replace HO2_0 := Aside0.mk (Kd.S_below HO2_0.out hb)
  obtain ⟨Ao3_0, co3_0, ev_⟩ := Kd.R_slice ho0_
  subst ev_
  have HO3_0 := Aside0.mk (Kd.R_lower (Kd.R_mono (ok' := (fun k_ => w2_.heap.size ≤ k_ ∧ k_ < w3_.heap.size)) (Kd.R_bound ho0_) (fun k_ hk_ => ⟨hk_.2.1, hk_.2.2.1⟩)) HB.out.size)
  replace HB := Aside0.mk (below_then HB.out HB.out.size hb)
  clear hb ho0_
  go_wp2_with fail
  (with_reducible refine (laws_toPacketS.calls k _ _ l0 t4 _ (Kd.C_below HR0.out HB.out) HC0.out A4.out).mono ?_)
  rintro e w4_ ⟨v0_, rfl, ho0_, hb⟩
  have hs4 := Aside0.mk hb.size
  replace HO2_0 := Aside0.mk (Kd.S_below HO2_0.out hb)
  replace HO3_0 := Aside0.mk (Kd.R_below HO3_0.out hb)
  obtain ⟨Ao4_0, co4_0, ev_⟩ := Kd.S_slice ho0_
  subst ev_
  have HO4_0 := Aside0.mk (Kd.S_lower (Kd.S_mono (ok' := (fun k_ => w3_.heap.size ≤ k_ ∧ k_ < w4_.heap.size)) (Kd.S_bound ho0_) (fun k_ hk_ => ⟨hk_.2.1, hk_.2.2.1⟩)) HB.out.size)
  replace HB := Aside0.mk (below_then HB.out HB.out.size hb)
  clear hb ho0_
  go_wp2_with fail
  (with_reducible refine (impl_PassersOf.calls k _ _ t4 t5 _ (Kd.S_reads' HO4_0.out).2.2 (Kd.S_reads' HO4_0.out).2.1 A5.out).mono ?_)
  rintro e w5_ ⟨v0_, rfl, ho0_, hb⟩
  have hs5 := Aside0.mk hb.size
  replace HO2_0 := Aside0.mk (Kd.S_below HO2_0.out hb)
  replace HO3_0 := Aside0.mk (Kd.R_below HO3_0.out hb)
  replace HO4_0 := Aside0.mk (Kd.S_below HO4_0.out hb)
  obtain ⟨Ao5_0, co5_0, ev_⟩ := Kd.R_slice ho0_
  subst ev_
  have HO5_0 := Aside0.mk (Kd.R_lower (Kd.R_mono (ok' := (fun k_ => w4_.heap.size ≤ k_ ∧ k_ < w5_.heap.size)) (Kd.R_bound ho0_) (fun k_ hk_ => ⟨hk_.2.1, hk_.2.2.1⟩)) HB.out.size)
  replace HB := Aside0.mk (below_then HB.out HB.out.size hb)
  clear hb ho0_
  go_wp2_with fail
  (with_reducible refine (laws_eqIntS.calls k _ _ t5 _ _ t3 true _ (Kd.R_reads' HO5_0.out).2.2 (Kd.R_reads' HO5_0.out).2.1 (Kd.R_reads' HO3_0.out).2.2 (Kd.R_reads' HO3_0.out).2.1 A6.out).mono ?_)
  rintro e w6_ ⟨rfl, hb⟩
  replace hb := Drawn0.below hb
  have hs6 := Aside0.mk hb.size
  replace HO2_0 := Aside0.mk (Kd.S_below HO2_0.out hb)
  replace HO3_0 := Aside0.mk (Kd.R_below HO3_0.out hb)
  replace HO4_0 := Aside0.mk (Kd.S_below HO4_0.out hb)
  replace HO5_0 := Aside0.mk (Kd.R_below HO5_0.out hb)
  replace HB := Aside0.mk (below_then HB.out HB.out.size hb)
  clear hb 
  go_wp2_with fail
  (with_reducible refine (laws_toPacketS.calls k _ _ l0 t7 _ (Kd.C_below HR0.out HB.out) HC0.out A7.out).mono ?_)
  rintro e w7_ ⟨v0_, rfl, ho0_, hb⟩
  have hs7 := Aside0.mk hb.size
  replace HO2_0 := Aside0.mk (Kd.S_below HO2_0.out hb)
  replace HO3_0 := Aside0.mk (Kd.R_below HO3_0.out hb)
  replace HO4_0 := Aside0.mk (Kd.S_below HO4_0.out hb)
  replace HO5_0 := Aside0.mk (Kd.R_below HO5_0.out hb)
  obtain ⟨Ao7_0, co7_0, ev_⟩ := Kd.S_slice ho0_
  subst ev_
  have HO7_0 := Aside0.mk (Kd.S_lower (Kd.S_mono (ok' := (fun k_ => w6_.heap.size ≤ k_ ∧ k_ < w7_.heap.size)) (Kd.S_bound ho0_) (fun k_ hk_ => ⟨hk_.2.1, hk_.2.2.1⟩)) HB.out.size)
  replace HB := Aside0.mk (below_then HB.out HB.out.size hb)
  clear hb ho0_
  go_wp2_with fail
  (with_reducible refine (laws_eqPacketS.calls k _ _ t4 _ _ t7 true _ (Kd.S_reads' HO4_0.out).2.2 (Kd.S_reads' HO4_0.out).2.1 (Kd.S_reads' HO7_0.out).2.2 (Kd.S_reads' HO7_0.out).2.1 A8.out).mono ?_)
  rintro e w8_ ⟨rfl, hb⟩
  have hs8 := Aside0.mk hb.size
  replace HO2_0 := Aside0.mk (Kd.S_below HO2_0.out hb)
  replace HO3_0 := Aside0.mk (Kd.R_below HO3_0.out hb)
  replace HO4_0 := Aside0.mk (Kd.S_below HO4_0.out hb)
  replace HO5_0 := Aside0.mk (Kd.R_below HO5_0.out hb)
  replace HO7_0 := Aside0.mk (Kd.S_below HO7_0.out hb)
  replace HB := Aside0.mk (below_then HB.out HB.out.size hb)
  clear hb 
  go_wp2_with fail
  (with_reducible refine (laws_markPacketS.calls k (fun k_ => w3_.heap.size ≤ k_ ∧ k_ < w4_.heap.size) (.slice Ao4_0 t4.length co4_0) t4 1 t9 t10 w _ HB.out HO4_0.out A9.out).mono ?_)
  rintro e w9_ ⟨rfl, ho0_, ho1_, hkp⟩
  have hs9 := Aside0.mk hkp.1
  replace HO2_0 := Aside0.mk (Kd.S_kept HO2_0.out hkp (fun k_ hk_ hs_ => by obtain ⟨hk1_, hk2_⟩ := hk_; obtain ⟨hs1_, hs2_⟩ := hs_; have := hs1.out; have := hs2.out; have := hs3.out; have := hs4.out; have := hs5.out; have := hs6.out; have := hs7.out; have := hs8.out; have := hs9.out; omega))
  replace HO3_0 := Aside0.mk (Kd.R_kept HO3_0.out hkp (fun k_ hk_ hs_ => by obtain ⟨hk1_, hk2_⟩ := hk_; obtain ⟨hs1_, hs2_⟩ := hs_; have := hs1.out; have := hs2.out; have := hs3.out; have := hs4.out; have := hs5.out; have := hs6.out; have := hs7.out; have := hs8.out; have := hs9.out; omega))
  replace HO5_0 := Aside0.mk (Kd.R_kept HO5_0.out hkp (fun k_ hk_ hs_ => by obtain ⟨hk1_, hk2_⟩ := hk_; obtain ⟨hs1_, hs2_⟩ := hs_; have := hs1.out; have := hs2.out; have := hs3.out; have := hs4.out; have := hs5.out; have := hs6.out; have := hs7.out; have := hs8.out; have := hs9.out; omega))
  replace HO7_0 := Aside0.mk (Kd.S_kept HO7_0.out hkp (fun k_ hk_ hs_ => by obtain ⟨hk1_, hk2_⟩ := hk_; obtain ⟨hs1_, hs2_⟩ := hs_; have := hs1.out; have := hs2.out; have := hs3.out; have := hs4.out; have := hs5.out; have := hs6.out; have := hs7.out; have := hs8.out; have := hs9.out; omega))
  replace HO4_0 := Aside0.mk ho0_
  have LQHO4_0 := Aside0.mk (Kd.S_reads' HO4_0.out).1.symm
  replace HB := Aside0.mk ho1_
  clear hkp ho0_ ho1_
  go_wp2_with fail
  (with_reducible refine (laws_eqIntS.calls k _ _ t5 _ _ t3 true _ (Kd.R_reads' HO5_0.out).2.2 (Kd.R_reads' HO5_0.out).2.1 (Kd.R_reads' HO3_0.out).2.2 (Kd.R_reads' HO3_0.out).2.1 A10.out).mono ?_)
  rintro e w10_ ⟨rfl, hb⟩
  replace hb := Drawn0.below hb
  have hs10 := Aside0.mk hb.size
  replace HO2_0 := Aside0.mk (Kd.S_below HO2_0.out hb)
  replace HO3_0 := Aside0.mk (Kd.R_below HO3_0.out hb)
  replace HO4_0 := Aside0.mk (Kd.S_below HO4_0.out hb)
  replace HO5_0 := Aside0.mk (Kd.R_below HO5_0.out hb)
  replace HO7_0 := Aside0.mk (Kd.S_below HO7_0.out hb)
  replace HB := Aside0.mk (below_then HB.out HB.out.size hb)
  clear hb 
  go_wp2_with fail
  (with_reducible refine (laws_markIntS.calls k (fun k_ => w4_.heap.size ≤ k_ ∧ k_ < w5_.heap.size) (.slice Ao5_0 t5.length co5_0) t5 1 t12 t13 w _ HB.out HO5_0.out A11.out).mono ?_)
  rintro e w11_ ⟨rfl, ho0_, ho1_, hkp⟩
  have hs11 := Aside0.mk hkp.1
  replace HO2_0 := Aside0.mk (Kd.S_kept HO2_0.out hkp (fun k_ hk_ hs_ => by obtain ⟨hk1_, hk2_⟩ := hk_; obtain ⟨hs1_, hs2_⟩ := hs_; have := hs1.out; have := hs2.out; have := hs3.out; have := hs4.out; have := hs5.out; have := hs6.out; have := hs7.out; have := hs8.out; have := hs9.out; have := hs10.out; have := hs11.out; omega))
  replace HO3_0 := Aside0.mk (Kd.R_kept HO3_0.out hkp (fun k_ hk_ hs_ => by obtain ⟨hk1_, hk2_⟩ := hk_; obtain ⟨hs1_, hs2_⟩ := hs_; have := hs1.out; have := hs2.out; have := hs3.out; have := hs4.out; have := hs5.out; have := hs6.out; have := hs7.out; have := hs8.out; have := hs9.out; have := hs10.out; have := hs11.out; omega))
  replace HO4_0 := Aside0.mk (Kd.S_kept HO4_0.out hkp (fun k_ hk_ hs_ => by obtain ⟨hk1_, hk2_⟩ := hk_; obtain ⟨hs1_, hs2_⟩ := hs_; have := hs1.out; have := hs2.out; have := hs3.out; have := hs4.out; have := hs5.out; have := hs6.out; have := hs7.out; have := hs8.out; have := hs9.out; have := hs10.out; have := hs11.out; omega))
  replace HO7_0 := Aside0.mk (Kd.S_kept HO7_0.out hkp (fun k_ hk_ hs_ => by obtain ⟨hk1_, hk2_⟩ := hk_; obtain ⟨hs1_, hs2_⟩ := hs_; have := hs1.out; have := hs2.out; have := hs3.out; have := hs4.out; have := hs5.out; have := hs6.out; have := hs7.out; have := hs8.out; have := hs9.out; have := hs10.out; have := hs11.out; omega))
  replace HO5_0 := Aside0.mk (Kd.R_reok rfl ho0_ (fun k_ e_ => HO5_0.out.1 k_ e_))
  have LQHO5_0 := Aside0.mk (Kd.R_reads' HO5_0.out).1.symm
  replace HB := Aside0.mk ho1_
  clear hkp ho0_ ho1_
  go_wp2_with fail
  refine (calls_cast (by rw [LQHO5_0.out]) (laws_heldIntS.calls k _ _ t13 1 t12 _ (Kd.R_reads' HO5_0.out).2.2 (by rw [LQHO5_0.out]; exact (Kd.R_reads' HO5_0.out).2.1) A12.out)).mono ?_
  rintro e w12_ ⟨rfl, hb⟩
  replace hb := Drawn0.below hb
  have hs12 := Aside0.mk hb.size
  replace HO2_0 := Aside0.mk (Kd.S_below HO2_0.out hb)
  replace HO3_0 := Aside0.mk (Kd.R_below HO3_0.out hb)
  replace HO4_0 := Aside0.mk (Kd.S_below HO4_0.out hb)
  replace HO5_0 := Aside0.mk (Kd.R_below HO5_0.out hb)
  replace HO7_0 := Aside0.mk (Kd.S_below HO7_0.out hb)
  replace HB := Aside0.mk (below_then HB.out HB.out.size hb)
  clear hb 
  go_wp2_with fail
  (with_reducible refine (laws_toPacketS.calls k _ _ l0 t15 _ (Kd.C_below HR0.out HB.out) HC0.out A13.out).mono ?_)
  rintro e w13_ ⟨v0_, rfl, ho0_, hb⟩
  have hs13 := Aside0.mk hb.size
  replace HO2_0 := Aside0.mk (Kd.S_below HO2_0.out hb)
  replace HO3_0 := Aside0.mk (Kd.R_below HO3_0.out hb)
  replace HO4_0 := Aside0.mk (Kd.S_below HO4_0.out hb)
  replace HO5_0 := Aside0.mk (Kd.R_below HO5_0.out hb)
  replace HO7_0 := Aside0.mk (Kd.S_below HO7_0.out hb)
  obtain ⟨Ao13_0, co13_0, ev_⟩ := Kd.S_slice ho0_
  subst ev_
  have HO13_0 := Aside0.mk (Kd.S_lower (Kd.S_mono (ok' := (fun k_ => w12_.heap.size ≤ k_ ∧ k_ < w13_.heap.size)) (Kd.S_bound ho0_) (fun k_ hk_ => ⟨hk_.2.1, hk_.2.2.1⟩)) HB.out.size)
  replace HB := Aside0.mk (below_then HB.out HB.out.size hb)
  clear hb ho0_
  go_wp2_with fail
  (with_reducible refine (impl_PassersOf.calls k _ _ t15 t16 _ (Kd.S_reads' HO13_0.out).2.2 (Kd.S_reads' HO13_0.out).2.1 A14.out).mono ?_)
  rintro e w14_ ⟨v0_, rfl, ho0_, hb⟩
  have hs14 := Aside0.mk hb.size
  replace HO2_0 := Aside0.mk (Kd.S_below HO2_0.out hb)
  replace HO3_0 := Aside0.mk (Kd.R_below HO3_0.out hb)
  replace HO4_0 := Aside0.mk (Kd.S_below HO4_0.out hb)
  replace HO5_0 := Aside0.mk (Kd.R_below HO5_0.out hb)
  replace HO7_0 := Aside0.mk (Kd.S_below HO7_0.out hb)
  replace HO13_0 := Aside0.mk (Kd.S_below HO13_0.out hb)
  obtain ⟨Ao14_0, co14_0, ev_⟩ := Kd.R_slice ho0_
  subst ev_
  have HO14_0 := Aside0.mk (Kd.R_lower (Kd.R_mono (ok' := (fun k_ => w13_.heap.size ≤ k_ ∧ k_ < w14_.heap.size)) (Kd.R_bound ho0_) (fun k_ hk_ => ⟨hk_.2.1, hk_.2.2.1⟩)) HB.out.size)
  replace HB := Aside0.mk (below_then HB.out HB.out.size hb)
  clear hb ho0_
  go_wp2_with fail
  (with_reducible refine (laws_eqIntS.calls k _ _ t16 _ _ t3 true _ (Kd.R_reads' HO14_0.out).2.2 (Kd.R_reads' HO14_0.out).2.1 (Kd.R_reads' HO3_0.out).2.2 (Kd.R_reads' HO3_0.out).2.1 A15.out).mono ?_)
  rintro e w15_ ⟨rfl, hb⟩
  replace hb := Drawn0.below hb
  have hs15 := Aside0.mk hb.size
  replace HO2_0 := Aside0.mk (Kd.S_below HO2_0.out hb)
  replace HO3_0 := Aside0.mk (Kd.R_below HO3_0.out hb)
  replace HO4_0 := Aside0.mk (Kd.S_below HO4_0.out hb)
  replace HO5_0 := Aside0.mk (Kd.R_below HO5_0.out hb)
  replace HO7_0 := Aside0.mk (Kd.S_below HO7_0.out hb)
  replace HO13_0 := Aside0.mk (Kd.S_below HO13_0.out hb)
  replace HO14_0 := Aside0.mk (Kd.R_below HO14_0.out hb)
  replace HB := Aside0.mk (below_then HB.out HB.out.size hb)
  clear hb 
  go_wp2_with fail
  refine (calls_cast (by rw [LQHO5_0.out]) (laws_heldIntS.calls k _ _ t13 1 t12 _ (Kd.R_reads' HO5_0.out).2.2 (by rw [LQHO5_0.out]; exact (Kd.R_reads' HO5_0.out).2.1) A16.out)).mono ?_
  rintro e w16_ ⟨rfl, hb⟩
  replace hb := Drawn0.below hb
  have hs16 := Aside0.mk hb.size
  replace HO2_0 := Aside0.mk (Kd.S_below HO2_0.out hb)
  replace HO3_0 := Aside0.mk (Kd.R_below HO3_0.out hb)
  replace HO4_0 := Aside0.mk (Kd.S_below HO4_0.out hb)
  replace HO5_0 := Aside0.mk (Kd.R_below HO5_0.out hb)
  replace HO7_0 := Aside0.mk (Kd.S_below HO7_0.out hb)
  replace HO13_0 := Aside0.mk (Kd.S_below HO13_0.out hb)
  replace HO14_0 := Aside0.mk (Kd.R_below HO14_0.out hb)
  replace HB := Aside0.mk (below_then HB.out HB.out.size hb)
  clear hb 
  go_wp2
  go_ret
  exact ⟨rfl, HB.out⟩


/-- THE ONE PURE STATEMENT of laws_FnExactPassersOf. -/
def laws_FnExactPassersOf.Pure : Prop := ∀ (l0 : List (S69)), (l0.length ≤ 9223372036854775807 ∧ ∀ e237 ∈ l0, ((Lit.int .i64 e237.f0).wf = true) ∧ (((Lit.int .i64 e237.f1).wf = true) ∧ (((Lit.int .i64 e237.f2).wf = true) ∧ (((Lit.int .i64 e237.f3).wf = true) ∧ (((Lit.int .i64 e237.f4).wf = true) ∧ (((Lit.int .i64 e237.f5).wf = true) ∧ (((Lit.int .i64 e237.f6).wf = true) ∧ ((e237.f7.length ≤ 9223372036854775807 ∧ ∀ e238 ∈ e237.f7, (Lit.int .i64 e238).wf = true))))))))) → ∃ k, laws_FnExactPassersOf.f k l0 = some true

end Go.Proofs.Ytbdehpmfemgooaa.PFnExactPassersOf
