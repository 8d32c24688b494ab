-- Written by a program of this session (wip/xp): not trusted, Lean checks it.
import Derived.Test.YtlombfmebinjbaaPFnExactTellCreditsx0
import Derived.Test.YtlombfmebinjbaaPFnExactTellCreditsx1
import Derived.Test.YtlombfmebinjbaaPFnExactTellCreditsx8
namespace Go.Proofs.Ytlombfmebinjbaa.PFnExactTellCredits
open Go.RowKit Go.Proofs.YtlombfmebinjbaaW.PrintWords Go.Proofs.YtlombfmebinjbaaW.PrintLast Go.Proofs.YtlombfmebinjbaaW.PrintMore
attribute [local go_sem] max2_int min2_int max_two min_two max_three min_three max_four min_four   -- for this text's walks alone
set_option linter.unusedVariables false
set_option linter.unusedSimpArgs false

/-! ### spec_ClassOf: function 35, its calls in a row -/
def spec_ClassOf.f (k : Nat) (a0_0 : Int) (a0_1 : Int) (a0_2 : Int) (a0_3 : Int) (a0_4 : Int) (a0_5 : Int) (a0_6 : Int) (l0_7 : List Int) : Option ((Int)) := ((spec_IsPacket.f k a0_0 a0_1 a0_2 a0_3 a0_4 a0_5 a0_6 l0_7).bind fun t1 => (if t1 = true then (if a0_0 = 1 then (some (0)) else (if a0_0 = 2 then (some (0)) else (if a0_0 = 6 then (some (2)) else (some (1))))) else (some (-1))))
set_option maxHeartbeats 8000000 in
set_option maxRecDepth 100000 in
theorem spec_ClassOf.calls (k : Nat) (a0_0 : Int) (a0_1 : Int) (a0_2 : Int) (a0_3 : Int) (a0_4 : Int) (a0_5 : Int) (a0_6 : Int) (A0_7 : Option Addr) (c0_7 : Nat) (l0_7 : List Int) (r : Int) (w : World) (hr0_7 : Kd.C (Kd.int .i64) w A0_7 l0_7.length l0_7) (hc0_7 : l0_7.length ≤ c0_7) (h : spec_ClassOf.f k a0_0 a0_1 a0_2 a0_3 a0_4 a0_5 a0_6 l0_7 = some r) :
  Calls Try.prog 35 #[.agg #[.int .i64 a0_0, .int .i64 a0_1, .int .i64 a0_2, .int .i64 a0_3, .int .i64 a0_4, .int .i64 a0_5, .int .i64 a0_6, .slice A0_7 l0_7.length c0_7]] w fun e w' => e = .returned (.int .i64 r) ∧ Below w.heap.size w w' := by
 have HR0_7 := A_.mk hr0_7
 have HC0_7 := A_.mk hc0_7
 clear hr0_7 hc0_7
 have HB := A_.mk (Below.refl w.heap.size w)
 unfold spec_ClassOf.f at h
 have H := h
 clear h
 replace H := oa_ H
 obtain ⟨t1, A2, H⟩ := H
 replace H := A_.mk H
 have hu38 := Try.underlying38
 go_enter Try.func35, Try.ntmps35
 have HS := A_.mk (Nat.le_refl w.heap.size)
 go_wp2_with (first | ((with_reducible refine gd_ (N := 1) rfl ?_); refine by_ 1 (cs := #[.int .i64 a0_0, .int .i64 a0_1, .int .i64 a0_2, .int .i64 a0_3, .int .i64 a0_4, .int .i64 a0_5, .int .i64 a0_6, .slice A0_7 l0_7.length c0_7]) (t := 38) ?_; intro gb1_ hg w1_ hbox hb; replace HS := A_.mk (And.intro HS.out (show gb1_ = w.heap.size ∧ gb1_ < w1_.heap.size from ⟨hg, blk_lt hbox⟩)); replace HB := aHB HB hb; have BK1 := A_.mk hbox; clear hbox hb hg; have Q1 := blk8_ BK1.out))
 (with_reducible refine (spec_IsPacket.calls k a0_0 a0_1 a0_2 a0_3 a0_4 a0_5 a0_6 _ _ l0_7 t1 _ (Kd.C_below HR0_7.out HB.out) HC0_7.out A2.out).mono ?_)
 rintro e w2_ ⟨rfl, hb⟩
 replace HS := aHs HS hb.size
 replace BK1 := aBb BK1 hb
 replace HB := aHB HB hb
 clear hb  Q1
 have Q1 := blk8_ BK1.out
 replace H := H.out
 by_cases hc1_ : t1 = true
 case neg =>
  rw [if_neg hc1_] at H
  replace hc1_ := eq_false_of_ne_true hc1_
  subst hc1_
  replace H := Option.some.inj H
  subst H
  go_wp2
  go_ret
  exact ⟨rfl, HB.out⟩
 rw [if_pos hc1_] at H
 subst hc1_
 by_cases hc2_ : a0_0 = 1
 case pos =>
  rw [if_pos hc2_] at H
  have hc2_b0 : (a0_0 == 1) = true := beq_iff_eq.mpr hc2_
  have hc2_bn : (a0_0 != 1) = false := bne_eq_false_iff_eq.mpr hc2_
  replace hc2_ := A_.mk hc2_
  replace H := Option.some.inj H
  subst H
  go_wp2
  go_ret
  exact ⟨rfl, HB.out⟩
 rw [if_neg hc2_] at H
 have hc2_b0 : (a0_0 == 1) = false := beq_eq_false_iff_ne.mpr hc2_
 have hc2_bn : (a0_0 != 1) = true := bne_iff_ne.mpr hc2_
 by_cases hc3_ : a0_0 = 2
 case pos =>
  rw [if_pos hc3_] at H
  have hc3_b0 : (a0_0 == 2) = true := beq_iff_eq.mpr hc3_
  have hc3_bn : (a0_0 != 2) = false := bne_eq_false_iff_eq.mpr hc3_
  replace hc3_ := A_.mk hc3_
  replace H := Option.some.inj H
  subst H
  go_wp2
  go_ret
  exact ⟨rfl, HB.out⟩
 rw [if_neg hc3_] at H
 have hc3_b0 : (a0_0 == 2) = false := beq_eq_false_iff_ne.mpr hc3_
 have hc3_bn : (a0_0 != 2) = true := bne_iff_ne.mpr hc3_
 by_cases hc4_ : a0_0 = 6
 case pos =>
  rw [if_pos hc4_] at H
  have hc4_b0 : (a0_0 == 6) = true := beq_iff_eq.mpr hc4_
  have hc4_bn : (a0_0 != 6) = false := bne_eq_false_iff_eq.mpr hc4_
  replace hc4_ := A_.mk hc4_
  replace H := Option.some.inj H
  subst H
  go_wp2
  go_ret
  exact ⟨rfl, HB.out⟩
 rw [if_neg hc4_] at H
 have hc4_b0 : (a0_0 == 6) = false := beq_eq_false_iff_ne.mpr hc4_
 have hc4_bn : (a0_0 != 6) = true := bne_iff_ne.mpr hc4_
 replace H := Option.some.inj H
 subst H
 go_wp2
 go_ret
 exact ⟨rfl, HB.out⟩
/-! ### spec_PacketUnits: function 36, its calls in a row -/
def spec_PacketUnits.f (k : Nat) (a0_0 : Int) (a0_1 : Int) (a0_2 : Int) (a0_3 : Int) (a0_4 : Int) (a0_5 : Int) (a0_6 : Int) (l0_7 : List Int) : Option ((Int)) := ((spec_IsPacket.f k a0_0 a0_1 a0_2 a0_3 a0_4 a0_5 a0_6 l0_7).bind fun t1 => (if t1 = true then (some ((wrap64 (Int.tdiv (wrap64 ((l0_7.length : Int) + 3)) 4)))) else (some (-1))))
set_option maxHeartbeats 8000000 in
set_option maxRecDepth 100000 in
theorem spec_PacketUnits.calls (k : Nat) (a0_0 : Int) (a0_1 : Int) (a0_2 : Int) (a0_3 : Int) (a0_4 : Int) (a0_5 : Int) (a0_6 : Int) (A0_7 : Option Addr) (c0_7 : Nat) (l0_7 : List Int) (r : Int) (w : World) (hr0_7 : Kd.C (Kd.int .i64) w A0_7 l0_7.length l0_7) (hc0_7 : l0_7.length ≤ c0_7) (h : spec_PacketUnits.f k a0_0 a0_1 a0_2 a0_3 a0_4 a0_5 a0_6 l0_7 = some r) :
  Calls Try.prog 36 #[.agg #[.int .i64 a0_0, .int .i64 a0_1, .int .i64 a0_2, .int .i64 a0_3, .int .i64 a0_4, .int .i64 a0_5, .int .i64 a0_6, .slice A0_7 l0_7.length c0_7]] w fun e w' => e = .returned (.int .i64 r) ∧ Below w.heap.size w w' := by
 have HR0_7 := A_.mk hr0_7
 have HC0_7 := A_.mk hc0_7
 clear hr0_7 hc0_7
 have HB := A_.mk (Below.refl w.heap.size w)
 unfold spec_PacketUnits.f at h
 have H := h
 clear h
 replace H := oa_ H
 obtain ⟨t1, A2, H⟩ := H
 replace H := A_.mk H
 have hu38 := Try.underlying38
 go_enter Try.func36, Try.ntmps36
 have HS := A_.mk (Nat.le_refl w.heap.size)
 go_wp2_with (first | ((with_reducible refine gd_ (N := 1) rfl ?_); refine by_ 1 (cs := #[.int .i64 a0_0, .int .i64 a0_1, .int .i64 a0_2, .int .i64 a0_3, .int .i64 a0_4, .int .i64 a0_5, .int .i64 a0_6, .slice A0_7 l0_7.length c0_7]) (t := 38) ?_; intro gb1_ hg w1_ hbox hb; replace HS := A_.mk (And.intro HS.out (show gb1_ = w.heap.size ∧ gb1_ < w1_.heap.size from ⟨hg, blk_lt hbox⟩)); replace HB := aHB HB hb; have BK1 := A_.mk hbox; clear hbox hb hg; have Q1 := blk8_ BK1.out))
 (with_reducible refine (spec_IsPacket.calls k a0_0 a0_1 a0_2 a0_3 a0_4 a0_5 a0_6 _ _ l0_7 t1 _ (Kd.C_below HR0_7.out HB.out) HC0_7.out A2.out).mono ?_)
 rintro e w2_ ⟨rfl, hb⟩
 replace HS := aHs HS hb.size
 replace BK1 := aBb BK1 hb
 replace HB := aHB HB hb
 clear hb  Q1
 have Q1 := blk8_ BK1.out
 replace H := H.out
 by_cases hc1_ : t1 = true
 case pos =>
  rw [if_pos hc1_] at H
  subst hc1_
  replace H := Option.some.inj H
  subst H
  go_wp2
  go_ret
  exact ⟨rfl, HB.out⟩
 rw [if_neg hc1_] at H
 replace hc1_ := eq_false_of_ne_true hc1_
 subst hc1_
 replace H := Option.some.inj H
 subst H
 go_wp2
 go_ret
 exact ⟨rfl, HB.out⟩


/-! ### spec_l04Ints: function 75 -/
def spec_l04Ints.l0 : Nat → List Int → List Int → Int → Option (Bool)
 | 0, _, _, _ => none
 | k + 1, x0, x1, x5 => if x5 < (x0.length : Int) then (if 0 ≤ x5 then (if x5 < (x1.length : Int) then (if (rd x0 x5) = (rd x1 x5) then (spec_l04Ints.l0 k x0 x1 (wrap64 (x5 + 1))) else (some false)) else (none)) else (none)) else (some true)
def spec_l04Ints.f (k : Nat) (l0 : List Int) (l1 : List Int) : Option (Bool) := if (l0.length : Int) = (l1.length : Int) then (spec_l04Ints.l0 k l0 l1 0) else (some false)
set_option maxHeartbeats 8000000 in
set_option maxRecDepth 100000 in
theorem spec_l04Ints.calls (k : Nat) (A0 : Option Addr) (c0 : Nat) (l0 : List Int) (A1 : Option Addr) (c1 : Nat) (l1 : List Int) (r : Bool) (w : World) (hr0 : Kd.C (Kd.int .i64) w A0 l0.length l0) (hc0 : l0.length ≤ c0) (hr1 : Kd.C (Kd.int .i64) w A1 l1.length l1) (hc1 : l1.length ≤ c1) (h : spec_l04Ints.f k l0 l1 = some r) :
  Calls Try.prog 75 #[.slice A0 l0.length c0, .slice A1 l1.length c1] w fun e w' => e = .returned (.bool r) ∧ Drawn0 w w' := by
 have HR0 := A_.mk hr0
 have HC0 := A_.mk hc0
 clear hr0 hc0
 have HR1 := A_.mk hr1
 have HC1 := A_.mk hc1
 clear hr1 hc1
 have H : (if (l0.length : Int) = (l1.length : Int) then (spec_l04Ints.l0 k l0 l1 0) else (some false)) = some r := h
 clear h
 by_cases c3 : (l0.length : Int) = (l1.length : Int)
 rotate_left
 ·rw [if_neg c3] at H
  have c3b0 : ((l0.length : Int) == (l1.length : Int)) = false := beq_eq_false_iff_ne.mpr c3
  have c3b1 : ((l0.length : Int) != (l1.length : Int)) = true := bne_iff_ne.mpr c3
  have c3b2 : (l0.length == l1.length) = false := by first | simpa using c3 | (simp at c3 ⊢; omega)
  obtain rfl := Option.some.inj H
  go_enter Try.func75, Try.ntmps75
  go_wp2
  repeat (go_quiet (fail); try go_wp2)
  go_ret
  exact ⟨by first | rfl | (simp; done) | (simp [*]; done), by repeat (first | exact Drawn0.refl _ | apply Drawn0.step)⟩
 rw [if_pos c3] at H
 have c3b0 : ((l0.length : Int) == (l1.length : Int)) = true := beq_iff_eq.mpr c3
 have c3b1 : ((l0.length : Int) != (l1.length : Int)) = false := bne_eq_false_iff_eq.mpr c3
 have c3b2 : (l0.length == l1.length) = true := by first | simpa using c3 | (simp at c3 ⊢; omega)
 clear c3
 have H' := A_.mk H
 clear H
 go_enter Try.func75, Try.ntmps75
 go_wp2
 repeat (go_quiet (fail); try go_wp2)
 go_loopg [5] k (fun kq v5 w' => ∃ (x5_1 : Int), v5 = .int .i64 x5_1 ∧ A_ (spec_l04Ints.l0 kq l0 l1 x5_1 = some r) ∧ A_ (kq ≤ k) ∧ Drawn0 w w')
 case atStart => exact ⟨(0), (by first | rfl | (simp; done) | (simp [*]; done)), H', ⟨Nat.le_refl _⟩, by repeat (first | exact Drawn0.refl _ | apply Drawn0.step)⟩
 case round =>
  clear H'
  obtain ⟨x5_1, rfl, HA, HK1, ⟨m1, rfl⟩⟩ := hrel
  cases gk with
  | zero => exact absurd HA.out (by simp [spec_l04Ints.l0])
  | succ k1 =>
   have H := HA.out
   clear HA
   simp only [spec_l04Ints.l0] at H
   by_cases c4 : x5_1 < (l0.length : Int)
   rotate_left
   ·rw [if_neg c4] at H
    have c4b0 : decide (x5_1 < (l0.length : Int)) = false := decide_eq_false c4
    clear c4
    obtain rfl := Option.some.inj H
    go_wp2
    repeat (go_quiet (fail); try go_wp2)
    go_ret
    exact ⟨by first | rfl | (simp; done) | (simp [*]; done), by repeat (first | exact Drawn0.refl _ | apply Drawn0.step)⟩
   rw [if_pos c4] at H
   have c4b0 : decide (x5_1 < (l0.length : Int)) = true := decide_eq_true c4
   clear c4
   by_cases c5 : 0 ≤ x5_1
   rotate_left
   ·rw [if_neg c5] at H
    exact absurd H (by simp)
   rw [if_pos c5] at H
   have c5b0 : decide (0 ≤ x5_1) = true := decide_eq_true c5
   clear c5
   by_cases c6 : x5_1 < (l1.length : Int)
   rotate_left
   ·rw [if_neg c6] at H
    exact absurd H (by simp)
   rw [if_pos c6] at H
   have c6b0 : decide (x5_1 < (l1.length : Int)) = true := decide_eq_true c6
   clear c6
   by_cases c7 : (rd l0 x5_1) = (rd l1 x5_1)
   rotate_left
   ·rw [if_neg c7] at H
    have c7b0 : ((rd l0 x5_1) == (rd l1 x5_1)) = false := beq_eq_false_iff_ne.mpr c7
    have c7b1 : ((rd l0 x5_1) != (rd l1 x5_1)) = true := bne_iff_ne.mpr c7
    obtain rfl := Option.some.inj H
    have p181 : 0 ≤ (x5_1 : Int) := od_
    have q181 : x5_1 < (l0.length : Int) := od_
    obtain ⟨ad181, e181, hx181_0⟩ := Kd.at_int HR0.out x5_1 p181 q181
    cases e181
    replace p181 := eq_true p181
    replace q181 := eq_true q181
    have p182 : 0 ≤ (x5_1 : Int) := od_
    have q182 : x5_1 < (l1.length : Int) := od_
    obtain ⟨ad182, e182, hx182_0⟩ := Kd.at_int HR1.out x5_1 p182 q182
    cases e182
    replace p182 := eq_true p182
    replace q182 := eq_true q182
    go_wp2
    repeat (go_quiet (fail); try go_wp2)
    go_ret
    exact ⟨by first | rfl | (simp; done) | (simp [*]; done), by repeat (first | exact Drawn0.refl _ | apply Drawn0.step)⟩
   rw [if_pos c7] at H
   have c7b0 : ((rd l0 x5_1) == (rd l1 x5_1)) = true := beq_iff_eq.mpr c7
   have c7b1 : ((rd l0 x5_1) != (rd l1 x5_1)) = false := bne_eq_false_iff_eq.mpr c7
   clear c7
   have H' := A_.mk H
   clear H
   have p181 : 0 ≤ (x5_1 : Int) := od_
   have q181 : x5_1 < (l0.length : Int) := od_
   obtain ⟨ad181, e181, hx181_0⟩ := Kd.at_int HR0.out x5_1 p181 q181
   cases e181
   replace p181 := eq_true p181
   replace q181 := eq_true q181
   have p182 : 0 ≤ (x5_1 : Int) := od_
   have q182 : x5_1 < (l1.length : Int) := od_
   obtain ⟨ad182, e182, hx182_0⟩ := Kd.at_int HR1.out x5_1 p182 q182
   cases e182
   replace p182 := eq_true p182
   replace q182 := eq_true q182
   go_wp2
   repeat (go_quiet (fail); try go_wp2)
   go_roundg k1
   case measure => have := HK1.out; omega
   case rel => exact ⟨(wrap64 (x5_1 + 1)), (by first | rfl | (simp; done) | (simp [*]; done)), H', ⟨by have := HK1.out; omega⟩, by repeat (first | exact Drawn0.refl _ | apply Drawn0.step)⟩
/-! ### spec_SameCredits: function 37, its calls in a row -/
def spec_SameCredits.f (k : Nat) (l0_0 : List Int) (l0_1 : List Int) (l1_0 : List Int) (l1_1 : List Int) : Option ((Bool)) := ((spec_l04Ints.f k l0_0 l1_0).bind fun t1 => (if t1 = true then ((spec_l04Ints.f k l0_1 l1_1).bind fun t2 => (some (t2))) else (some (false))))
set_option maxHeartbeats 8000000 in
set_option maxRecDepth 100000 in
theorem spec_SameCredits.calls (k : Nat) (A0_0 : Option Addr) (c0_0 : Nat) (l0_0 : List Int) (A0_1 : Option Addr) (c0_1 : Nat) (l0_1 : List Int) (A1_0 : Option Addr) (c1_0 : Nat) (l1_0 : List Int) (A1_1 : Option Addr) (c1_1 : Nat) (l1_1 : List Int) (r : Bool) (w : World) (hr0_0 : Kd.C (Kd.int .i64) w A0_0 l0_0.length l0_0) (hc0_0 : l0_0.length ≤ c0_0) (hr0_1 : Kd.C (Kd.int .i64) w A0_1 l0_1.length l0_1) (hc0_1 : l0_1.length ≤ c0_1) (hr1_0 : Kd.C (Kd.int .i64) w A1_0 l1_0.length l1_0) (hc1_0 : l1_0.length ≤ c1_0) (hr1_1 : Kd.C (Kd.int .i64) w A1_1 l1_1.length l1_1) (hc1_1 : l1_1.length ≤ c1_1) (h : spec_SameCredits.f k l0_0 l0_1 l1_0 l1_1 = some r) :
  Calls Try.prog 37 #[.agg #[.slice A0_0 l0_0.length c0_0, .slice A0_1 l0_1.length c0_1], .agg #[.slice A1_0 l1_0.length c1_0, .slice A1_1 l1_1.length c1_1]] w fun e w' => e = .returned (.bool r) ∧ Below w.heap.size w w' := by
 have HR0_0 := A_.mk hr0_0
 have HC0_0 := A_.mk hc0_0
 clear hr0_0 hc0_0
 have HR0_1 := A_.mk hr0_1
 have HC0_1 := A_.mk hc0_1
 clear hr0_1 hc0_1
 have HR1_0 := A_.mk hr1_0
 have HC1_0 := A_.mk hc1_0
 clear hr1_0 hc1_0
 have HR1_1 := A_.mk hr1_1
 have HC1_1 := A_.mk hc1_1
 clear hr1_1 hc1_1
 have HB := A_.mk (Below.refl w.heap.size w)
 unfold spec_SameCredits.f at h
 have H := h
 clear h
 replace H := oa_ H
 obtain ⟨t1, A3, H⟩ := H
 replace H := A_.mk H
 have hu30 := Try.underlying30
 go_enter Try.func37, Try.ntmps37
 have HS := A_.mk (Nat.le_refl w.heap.size)
 go_wp2_with (first | ((with_reducible refine gd_ (N := 2) rfl ?_); refine by_ 2 (cs := #[.slice A0_0 l0_0.length c0_0, .slice A0_1 l0_1.length c0_1]) (t := 30) ?_; intro gb1_ hg w1_ hbox hb; replace HS := A_.mk (And.intro HS.out (show gb1_ = w.heap.size ∧ gb1_ < w1_.heap.size from ⟨hg, blk_lt hbox⟩)); replace HB := aHB HB hb; have BK1 := A_.mk hbox; clear hbox hb hg; have Q1 := blk2_ BK1.out) | ((with_reducible refine gd_ (N := 3) rfl ?_); refine by_ 3 (cs := #[.slice A1_0 l1_0.length c1_0, .slice A1_1 l1_1.length c1_1]) (t := 30) ?_; intro gb2_ hg w2_ hbox hb; replace HS := A_.mk (And.intro HS.out (show gb2_ = w1_.heap.size ∧ gb2_ < w2_.heap.size from ⟨hg, blk_lt hbox⟩)); replace BK1 := aBb BK1 hb; replace HB := aHB HB hb; have BK2 := A_.mk hbox; clear hbox hb hg Q1; have Q1 := blk2_ BK1.out; have Q2 := blk2_ BK2.out))
 (with_reducible refine (spec_l04Ints.calls k _ _ l0_0 _ _ l1_0 t1 _ (Kd.C_below HR0_0.out HB.out) HC0_0.out (Kd.C_below HR1_0.out HB.out) HC1_0.out A3.out).mono ?_)
 rintro e w3_ ⟨rfl, hb⟩
 replace hb := Drawn0.below hb
 replace HS := aHs HS hb.size
 replace BK1 := aBb BK1 hb
 replace BK2 := aBb BK2 hb
 replace HB := aHB HB hb
 clear hb  Q1 Q2
 have Q1 := blk2_ BK1.out
 have Q2 := blk2_ BK2.out
 replace H := H.out
 by_cases hc1_ : t1 = true
 case pos =>
  rw [if_pos hc1_] at H
  subst hc1_
  replace H := oa_ H
  obtain ⟨t2, A4, H⟩ := H
  replace H := Option.some.inj H
  subst H
  go_wp2_with (fail)
  (with_reducible refine (spec_l04Ints.calls k _ _ l0_1 _ _ l1_1 t2 _ (Kd.C_below HR0_1.out HB.out) HC0_1.out (Kd.C_below HR1_1.out HB.out) HC1_1.out A4.out).mono ?_)
  rintro e w4_ ⟨rfl, hb⟩
  replace hb := Drawn0.below hb
  replace HS := aHs HS hb.size
  replace BK1 := aBb BK1 hb
  replace BK2 := aBb BK2 hb
  replace HB := aHB HB hb
  clear hb  Q1 Q2
  have Q1 := blk2_ BK1.out
  have Q2 := blk2_ BK2.out
  go_wp2
  go_ret
  exact ⟨rfl, HB.out⟩
 rw [if_neg hc1_] at H
 replace hc1_ := eq_false_of_ne_true hc1_
 subst hc1_
 replace H := Option.some.inj H
 subst H
 go_wp2
 go_ret
 exact ⟨rfl, HB.out⟩
end Go.Proofs.Ytlombfmebinjbaa.PFnExactTellCredits
