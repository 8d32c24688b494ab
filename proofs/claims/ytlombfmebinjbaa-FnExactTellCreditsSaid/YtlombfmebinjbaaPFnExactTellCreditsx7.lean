-- Written by a program of this session (wip/xp): not trusted, Lean checks it.
import Derived.Test.YtlombfmebinjbaaPFnExactTellCreditsx0
import Derived.Test.YtlombfmebinjbaaPFnExactTellCreditsx1
import Derived.Test.YtlombfmebinjbaaPFnExactTellCreditsx6
namespace Go.Proofs.Ytlombfmebinjbaa.PFnExactTellCredits
open Go.RowKit Go.Proofs.YtlombfmebinjbaaW.PrintWords Go.Proofs.YtlombfmebinjbaaW.PrintLast Go.Proofs.YtlombfmebinjbaaW.PrintMore
attribute [local go_sem] max2_int min2_int max_two min_two max_three min_three max_four min_four   -- for this text's walks alone
set_option linter.unusedVariables false
set_option linter.unusedSimpArgs false

/-! ### spec_IsId: function 91 -/
def spec_IsId.f (a0 : Int) : Option (Bool) := (spec_l01In.f a0 0 255).bind fun t178 => (some t178)
set_option maxHeartbeats 8000000 in
set_option maxRecDepth 100000 in
theorem spec_IsId.calls (a0 : Int) (r : Bool) (w : World) (h : spec_IsId.f a0 = some r) :
  Calls Try.prog 91 #[.int .i64 a0] w fun e w' => e = .returned (.bool r) ∧ Drawn0 w w' := by
 have H : ((spec_l01In.f a0 0 255).bind fun t178 => (some t178)) = some r := h
 clear h
 replace H := ob_ H
 obtain ⟨t178, A20, H⟩ := H
 have A2 := A_.mk A20
 clear A20
 obtain rfl := Option.some.inj H
 go_enter Try.func91, Try.ntmps91
 go_wp2_with (first | ((with_reducible refine gc_ (f := 49) rfl ?_); refine gl_ (some 4) Try.func49 #[.int .i64 a0, .int .i64 0, .int .i64 255] ?_; (with_reducible refine (spec_l01In.calls a0 0 255 t178 _ A2.out).mono ?_); rintro e w' ⟨rfl, ⟨nd, rfl⟩⟩; refine ⟨_, rfl, ?_⟩))
 go_ret
 exact ⟨by first | rfl | (simp; done) | (simp [*]; done), by repeat (first | exact Drawn0.refl _ | apply Drawn0.step)⟩

/-! ### spec_l04Words: function 92 -/
def spec_l04Words.l0 : Nat → List Int → Int → Option (Bool)
 | 0, _, _ => none
 | k + 1, x0, x3 => if x3 < (x0.length : Int) then (if 0 ≤ x3 then ((spec_l01In.f (rd x0 x3) 0 65535).bind fun t180 => (if t180 = true then (spec_l04Words.l0 k x0 (wrap64 (x3 + 1))) else (some false))) else (none)) else (some true)
def spec_l04Words.f (k : Nat) (l0 : List Int) : Option (Bool) := spec_l04Words.l0 k l0 0
set_option maxHeartbeats 8000000 in
set_option maxRecDepth 100000 in
theorem spec_l04Words.calls (k : Nat) (A0 : Option Addr) (c0 : Nat) (l0 : List Int) (r : Bool) (w : World) (hr0 : Kd.C (Kd.int .i64) w A0 l0.length l0) (hc0 : l0.length ≤ c0) (h : spec_l04Words.f k l0 = some r) :
  Calls Try.prog 92 #[.slice A0 l0.length c0] w fun e w' => e = .returned (.bool r) ∧ Drawn0 w w' := by
 have HR0 := A_.mk hr0
 have HC0 := A_.mk hc0
 clear hr0 hc0
 have H : (spec_l04Words.l0 k l0 0) = some r := h
 clear h
 have H' := A_.mk H
 clear H
 go_enter Try.func92, Try.ntmps92
 go_wp2
 go_loopg [3] k (fun kq v3 w' => ∃ (x3_1 : Int), v3 = .int .i64 x3_1 ∧ A_ (spec_l04Words.l0 kq l0 x3_1 = some r) ∧ A_ (kq ≤ k) ∧ Drawn0 w w')
 case atStart => exact ⟨(0), (by first | rfl | (simp; done) | (simp [*]; done)), H', ⟨Nat.le_refl _⟩, by repeat (first | exact Drawn0.refl _ | apply Drawn0.step)⟩
 case round =>
  clear H'
  obtain ⟨x3_1, rfl, HA, HK1, ⟨m1, rfl⟩⟩ := hrel
  cases gk with
  | zero => exact absurd HA.out (by simp [spec_l04Words.l0])
  | succ k1 =>
   have H := HA.out
   clear HA
   simp only [spec_l04Words.l0] at H
   by_cases c2 : x3_1 < (l0.length : Int)
   rotate_left
   ·rw [if_neg c2] at H
    have c2b0 : decide (x3_1 < (l0.length : Int)) = false := decide_eq_false c2
    clear c2
    obtain rfl := Option.some.inj H
    go_wp2
    go_ret
    exact ⟨by first | rfl | (simp; done) | (simp [*]; done), by repeat (first | exact Drawn0.refl _ | apply Drawn0.step)⟩
   rw [if_pos c2] at H
   have c2b0 : decide (x3_1 < (l0.length : Int)) = true := decide_eq_true c2
   clear c2
   by_cases c3 : 0 ≤ x3_1
   rotate_left
   ·rw [if_neg c3] at H
    exact absurd H (by simp)
   rw [if_pos c3] at H
   have c3b0 : decide (0 ≤ x3_1) = true := decide_eq_true c3
   clear c3
   replace H := ob_ H
   obtain ⟨t180, A40, H⟩ := H
   have A4 := A_.mk A40
   clear A40
   by_cases c5 : t180 = true
   rotate_left
   ·replace c5 := Bool.eq_false_iff.mpr c5
    subst c5
    have H1 : (some false) = some r := by rw [if_neg (show ¬ (false = true) by decide)] at H; exact H
    clear H
    have H := H1
    clear H1
    obtain rfl := Option.some.inj H
    have p179 : 0 ≤ (x3_1 : Int) := od_
    have q179 : x3_1 < (l0.length : Int) := od_
    obtain ⟨ad179, e179, hx179_0⟩ := Kd.at_int HR0.out x3_1 p179 q179
    cases e179
    replace p179 := eq_true p179
    replace q179 := eq_true q179
    go_wp2_with (first | ((with_reducible refine gc_ (f := 49) rfl ?_); refine gl_ (some 14) Try.func49 #[.int .i64 (rd l0 x3_1), .int .i64 0, .int .i64 65535] ?_; (with_reducible refine (spec_l01In.calls (rd l0 x3_1) 0 65535 false _ A4.out).mono ?_); rintro e w' ⟨rfl, ⟨nd, rfl⟩⟩; refine ⟨_, rfl, ?_⟩))
    go_ret
    exact ⟨by first | rfl | (simp; done) | (simp [*]; done), by repeat (first | exact Drawn0.refl _ | apply Drawn0.step)⟩
   subst c5
   have H1 : (spec_l04Words.l0 k1 l0 (wrap64 (x3_1 + 1))) = some r := by rw [if_pos rfl] at H; exact H
   clear H
   have H := H1
   clear H1
   have H' := A_.mk H
   clear H
   have p179 : 0 ≤ (x3_1 : Int) := od_
   have q179 : x3_1 < (l0.length : Int) := od_
   obtain ⟨ad179, e179, hx179_0⟩ := Kd.at_int HR0.out x3_1 p179 q179
   cases e179
   replace p179 := eq_true p179
   replace q179 := eq_true q179
   go_wp2_with (first | ((with_reducible refine gc_ (f := 49) rfl ?_); refine gl_ (some 14) Try.func49 #[.int .i64 (rd l0 x3_1), .int .i64 0, .int .i64 65535] ?_; (with_reducible refine (spec_l01In.calls (rd l0 x3_1) 0 65535 true _ A4.out).mono ?_); rintro e w' ⟨rfl, ⟨nd, rfl⟩⟩; refine ⟨_, rfl, ?_⟩))
   go_roundg k1
   case measure => have := HK1.out; omega
   case rel => exact ⟨(wrap64 (x3_1 + 1)), (by first | rfl | (simp; done) | (simp [*]; done)), H', ⟨by have := HK1.out; omega⟩, by repeat (first | exact Drawn0.refl _ | apply Drawn0.step)⟩
/-! ### spec_l04Zero: function 93, its calls in a row -/
def spec_l04Zero.f (k : Nat) (a0_0 : Int) (a0_1 : Int) (a0_2 : Int) (a0_3 : Int) (a0_4 : Int) (a0_5 : Int) (a0_6 : Int) (l0_7 : List Int) (a1 : Bool) (a2 : Bool) (a3 : Bool) : Option ((Bool)) := (if a1 = true then (if a2 = true then (if a3 = true then (some (true)) else (if a0_5 = 0 then (some (true)) else (some (false)))) else (if a0_4 = 0 then (if a3 = true then (some (true)) else (if a0_5 = 0 then (some (true)) else (some (false)))) else (some (false)))) else (if a0_2 = 0 then (if a2 = true then (if a3 = true then (some (true)) else (if a0_5 = 0 then (some (true)) else (some (false)))) else (if a0_4 = 0 then (if a3 = true then (some (true)) else (if a0_5 = 0 then (some (true)) else (some (false)))) else (some (false)))) else (some (false))))
set_option maxHeartbeats 8000000 in
set_option maxRecDepth 100000 in
theorem spec_l04Zero.calls (k : Nat) (a0_0 : Int) (a0_1 : Int) (a0_2 : Int) (a0_3 : Int) (a0_4 : Int) (a0_5 : Int) (a0_6 : Int) (A0_7 : Option Addr) (c0_7 : Nat) (l0_7 : List Int) (a1 : Bool) (a2 : Bool) (a3 : Bool) (r : Bool) (w : World) (hr0_7 : Kd.C (Kd.int .i64) w A0_7 l0_7.length l0_7) (hc0_7 : l0_7.length ≤ c0_7) (h : spec_l04Zero.f k a0_0 a0_1 a0_2 a0_3 a0_4 a0_5 a0_6 l0_7 a1 a2 a3 = some r) :
  Calls Try.prog 93 #[.agg #[.int .i64 a0_0, .int .i64 a0_1, .int .i64 a0_2, .int .i64 a0_3, .int .i64 a0_4, .int .i64 a0_5, .int .i64 a0_6, .slice A0_7 l0_7.length c0_7], .bool a1, .bool a2, .bool a3] w fun e w' => e = .returned (.bool r) ∧ Below w.heap.size w w' := by
 have HR0_7 := A_.mk hr0_7
 have HC0_7 := A_.mk hc0_7
 clear hr0_7 hc0_7
 have HB := A_.mk (Below.refl w.heap.size w)
 unfold spec_l04Zero.f at h
 have H := h
 clear h
 by_cases hc1_ : a1 = true
 case pos =>
  rw [if_pos hc1_] at H
  subst hc1_
  by_cases hc2_ : a2 = true
  case pos =>
   rw [if_pos hc2_] at H
   subst hc2_
   by_cases hc3_ : a3 = true
   case pos =>
    rw [if_pos hc3_] at H
    subst hc3_
    replace H := Option.some.inj H
    subst H
    have hu38 := Try.underlying38
    go_enter Try.func93, Try.ntmps93
    have HS := A_.mk (Nat.le_refl w.heap.size)
    go_wp2_with (first | ((with_reducible refine gd_ (N := 4) rfl ?_); refine by_ 4 (cs := #[.int .i64 a0_0, .int .i64 a0_1, .int .i64 a0_2, .int .i64 a0_3, .int .i64 a0_4, .int .i64 a0_5, .int .i64 a0_6, .slice A0_7 l0_7.length c0_7]) (t := 38) ?_; intro gb1_ hg w1_ hbox hb; replace HS := A_.mk (And.intro HS.out (show gb1_ = w.heap.size ∧ gb1_ < w1_.heap.size from ⟨hg, blk_lt hbox⟩)); replace HB := aHB HB hb; have BK1 := A_.mk hbox; clear hbox hb hg; have Q1 := blk8_ BK1.out))
    go_ret
    exact ⟨rfl, HB.out⟩
   rw [if_neg hc3_] at H
   replace hc3_ := eq_false_of_ne_true hc3_
   subst hc3_
   by_cases hc4_ : a0_5 = 0
   case pos =>
    rw [if_pos hc4_] at H
    have hc4_b0 : (a0_5 == 0) = true := beq_iff_eq.mpr hc4_
    have hc4_bn : (a0_5 != 0) = false := bne_eq_false_iff_eq.mpr hc4_
    replace hc4_ := A_.mk hc4_
    replace H := Option.some.inj H
    subst H
    have hu38 := Try.underlying38
    go_enter Try.func93, Try.ntmps93
    have HS := A_.mk (Nat.le_refl w.heap.size)
    go_wp2_with (first | ((with_reducible refine gd_ (N := 4) rfl ?_); refine by_ 4 (cs := #[.int .i64 a0_0, .int .i64 a0_1, .int .i64 a0_2, .int .i64 a0_3, .int .i64 a0_4, .int .i64 a0_5, .int .i64 a0_6, .slice A0_7 l0_7.length c0_7]) (t := 38) ?_; intro gb1_ hg w1_ hbox hb; replace HS := A_.mk (And.intro HS.out (show gb1_ = w.heap.size ∧ gb1_ < w1_.heap.size from ⟨hg, blk_lt hbox⟩)); replace HB := aHB HB hb; have BK1 := A_.mk hbox; clear hbox hb hg; have Q1 := blk8_ BK1.out))
    go_ret
    exact ⟨rfl, HB.out⟩
   rw [if_neg hc4_] at H
   have hc4_b0 : (a0_5 == 0) = false := beq_eq_false_iff_ne.mpr hc4_
   have hc4_bn : (a0_5 != 0) = true := bne_iff_ne.mpr hc4_
   replace H := Option.some.inj H
   subst H
   have hu38 := Try.underlying38
   go_enter Try.func93, Try.ntmps93
   have HS := A_.mk (Nat.le_refl w.heap.size)
   go_wp2_with (first | ((with_reducible refine gd_ (N := 4) rfl ?_); refine by_ 4 (cs := #[.int .i64 a0_0, .int .i64 a0_1, .int .i64 a0_2, .int .i64 a0_3, .int .i64 a0_4, .int .i64 a0_5, .int .i64 a0_6, .slice A0_7 l0_7.length c0_7]) (t := 38) ?_; intro gb1_ hg w1_ hbox hb; replace HS := A_.mk (And.intro HS.out (show gb1_ = w.heap.size ∧ gb1_ < w1_.heap.size from ⟨hg, blk_lt hbox⟩)); replace HB := aHB HB hb; have BK1 := A_.mk hbox; clear hbox hb hg; have Q1 := blk8_ BK1.out))
   go_ret
   exact ⟨rfl, HB.out⟩
  rw [if_neg hc2_] at H
  replace hc2_ := eq_false_of_ne_true hc2_
  subst hc2_
  by_cases hc5_ : a0_4 = 0
  case neg =>
   rw [if_neg hc5_] at H
   have hc5_b0 : (a0_4 == 0) = false := beq_eq_false_iff_ne.mpr hc5_
   have hc5_bn : (a0_4 != 0) = true := bne_iff_ne.mpr hc5_
   replace H := Option.some.inj H
   subst H
   have hu38 := Try.underlying38
   go_enter Try.func93, Try.ntmps93
   have HS := A_.mk (Nat.le_refl w.heap.size)
   go_wp2_with (first | ((with_reducible refine gd_ (N := 4) rfl ?_); refine by_ 4 (cs := #[.int .i64 a0_0, .int .i64 a0_1, .int .i64 a0_2, .int .i64 a0_3, .int .i64 a0_4, .int .i64 a0_5, .int .i64 a0_6, .slice A0_7 l0_7.length c0_7]) (t := 38) ?_; intro gb1_ hg w1_ hbox hb; replace HS := A_.mk (And.intro HS.out (show gb1_ = w.heap.size ∧ gb1_ < w1_.heap.size from ⟨hg, blk_lt hbox⟩)); replace HB := aHB HB hb; have BK1 := A_.mk hbox; clear hbox hb hg; have Q1 := blk8_ BK1.out))
   go_ret
   exact ⟨rfl, HB.out⟩
  rw [if_pos hc5_] at H
  have hc5_b0 : (a0_4 == 0) = true := beq_iff_eq.mpr hc5_
  have hc5_bn : (a0_4 != 0) = false := bne_eq_false_iff_eq.mpr hc5_
  replace hc5_ := A_.mk hc5_
  by_cases hc6_ : a3 = true
  case pos =>
   rw [if_pos hc6_] at H
   subst hc6_
   replace H := Option.some.inj H
   subst H
   have hu38 := Try.underlying38
   go_enter Try.func93, Try.ntmps93
   have HS := A_.mk (Nat.le_refl w.heap.size)
   go_wp2_with (first | ((with_reducible refine gd_ (N := 4) rfl ?_); refine by_ 4 (cs := #[.int .i64 a0_0, .int .i64 a0_1, .int .i64 a0_2, .int .i64 a0_3, .int .i64 a0_4, .int .i64 a0_5, .int .i64 a0_6, .slice A0_7 l0_7.length c0_7]) (t := 38) ?_; intro gb1_ hg w1_ hbox hb; replace HS := A_.mk (And.intro HS.out (show gb1_ = w.heap.size ∧ gb1_ < w1_.heap.size from ⟨hg, blk_lt hbox⟩)); replace HB := aHB HB hb; have BK1 := A_.mk hbox; clear hbox hb hg; have Q1 := blk8_ BK1.out))
   go_ret
   exact ⟨rfl, HB.out⟩
  rw [if_neg hc6_] at H
  replace hc6_ := eq_false_of_ne_true hc6_
  subst hc6_
  by_cases hc7_ : a0_5 = 0
  case pos =>
   rw [if_pos hc7_] at H
   have hc7_b0 : (a0_5 == 0) = true := beq_iff_eq.mpr hc7_
   have hc7_bn : (a0_5 != 0) = false := bne_eq_false_iff_eq.mpr hc7_
   replace hc7_ := A_.mk hc7_
   replace H := Option.some.inj H
   subst H
   have hu38 := Try.underlying38
   go_enter Try.func93, Try.ntmps93
   have HS := A_.mk (Nat.le_refl w.heap.size)
   go_wp2_with (first | ((with_reducible refine gd_ (N := 4) rfl ?_); refine by_ 4 (cs := #[.int .i64 a0_0, .int .i64 a0_1, .int .i64 a0_2, .int .i64 a0_3, .int .i64 a0_4, .int .i64 a0_5, .int .i64 a0_6, .slice A0_7 l0_7.length c0_7]) (t := 38) ?_; intro gb1_ hg w1_ hbox hb; replace HS := A_.mk (And.intro HS.out (show gb1_ = w.heap.size ∧ gb1_ < w1_.heap.size from ⟨hg, blk_lt hbox⟩)); replace HB := aHB HB hb; have BK1 := A_.mk hbox; clear hbox hb hg; have Q1 := blk8_ BK1.out))
   go_ret
   exact ⟨rfl, HB.out⟩
  rw [if_neg hc7_] at H
  have hc7_b0 : (a0_5 == 0) = false := beq_eq_false_iff_ne.mpr hc7_
  have hc7_bn : (a0_5 != 0) = true := bne_iff_ne.mpr hc7_
  replace H := Option.some.inj H
  subst H
  have hu38 := Try.underlying38
  go_enter Try.func93, Try.ntmps93
  have HS := A_.mk (Nat.le_refl w.heap.size)
  go_wp2_with (first | ((with_reducible refine gd_ (N := 4) rfl ?_); refine by_ 4 (cs := #[.int .i64 a0_0, .int .i64 a0_1, .int .i64 a0_2, .int .i64 a0_3, .int .i64 a0_4, .int .i64 a0_5, .int .i64 a0_6, .slice A0_7 l0_7.length c0_7]) (t := 38) ?_; intro gb1_ hg w1_ hbox hb; replace HS := A_.mk (And.intro HS.out (show gb1_ = w.heap.size ∧ gb1_ < w1_.heap.size from ⟨hg, blk_lt hbox⟩)); replace HB := aHB HB hb; have BK1 := A_.mk hbox; clear hbox hb hg; have Q1 := blk8_ BK1.out))
  go_ret
  exact ⟨rfl, HB.out⟩
 rw [if_neg hc1_] at H
 replace hc1_ := eq_false_of_ne_true hc1_
 subst hc1_
 by_cases hc8_ : a0_2 = 0
 case neg =>
  rw [if_neg hc8_] at H
  have hc8_b0 : (a0_2 == 0) = false := beq_eq_false_iff_ne.mpr hc8_
  have hc8_bn : (a0_2 != 0) = true := bne_iff_ne.mpr hc8_
  replace H := Option.some.inj H
  subst H
  have hu38 := Try.underlying38
  go_enter Try.func93, Try.ntmps93
  have HS := A_.mk (Nat.le_refl w.heap.size)
  go_wp2_with (first | ((with_reducible refine gd_ (N := 4) rfl ?_); refine by_ 4 (cs := #[.int .i64 a0_0, .int .i64 a0_1, .int .i64 a0_2, .int .i64 a0_3, .int .i64 a0_4, .int .i64 a0_5, .int .i64 a0_6, .slice A0_7 l0_7.length c0_7]) (t := 38) ?_; intro gb1_ hg w1_ hbox hb; replace HS := A_.mk (And.intro HS.out (show gb1_ = w.heap.size ∧ gb1_ < w1_.heap.size from ⟨hg, blk_lt hbox⟩)); replace HB := aHB HB hb; have BK1 := A_.mk hbox; clear hbox hb hg; have Q1 := blk8_ BK1.out))
  go_ret
  exact ⟨rfl, HB.out⟩
 rw [if_pos hc8_] at H
 have hc8_b0 : (a0_2 == 0) = true := beq_iff_eq.mpr hc8_
 have hc8_bn : (a0_2 != 0) = false := bne_eq_false_iff_eq.mpr hc8_
 replace hc8_ := A_.mk hc8_
 by_cases hc9_ : a2 = true
 case pos =>
  rw [if_pos hc9_] at H
  subst hc9_
  by_cases hc10_ : a3 = true
  case pos =>
   rw [if_pos hc10_] at H
   subst hc10_
   replace H := Option.some.inj H
   subst H
   have hu38 := Try.underlying38
   go_enter Try.func93, Try.ntmps93
   have HS := A_.mk (Nat.le_refl w.heap.size)
   go_wp2_with (first | ((with_reducible refine gd_ (N := 4) rfl ?_); refine by_ 4 (cs := #[.int .i64 a0_0, .int .i64 a0_1, .int .i64 a0_2, .int .i64 a0_3, .int .i64 a0_4, .int .i64 a0_5, .int .i64 a0_6, .slice A0_7 l0_7.length c0_7]) (t := 38) ?_; intro gb1_ hg w1_ hbox hb; replace HS := A_.mk (And.intro HS.out (show gb1_ = w.heap.size ∧ gb1_ < w1_.heap.size from ⟨hg, blk_lt hbox⟩)); replace HB := aHB HB hb; have BK1 := A_.mk hbox; clear hbox hb hg; have Q1 := blk8_ BK1.out))
   go_ret
   exact ⟨rfl, HB.out⟩
  rw [if_neg hc10_] at H
  replace hc10_ := eq_false_of_ne_true hc10_
  subst hc10_
  by_cases hc11_ : a0_5 = 0
  case pos =>
   rw [if_pos hc11_] at H
   have hc11_b0 : (a0_5 == 0) = true := beq_iff_eq.mpr hc11_
   have hc11_bn : (a0_5 != 0) = false := bne_eq_false_iff_eq.mpr hc11_
   replace hc11_ := A_.mk hc11_
   replace H := Option.some.inj H
   subst H
   have hu38 := Try.underlying38
   go_enter Try.func93, Try.ntmps93
   have HS := A_.mk (Nat.le_refl w.heap.size)
   go_wp2_with (first | ((with_reducible refine gd_ (N := 4) rfl ?_); refine by_ 4 (cs := #[.int .i64 a0_0, .int .i64 a0_1, .int .i64 a0_2, .int .i64 a0_3, .int .i64 a0_4, .int .i64 a0_5, .int .i64 a0_6, .slice A0_7 l0_7.length c0_7]) (t := 38) ?_; intro gb1_ hg w1_ hbox hb; replace HS := A_.mk (And.intro HS.out (show gb1_ = w.heap.size ∧ gb1_ < w1_.heap.size from ⟨hg, blk_lt hbox⟩)); replace HB := aHB HB hb; have BK1 := A_.mk hbox; clear hbox hb hg; have Q1 := blk8_ BK1.out))
   go_ret
   exact ⟨rfl, HB.out⟩
  rw [if_neg hc11_] at H
  have hc11_b0 : (a0_5 == 0) = false := beq_eq_false_iff_ne.mpr hc11_
  have hc11_bn : (a0_5 != 0) = true := bne_iff_ne.mpr hc11_
  replace H := Option.some.inj H
  subst H
  have hu38 := Try.underlying38
  go_enter Try.func93, Try.ntmps93
  have HS := A_.mk (Nat.le_refl w.heap.size)
  go_wp2_with (first | ((with_reducible refine gd_ (N := 4) rfl ?_); refine by_ 4 (cs := #[.int .i64 a0_0, .int .i64 a0_1, .int .i64 a0_2, .int .i64 a0_3, .int .i64 a0_4, .int .i64 a0_5, .int .i64 a0_6, .slice A0_7 l0_7.length c0_7]) (t := 38) ?_; intro gb1_ hg w1_ hbox hb; replace HS := A_.mk (And.intro HS.out (show gb1_ = w.heap.size ∧ gb1_ < w1_.heap.size from ⟨hg, blk_lt hbox⟩)); replace HB := aHB HB hb; have BK1 := A_.mk hbox; clear hbox hb hg; have Q1 := blk8_ BK1.out))
  go_ret
  exact ⟨rfl, HB.out⟩
 rw [if_neg hc9_] at H
 replace hc9_ := eq_false_of_ne_true hc9_
 subst hc9_
 by_cases hc12_ : a0_4 = 0
 case neg =>
  rw [if_neg hc12_] at H
  have hc12_b0 : (a0_4 == 0) = false := beq_eq_false_iff_ne.mpr hc12_
  have hc12_bn : (a0_4 != 0) = true := bne_iff_ne.mpr hc12_
  replace H := Option.some.inj H
  subst H
  have hu38 := Try.underlying38
  go_enter Try.func93, Try.ntmps93
  have HS := A_.mk (Nat.le_refl w.heap.size)
  go_wp2_with (first | ((with_reducible refine gd_ (N := 4) rfl ?_); refine by_ 4 (cs := #[.int .i64 a0_0, .int .i64 a0_1, .int .i64 a0_2, .int .i64 a0_3, .int .i64 a0_4, .int .i64 a0_5, .int .i64 a0_6, .slice A0_7 l0_7.length c0_7]) (t := 38) ?_; intro gb1_ hg w1_ hbox hb; replace HS := A_.mk (And.intro HS.out (show gb1_ = w.heap.size ∧ gb1_ < w1_.heap.size from ⟨hg, blk_lt hbox⟩)); replace HB := aHB HB hb; have BK1 := A_.mk hbox; clear hbox hb hg; have Q1 := blk8_ BK1.out))
  go_ret
  exact ⟨rfl, HB.out⟩
 rw [if_pos hc12_] at H
 have hc12_b0 : (a0_4 == 0) = true := beq_iff_eq.mpr hc12_
 have hc12_bn : (a0_4 != 0) = false := bne_eq_false_iff_eq.mpr hc12_
 replace hc12_ := A_.mk hc12_
 by_cases hc13_ : a3 = true
 case pos =>
  rw [if_pos hc13_] at H
  subst hc13_
  replace H := Option.some.inj H
  subst H
  have hu38 := Try.underlying38
  go_enter Try.func93, Try.ntmps93
  have HS := A_.mk (Nat.le_refl w.heap.size)
  go_wp2_with (first | ((with_reducible refine gd_ (N := 4) rfl ?_); refine by_ 4 (cs := #[.int .i64 a0_0, .int .i64 a0_1, .int .i64 a0_2, .int .i64 a0_3, .int .i64 a0_4, .int .i64 a0_5, .int .i64 a0_6, .slice A0_7 l0_7.length c0_7]) (t := 38) ?_; intro gb1_ hg w1_ hbox hb; replace HS := A_.mk (And.intro HS.out (show gb1_ = w.heap.size ∧ gb1_ < w1_.heap.size from ⟨hg, blk_lt hbox⟩)); replace HB := aHB HB hb; have BK1 := A_.mk hbox; clear hbox hb hg; have Q1 := blk8_ BK1.out))
  go_ret
  exact ⟨rfl, HB.out⟩
 rw [if_neg hc13_] at H
 replace hc13_ := eq_false_of_ne_true hc13_
 subst hc13_
 by_cases hc14_ : a0_5 = 0
 case pos =>
  rw [if_pos hc14_] at H
  have hc14_b0 : (a0_5 == 0) = true := beq_iff_eq.mpr hc14_
  have hc14_bn : (a0_5 != 0) = false := bne_eq_false_iff_eq.mpr hc14_
  replace hc14_ := A_.mk hc14_
  replace H := Option.some.inj H
  subst H
  have hu38 := Try.underlying38
  go_enter Try.func93, Try.ntmps93
  have HS := A_.mk (Nat.le_refl w.heap.size)
  go_wp2_with (first | ((with_reducible refine gd_ (N := 4) rfl ?_); refine by_ 4 (cs := #[.int .i64 a0_0, .int .i64 a0_1, .int .i64 a0_2, .int .i64 a0_3, .int .i64 a0_4, .int .i64 a0_5, .int .i64 a0_6, .slice A0_7 l0_7.length c0_7]) (t := 38) ?_; intro gb1_ hg w1_ hbox hb; replace HS := A_.mk (And.intro HS.out (show gb1_ = w.heap.size ∧ gb1_ < w1_.heap.size from ⟨hg, blk_lt hbox⟩)); replace HB := aHB HB hb; have BK1 := A_.mk hbox; clear hbox hb hg; have Q1 := blk8_ BK1.out))
  go_ret
  exact ⟨rfl, HB.out⟩
 rw [if_neg hc14_] at H
 have hc14_b0 : (a0_5 == 0) = false := beq_eq_false_iff_ne.mpr hc14_
 have hc14_bn : (a0_5 != 0) = true := bne_iff_ne.mpr hc14_
 replace H := Option.some.inj H
 subst H
 have hu38 := Try.underlying38
 go_enter Try.func93, Try.ntmps93
 have HS := A_.mk (Nat.le_refl w.heap.size)
 go_wp2_with (first | ((with_reducible refine gd_ (N := 4) rfl ?_); refine by_ 4 (cs := #[.int .i64 a0_0, .int .i64 a0_1, .int .i64 a0_2, .int .i64 a0_3, .int .i64 a0_4, .int .i64 a0_5, .int .i64 a0_6, .slice A0_7 l0_7.length c0_7]) (t := 38) ?_; intro gb1_ hg w1_ hbox hb; replace HS := A_.mk (And.intro HS.out (show gb1_ = w.heap.size ∧ gb1_ < w1_.heap.size from ⟨hg, blk_lt hbox⟩)); replace HB := aHB HB hb; have BK1 := A_.mk hbox; clear hbox hb hg; have Q1 := blk8_ BK1.out))
 go_ret
 exact ⟨rfl, HB.out⟩
end Go.Proofs.Ytlombfmebinjbaa.PFnExactTellCredits
