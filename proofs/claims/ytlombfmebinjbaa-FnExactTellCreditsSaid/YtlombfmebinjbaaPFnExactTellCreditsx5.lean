-- Written by a program of this session (wip/xp): not trusted, Lean checks it.
import Derived.Test.YtlombfmebinjbaaPFnExactTellCreditsx0
import Derived.Test.YtlombfmebinjbaaPFnExactTellCreditsx4
namespace Go.Proofs.Ytlombfmebinjbaa.PFnExactTellCredits
open Go.RowKit Go.Proofs.YtlombfmebinjbaaW.PrintWords Go.Proofs.YtlombfmebinjbaaW.PrintLast Go.Proofs.YtlombfmebinjbaaW.PrintMore
attribute [local go_sem] max2_int min2_int max_two min_two max_three min_three max_four min_four   -- for this text's walks alone
set_option linter.unusedVariables false
set_option linter.unusedSimpArgs false

/-! ### laws_heldPacketS: function 60 -/
def laws_heldPacketS.l0 : Nat → List (S38) → Int → Int → Option (Int)
 | 0, _, _, _ => none
 | k + 1, x0, x1, x5 => if x5 < (x0.length : Int) then (if 0 ≤ x5 then (if ((rd_T38 x0 x5).f0) = x1 then (if ((rd_T38 x0 x5).f1) = (wrap64 (x1 + 1)) then (if ((rd_T38 x0 x5).f2) = (wrap64 ((wrap64 (x1 + 1)) + 1)) then (if ((rd_T38 x0 x5).f3) = (wrap64 ((wrap64 ((wrap64 (x1 + 1)) + 1)) + 1)) then (if ((rd_T38 x0 x5).f4) = (wrap64 ((wrap64 ((wrap64 ((wrap64 (x1 + 1)) + 1)) + 1)) + 1)) then (if ((rd_T38 x0 x5).f5) = (wrap64 ((wrap64 ((wrap64 ((wrap64 ((wrap64 (x1 + 1)) + 1)) + 1)) + 1)) + 1)) then (if ((rd_T38 x0 x5).f6) = (wrap64 ((wrap64 ((wrap64 ((wrap64 ((wrap64 ((wrap64 (x1 + 1)) + 1)) + 1)) + 1)) + 1)) + 1)) then ((laws_heldIntS.f k ((rd_T38 x0 x5).f7) (wrap64 ((wrap64 ((wrap64 ((wrap64 ((wrap64 ((wrap64 ((wrap64 (x1 + 1)) + 1)) + 1)) + 1)) + 1)) + 1)) + 1))).bind fun t158 => (if t158 < 0 then (some (-1)) else (laws_heldPacketS.l0 k x0 t158 (wrap64 (x5 + 1))))) else (some (-1))) else (some (-1))) else (some (-1))) else (some (-1))) else (some (-1))) else (some (-1))) else (some (-1))) else (none)) else (some x1)
def laws_heldPacketS.f (k : Nat) (l0 : List (S38)) (a1 : Int) : Option (Int) := laws_heldPacketS.l0 k l0 a1 0
set_option maxHeartbeats 8000000 in
set_option maxRecDepth 100000 in
theorem laws_heldPacketS.calls (k : Nat) (A0 : Option Addr) (c0 : Nat) (l0 : List (S38)) (a1 : Int) (r : Int) (w : World) (hr0 : Kd.C k38 w A0 l0.length l0) (hc0 : l0.length ≤ c0) (h : laws_heldPacketS.f k l0 a1 = some r) :
  Calls Try.prog 60 #[.slice A0 l0.length c0, .int .i64 a1] w fun e w' => e = .returned (.int .i64 r) ∧ Drawn0 w w' := by
 have HR0 := A_.mk hr0
 have HC0 := A_.mk hc0
 clear hr0 hc0
 have H : (laws_heldPacketS.l0 k l0 a1 0) = some r := h
 clear h
 have H' := A_.mk H
 clear H
 go_enter Try.func60, Try.ntmps60
 go_wp2
 go_loopg [1, 5] k (fun kq v1 v5 w' => ∃ (x1_1 : Int) (x5_1 : Int), v1 = .int .i64 x1_1 ∧ v5 = .int .i64 x5_1 ∧ A_ (laws_heldPacketS.l0 kq l0 x1_1 x5_1 = some r) ∧ A_ (kq ≤ k) ∧ Drawn0 w w')
 case atStart => exact ⟨(a1), (0), (by first | rfl | (simp; done) | (simp [*]; done)), (by first | rfl | (simp; done) | (simp [*]; done)), H', ⟨Nat.le_refl _⟩, by repeat (first | exact Drawn0.refl _ | apply Drawn0.step)⟩
 case round =>
  clear H'
  obtain ⟨x1_1, x5_1, rfl, rfl, HA, HK1, ⟨m1, rfl⟩⟩ := hrel
  cases gk with
  | zero => exact absurd HA.out (by simp [laws_heldPacketS.l0])
  | succ k1 =>
   have H := HA.out
   clear HA
   simp only [laws_heldPacketS.l0] at H
   by_cases c3 : x5_1 < (l0.length : Int)
   rotate_left
   ·rw [if_neg c3] at H
    have c3b0 : decide (x5_1 < (l0.length : Int)) = false := decide_eq_false c3
    clear c3
    obtain rfl := Option.some.inj H
    go_wp2
    go_ret
    exact ⟨by first | rfl | (simp; done) | (simp [*]; done), by repeat (first | exact Drawn0.refl _ | apply Drawn0.step)⟩
   rw [if_pos c3] at H
   have c3b0 : decide (x5_1 < (l0.length : Int)) = true := decide_eq_true c3
   clear c3
   by_cases c4 : 0 ≤ x5_1
   rotate_left
   ·rw [if_neg c4] at H
    exact absurd H (by simp)
   rw [if_pos c4] at H
   have c4b0 : decide (0 ≤ x5_1) = true := decide_eq_true c4
   clear c4
   by_cases c5 : ((rd_T38 l0 x5_1).f0) = x1_1
   rotate_left
   ·rw [if_neg c5] at H
    have c5b0 : (((rd_T38 l0 x5_1).f0) == x1_1) = false := beq_eq_false_iff_ne.mpr c5
    have c5b1 : (((rd_T38 l0 x5_1).f0) != x1_1) = true := bne_iff_ne.mpr c5
    obtain rfl := Option.some.inj H
    have p150 : 0 ≤ (x5_1 : Int) := od_
    have q150 : x5_1 < (l0.length : Int) := od_
    obtain ⟨ad150, A150_7, c150_7, e150, hx150_0, hx150_1, hx150_2, hx150_3, hx150_4, hx150_5, hx150_6, hx150_7, hl150_7, hi150_7⟩ := at_T38 HR0.out x5_1 p150 q150
    cases e150
    have HR150_7 := A_.mk hi150_7
    have HC150_7 := A_.mk hl150_7
    clear hi150_7 hl150_7
    replace p150 := eq_true p150
    replace q150 := eq_true q150
    go_wp2
    go_ret
    exact ⟨by first | rfl | (simp; done) | (simp [*]; done), by repeat (first | exact Drawn0.refl _ | apply Drawn0.step)⟩
   rw [if_pos c5] at H
   have c5b0 : (((rd_T38 l0 x5_1).f0) == x1_1) = true := beq_iff_eq.mpr c5
   have c5b1 : (((rd_T38 l0 x5_1).f0) != x1_1) = false := bne_eq_false_iff_eq.mpr c5
   clear c5
   by_cases c6 : ((rd_T38 l0 x5_1).f1) = (wrap64 (x1_1 + 1))
   rotate_left
   ·rw [if_neg c6] at H
    have c6b0 : (((rd_T38 l0 x5_1).f1) == (wrap64 (x1_1 + 1))) = false := beq_eq_false_iff_ne.mpr c6
    have c6b0w : (((rd_T38 l0 x5_1).f1) == (IntKind.i64.wrap (x1_1 + 1))) = false := by simp only [i64_w]; exact c6b0
    have c6b1 : (((rd_T38 l0 x5_1).f1) != (wrap64 (x1_1 + 1))) = true := bne_iff_ne.mpr c6
    have c6b1w : (((rd_T38 l0 x5_1).f1) != (IntKind.i64.wrap (x1_1 + 1))) = true := by simp only [i64_w]; exact c6b1
    obtain rfl := Option.some.inj H
    have p150 : 0 ≤ (x5_1 : Int) := od_
    have q150 : x5_1 < (l0.length : Int) := od_
    obtain ⟨ad150, A150_7, c150_7, e150, hx150_0, hx150_1, hx150_2, hx150_3, hx150_4, hx150_5, hx150_6, hx150_7, hl150_7, hi150_7⟩ := at_T38 HR0.out x5_1 p150 q150
    cases e150
    have HR150_7 := A_.mk hi150_7
    have HC150_7 := A_.mk hl150_7
    clear hi150_7 hl150_7
    replace p150 := eq_true p150
    replace q150 := eq_true q150
    have p151 : 0 ≤ (x5_1 : Int) := od_
    have q151 : x5_1 < (l0.length : Int) := od_
    obtain ⟨ad151, A151_7, c151_7, e151, hx151_0, hx151_1, hx151_2, hx151_3, hx151_4, hx151_5, hx151_6, hx151_7, hl151_7, hi151_7⟩ := at_T38 HR0.out x5_1 p151 q151
    obtain rfl : ad150 = ad151 := (by injection e151)
    have HR151_7 := A_.mk hi151_7
    have HC151_7 := A_.mk hl151_7
    clear hi151_7 hl151_7
    replace p151 := eq_true p151
    replace q151 := eq_true q151
    have ea_ := Option.some.inj (hx150_7.symm.trans hx151_7)
    injection ea_ with ea_ en_ ec_
    subst ea_
    subst ec_
    clear en_
    go_wp2
    go_ret
    exact ⟨by first | rfl | (simp; done) | (simp [*]; done), by repeat (first | exact Drawn0.refl _ | apply Drawn0.step)⟩
   rw [if_pos c6] at H
   have c6b0 : (((rd_T38 l0 x5_1).f1) == (wrap64 (x1_1 + 1))) = true := beq_iff_eq.mpr c6
   have c6b0w : (((rd_T38 l0 x5_1).f1) == (IntKind.i64.wrap (x1_1 + 1))) = true := by simp only [i64_w]; exact c6b0
   have c6b1 : (((rd_T38 l0 x5_1).f1) != (wrap64 (x1_1 + 1))) = false := bne_eq_false_iff_eq.mpr c6
   have c6b1w : (((rd_T38 l0 x5_1).f1) != (IntKind.i64.wrap (x1_1 + 1))) = false := by simp only [i64_w]; exact c6b1
   clear c6
   by_cases c7 : ((rd_T38 l0 x5_1).f2) = (wrap64 ((wrap64 (x1_1 + 1)) + 1))
   rotate_left
   ·rw [if_neg c7] at H
    have c7b0 : (((rd_T38 l0 x5_1).f2) == (wrap64 ((wrap64 (x1_1 + 1)) + 1))) = false := beq_eq_false_iff_ne.mpr c7
    have c7b0w : (((rd_T38 l0 x5_1).f2) == (IntKind.i64.wrap ((IntKind.i64.wrap (x1_1 + 1)) + 1))) = false := by simp only [i64_w]; exact c7b0
    have c7b1 : (((rd_T38 l0 x5_1).f2) != (wrap64 ((wrap64 (x1_1 + 1)) + 1))) = true := bne_iff_ne.mpr c7
    have c7b1w : (((rd_T38 l0 x5_1).f2) != (IntKind.i64.wrap ((IntKind.i64.wrap (x1_1 + 1)) + 1))) = true := by simp only [i64_w]; exact c7b1
    obtain rfl := Option.some.inj H
    have p150 : 0 ≤ (x5_1 : Int) := od_
    have q150 : x5_1 < (l0.length : Int) := od_
    obtain ⟨ad150, A150_7, c150_7, e150, hx150_0, hx150_1, hx150_2, hx150_3, hx150_4, hx150_5, hx150_6, hx150_7, hl150_7, hi150_7⟩ := at_T38 HR0.out x5_1 p150 q150
    cases e150
    have HR150_7 := A_.mk hi150_7
    have HC150_7 := A_.mk hl150_7
    clear hi150_7 hl150_7
    replace p150 := eq_true p150
    replace q150 := eq_true q150
    have p151 : 0 ≤ (x5_1 : Int) := od_
    have q151 : x5_1 < (l0.length : Int) := od_
    obtain ⟨ad151, A151_7, c151_7, e151, hx151_0, hx151_1, hx151_2, hx151_3, hx151_4, hx151_5, hx151_6, hx151_7, hl151_7, hi151_7⟩ := at_T38 HR0.out x5_1 p151 q151
    obtain rfl : ad150 = ad151 := (by injection e151)
    have HR151_7 := A_.mk hi151_7
    have HC151_7 := A_.mk hl151_7
    clear hi151_7 hl151_7
    replace p151 := eq_true p151
    replace q151 := eq_true q151
    have ea_ := Option.some.inj (hx150_7.symm.trans hx151_7)
    injection ea_ with ea_ en_ ec_
    subst ea_
    subst ec_
    clear en_
    have p152 : 0 ≤ (x5_1 : Int) := od_
    have q152 : x5_1 < (l0.length : Int) := od_
    obtain ⟨ad152, A152_7, c152_7, e152, hx152_0, hx152_1, hx152_2, hx152_3, hx152_4, hx152_5, hx152_6, hx152_7, hl152_7, hi152_7⟩ := at_T38 HR0.out x5_1 p152 q152
    obtain rfl : ad150 = ad152 := (by injection e152)
    have HR152_7 := A_.mk hi152_7
    have HC152_7 := A_.mk hl152_7
    clear hi152_7 hl152_7
    replace p152 := eq_true p152
    replace q152 := eq_true q152
    have ea_ := Option.some.inj (hx150_7.symm.trans hx152_7)
    injection ea_ with ea_ en_ ec_
    subst ea_
    subst ec_
    clear en_
    go_wp2
    go_ret
    exact ⟨by first | rfl | (simp; done) | (simp [*]; done), by repeat (first | exact Drawn0.refl _ | apply Drawn0.step)⟩
   rw [if_pos c7] at H
   have c7b0 : (((rd_T38 l0 x5_1).f2) == (wrap64 ((wrap64 (x1_1 + 1)) + 1))) = true := beq_iff_eq.mpr c7
   have c7b0w : (((rd_T38 l0 x5_1).f2) == (IntKind.i64.wrap ((IntKind.i64.wrap (x1_1 + 1)) + 1))) = true := by simp only [i64_w]; exact c7b0
   have c7b1 : (((rd_T38 l0 x5_1).f2) != (wrap64 ((wrap64 (x1_1 + 1)) + 1))) = false := bne_eq_false_iff_eq.mpr c7
   have c7b1w : (((rd_T38 l0 x5_1).f2) != (IntKind.i64.wrap ((IntKind.i64.wrap (x1_1 + 1)) + 1))) = false := by simp only [i64_w]; exact c7b1
   clear c7
   by_cases c8 : ((rd_T38 l0 x5_1).f3) = (wrap64 ((wrap64 ((wrap64 (x1_1 + 1)) + 1)) + 1))
   rotate_left
   ·rw [if_neg c8] at H
    have c8b0 : (((rd_T38 l0 x5_1).f3) == (wrap64 ((wrap64 ((wrap64 (x1_1 + 1)) + 1)) + 1))) = false := beq_eq_false_iff_ne.mpr c8
    have c8b0w : (((rd_T38 l0 x5_1).f3) == (IntKind.i64.wrap ((IntKind.i64.wrap ((IntKind.i64.wrap (x1_1 + 1)) + 1)) + 1))) = false := by simp only [i64_w]; exact c8b0
    have c8b1 : (((rd_T38 l0 x5_1).f3) != (wrap64 ((wrap64 ((wrap64 (x1_1 + 1)) + 1)) + 1))) = true := bne_iff_ne.mpr c8
    have c8b1w : (((rd_T38 l0 x5_1).f3) != (IntKind.i64.wrap ((IntKind.i64.wrap ((IntKind.i64.wrap (x1_1 + 1)) + 1)) + 1))) = true := by simp only [i64_w]; exact c8b1
    obtain rfl := Option.some.inj H
    have p150 : 0 ≤ (x5_1 : Int) := od_
    have q150 : x5_1 < (l0.length : Int) := od_
    obtain ⟨ad150, A150_7, c150_7, e150, hx150_0, hx150_1, hx150_2, hx150_3, hx150_4, hx150_5, hx150_6, hx150_7, hl150_7, hi150_7⟩ := at_T38 HR0.out x5_1 p150 q150
    cases e150
    have HR150_7 := A_.mk hi150_7
    have HC150_7 := A_.mk hl150_7
    clear hi150_7 hl150_7
    replace p150 := eq_true p150
    replace q150 := eq_true q150
    have p151 : 0 ≤ (x5_1 : Int) := od_
    have q151 : x5_1 < (l0.length : Int) := od_
    obtain ⟨ad151, A151_7, c151_7, e151, hx151_0, hx151_1, hx151_2, hx151_3, hx151_4, hx151_5, hx151_6, hx151_7, hl151_7, hi151_7⟩ := at_T38 HR0.out x5_1 p151 q151
    obtain rfl : ad150 = ad151 := (by injection e151)
    have HR151_7 := A_.mk hi151_7
    have HC151_7 := A_.mk hl151_7
    clear hi151_7 hl151_7
    replace p151 := eq_true p151
    replace q151 := eq_true q151
    have ea_ := Option.some.inj (hx150_7.symm.trans hx151_7)
    injection ea_ with ea_ en_ ec_
    subst ea_
    subst ec_
    clear en_
    have p152 : 0 ≤ (x5_1 : Int) := od_
    have q152 : x5_1 < (l0.length : Int) := od_
    obtain ⟨ad152, A152_7, c152_7, e152, hx152_0, hx152_1, hx152_2, hx152_3, hx152_4, hx152_5, hx152_6, hx152_7, hl152_7, hi152_7⟩ := at_T38 HR0.out x5_1 p152 q152
    obtain rfl : ad150 = ad152 := (by injection e152)
    have HR152_7 := A_.mk hi152_7
    have HC152_7 := A_.mk hl152_7
    clear hi152_7 hl152_7
    replace p152 := eq_true p152
    replace q152 := eq_true q152
    have ea_ := Option.some.inj (hx150_7.symm.trans hx152_7)
    injection ea_ with ea_ en_ ec_
    subst ea_
    subst ec_
    clear en_
    have p153 : 0 ≤ (x5_1 : Int) := od_
    have q153 : x5_1 < (l0.length : Int) := od_
    obtain ⟨ad153, A153_7, c153_7, e153, hx153_0, hx153_1, hx153_2, hx153_3, hx153_4, hx153_5, hx153_6, hx153_7, hl153_7, hi153_7⟩ := at_T38 HR0.out x5_1 p153 q153
    obtain rfl : ad150 = ad153 := (by injection e153)
    have HR153_7 := A_.mk hi153_7
    have HC153_7 := A_.mk hl153_7
    clear hi153_7 hl153_7
    replace p153 := eq_true p153
    replace q153 := eq_true q153
    have ea_ := Option.some.inj (hx150_7.symm.trans hx153_7)
    injection ea_ with ea_ en_ ec_
    subst ea_
    subst ec_
    clear en_
    go_wp2
    go_ret
    exact ⟨by first | rfl | (simp; done) | (simp [*]; done), by repeat (first | exact Drawn0.refl _ | apply Drawn0.step)⟩
   rw [if_pos c8] at H
   have c8b0 : (((rd_T38 l0 x5_1).f3) == (wrap64 ((wrap64 ((wrap64 (x1_1 + 1)) + 1)) + 1))) = true := beq_iff_eq.mpr c8
   have c8b0w : (((rd_T38 l0 x5_1).f3) == (IntKind.i64.wrap ((IntKind.i64.wrap ((IntKind.i64.wrap (x1_1 + 1)) + 1)) + 1))) = true := by simp only [i64_w]; exact c8b0
   have c8b1 : (((rd_T38 l0 x5_1).f3) != (wrap64 ((wrap64 ((wrap64 (x1_1 + 1)) + 1)) + 1))) = false := bne_eq_false_iff_eq.mpr c8
   have c8b1w : (((rd_T38 l0 x5_1).f3) != (IntKind.i64.wrap ((IntKind.i64.wrap ((IntKind.i64.wrap (x1_1 + 1)) + 1)) + 1))) = false := by simp only [i64_w]; exact c8b1
   clear c8
   by_cases c9 : ((rd_T38 l0 x5_1).f4) = (wrap64 ((wrap64 ((wrap64 ((wrap64 (x1_1 + 1)) + 1)) + 1)) + 1))
   rotate_left
   ·rw [if_neg c9] at H
    have c9b0 : (((rd_T38 l0 x5_1).f4) == (wrap64 ((wrap64 ((wrap64 ((wrap64 (x1_1 + 1)) + 1)) + 1)) + 1))) = false := beq_eq_false_iff_ne.mpr c9
    have c9b0w : (((rd_T38 l0 x5_1).f4) == (IntKind.i64.wrap ((IntKind.i64.wrap ((IntKind.i64.wrap ((IntKind.i64.wrap (x1_1 + 1)) + 1)) + 1)) + 1))) = false := by simp only [i64_w]; exact c9b0
    have c9b1 : (((rd_T38 l0 x5_1).f4) != (wrap64 ((wrap64 ((wrap64 ((wrap64 (x1_1 + 1)) + 1)) + 1)) + 1))) = true := bne_iff_ne.mpr c9
    have c9b1w : (((rd_T38 l0 x5_1).f4) != (IntKind.i64.wrap ((IntKind.i64.wrap ((IntKind.i64.wrap ((IntKind.i64.wrap (x1_1 + 1)) + 1)) + 1)) + 1))) = true := by simp only [i64_w]; exact c9b1
    obtain rfl := Option.some.inj H
    have p150 : 0 ≤ (x5_1 : Int) := od_
    have q150 : x5_1 < (l0.length : Int) := od_
    obtain ⟨ad150, A150_7, c150_7, e150, hx150_0, hx150_1, hx150_2, hx150_3, hx150_4, hx150_5, hx150_6, hx150_7, hl150_7, hi150_7⟩ := at_T38 HR0.out x5_1 p150 q150
    cases e150
    have HR150_7 := A_.mk hi150_7
    have HC150_7 := A_.mk hl150_7
    clear hi150_7 hl150_7
    replace p150 := eq_true p150
    replace q150 := eq_true q150
    have p151 : 0 ≤ (x5_1 : Int) := od_
    have q151 : x5_1 < (l0.length : Int) := od_
    obtain ⟨ad151, A151_7, c151_7, e151, hx151_0, hx151_1, hx151_2, hx151_3, hx151_4, hx151_5, hx151_6, hx151_7, hl151_7, hi151_7⟩ := at_T38 HR0.out x5_1 p151 q151
    obtain rfl : ad150 = ad151 := (by injection e151)
    have HR151_7 := A_.mk hi151_7
    have HC151_7 := A_.mk hl151_7
    clear hi151_7 hl151_7
    replace p151 := eq_true p151
    replace q151 := eq_true q151
    have ea_ := Option.some.inj (hx150_7.symm.trans hx151_7)
    injection ea_ with ea_ en_ ec_
    subst ea_
    subst ec_
    clear en_
    have p152 : 0 ≤ (x5_1 : Int) := od_
    have q152 : x5_1 < (l0.length : Int) := od_
    obtain ⟨ad152, A152_7, c152_7, e152, hx152_0, hx152_1, hx152_2, hx152_3, hx152_4, hx152_5, hx152_6, hx152_7, hl152_7, hi152_7⟩ := at_T38 HR0.out x5_1 p152 q152
    obtain rfl : ad150 = ad152 := (by injection e152)
    have HR152_7 := A_.mk hi152_7
    have HC152_7 := A_.mk hl152_7
    clear hi152_7 hl152_7
    replace p152 := eq_true p152
    replace q152 := eq_true q152
    have ea_ := Option.some.inj (hx150_7.symm.trans hx152_7)
    injection ea_ with ea_ en_ ec_
    subst ea_
    subst ec_
    clear en_
    have p153 : 0 ≤ (x5_1 : Int) := od_
    have q153 : x5_1 < (l0.length : Int) := od_
    obtain ⟨ad153, A153_7, c153_7, e153, hx153_0, hx153_1, hx153_2, hx153_3, hx153_4, hx153_5, hx153_6, hx153_7, hl153_7, hi153_7⟩ := at_T38 HR0.out x5_1 p153 q153
    obtain rfl : ad150 = ad153 := (by injection e153)
    have HR153_7 := A_.mk hi153_7
    have HC153_7 := A_.mk hl153_7
    clear hi153_7 hl153_7
    replace p153 := eq_true p153
    replace q153 := eq_true q153
    have ea_ := Option.some.inj (hx150_7.symm.trans hx153_7)
    injection ea_ with ea_ en_ ec_
    subst ea_
    subst ec_
    clear en_
    have p154 : 0 ≤ (x5_1 : Int) := od_
    have q154 : x5_1 < (l0.length : Int) := od_
    obtain ⟨ad154, A154_7, c154_7, e154, hx154_0, hx154_1, hx154_2, hx154_3, hx154_4, hx154_5, hx154_6, hx154_7, hl154_7, hi154_7⟩ := at_T38 HR0.out x5_1 p154 q154
    obtain rfl : ad150 = ad154 := (by injection e154)
    have HR154_7 := A_.mk hi154_7
    have HC154_7 := A_.mk hl154_7
    clear hi154_7 hl154_7
    replace p154 := eq_true p154
    replace q154 := eq_true q154
    have ea_ := Option.some.inj (hx150_7.symm.trans hx154_7)
    injection ea_ with ea_ en_ ec_
    subst ea_
    subst ec_
    clear en_
    go_wp2
    go_ret
    exact ⟨by first | rfl | (simp; done) | (simp [*]; done), by repeat (first | exact Drawn0.refl _ | apply Drawn0.step)⟩
   rw [if_pos c9] at H
   have c9b0 : (((rd_T38 l0 x5_1).f4) == (wrap64 ((wrap64 ((wrap64 ((wrap64 (x1_1 + 1)) + 1)) + 1)) + 1))) = true := beq_iff_eq.mpr c9
   have c9b0w : (((rd_T38 l0 x5_1).f4) == (IntKind.i64.wrap ((IntKind.i64.wrap ((IntKind.i64.wrap ((IntKind.i64.wrap (x1_1 + 1)) + 1)) + 1)) + 1))) = true := by simp only [i64_w]; exact c9b0
   have c9b1 : (((rd_T38 l0 x5_1).f4) != (wrap64 ((wrap64 ((wrap64 ((wrap64 (x1_1 + 1)) + 1)) + 1)) + 1))) = false := bne_eq_false_iff_eq.mpr c9
   have c9b1w : (((rd_T38 l0 x5_1).f4) != (IntKind.i64.wrap ((IntKind.i64.wrap ((IntKind.i64.wrap ((IntKind.i64.wrap (x1_1 + 1)) + 1)) + 1)) + 1))) = false := by simp only [i64_w]; exact c9b1
   clear c9
   by_cases c10 : ((rd_T38 l0 x5_1).f5) = (wrap64 ((wrap64 ((wrap64 ((wrap64 ((wrap64 (x1_1 + 1)) + 1)) + 1)) + 1)) + 1))
   rotate_left
   ·rw [if_neg c10] at H
    have c10b0 : (((rd_T38 l0 x5_1).f5) == (wrap64 ((wrap64 ((wrap64 ((wrap64 ((wrap64 (x1_1 + 1)) + 1)) + 1)) + 1)) + 1))) = false := beq_eq_false_iff_ne.mpr c10
    have c10b0w : (((rd_T38 l0 x5_1).f5) == (IntKind.i64.wrap ((IntKind.i64.wrap ((IntKind.i64.wrap ((IntKind.i64.wrap ((IntKind.i64.wrap (x1_1 + 1)) + 1)) + 1)) + 1)) + 1))) = false := by simp only [i64_w]; exact c10b0
    have c10b1 : (((rd_T38 l0 x5_1).f5) != (wrap64 ((wrap64 ((wrap64 ((wrap64 ((wrap64 (x1_1 + 1)) + 1)) + 1)) + 1)) + 1))) = true := bne_iff_ne.mpr c10
    have c10b1w : (((rd_T38 l0 x5_1).f5) != (IntKind.i64.wrap ((IntKind.i64.wrap ((IntKind.i64.wrap ((IntKind.i64.wrap ((IntKind.i64.wrap (x1_1 + 1)) + 1)) + 1)) + 1)) + 1))) = true := by simp only [i64_w]; exact c10b1
    obtain rfl := Option.some.inj H
    have p150 : 0 ≤ (x5_1 : Int) := od_
    have q150 : x5_1 < (l0.length : Int) := od_
    obtain ⟨ad150, A150_7, c150_7, e150, hx150_0, hx150_1, hx150_2, hx150_3, hx150_4, hx150_5, hx150_6, hx150_7, hl150_7, hi150_7⟩ := at_T38 HR0.out x5_1 p150 q150
    cases e150
    have HR150_7 := A_.mk hi150_7
    have HC150_7 := A_.mk hl150_7
    clear hi150_7 hl150_7
    replace p150 := eq_true p150
    replace q150 := eq_true q150
    have p151 : 0 ≤ (x5_1 : Int) := od_
    have q151 : x5_1 < (l0.length : Int) := od_
    obtain ⟨ad151, A151_7, c151_7, e151, hx151_0, hx151_1, hx151_2, hx151_3, hx151_4, hx151_5, hx151_6, hx151_7, hl151_7, hi151_7⟩ := at_T38 HR0.out x5_1 p151 q151
    obtain rfl : ad150 = ad151 := (by injection e151)
    have HR151_7 := A_.mk hi151_7
    have HC151_7 := A_.mk hl151_7
    clear hi151_7 hl151_7
    replace p151 := eq_true p151
    replace q151 := eq_true q151
    have ea_ := Option.some.inj (hx150_7.symm.trans hx151_7)
    injection ea_ with ea_ en_ ec_
    subst ea_
    subst ec_
    clear en_
    have p152 : 0 ≤ (x5_1 : Int) := od_
    have q152 : x5_1 < (l0.length : Int) := od_
    obtain ⟨ad152, A152_7, c152_7, e152, hx152_0, hx152_1, hx152_2, hx152_3, hx152_4, hx152_5, hx152_6, hx152_7, hl152_7, hi152_7⟩ := at_T38 HR0.out x5_1 p152 q152
    obtain rfl : ad150 = ad152 := (by injection e152)
    have HR152_7 := A_.mk hi152_7
    have HC152_7 := A_.mk hl152_7
    clear hi152_7 hl152_7
    replace p152 := eq_true p152
    replace q152 := eq_true q152
    have ea_ := Option.some.inj (hx150_7.symm.trans hx152_7)
    injection ea_ with ea_ en_ ec_
    subst ea_
    subst ec_
    clear en_
    have p153 : 0 ≤ (x5_1 : Int) := od_
    have q153 : x5_1 < (l0.length : Int) := od_
    obtain ⟨ad153, A153_7, c153_7, e153, hx153_0, hx153_1, hx153_2, hx153_3, hx153_4, hx153_5, hx153_6, hx153_7, hl153_7, hi153_7⟩ := at_T38 HR0.out x5_1 p153 q153
    obtain rfl : ad150 = ad153 := (by injection e153)
    have HR153_7 := A_.mk hi153_7
    have HC153_7 := A_.mk hl153_7
    clear hi153_7 hl153_7
    replace p153 := eq_true p153
    replace q153 := eq_true q153
    have ea_ := Option.some.inj (hx150_7.symm.trans hx153_7)
    injection ea_ with ea_ en_ ec_
    subst ea_
    subst ec_
    clear en_
    have p154 : 0 ≤ (x5_1 : Int) := od_
    have q154 : x5_1 < (l0.length : Int) := od_
    obtain ⟨ad154, A154_7, c154_7, e154, hx154_0, hx154_1, hx154_2, hx154_3, hx154_4, hx154_5, hx154_6, hx154_7, hl154_7, hi154_7⟩ := at_T38 HR0.out x5_1 p154 q154
    obtain rfl : ad150 = ad154 := (by injection e154)
    have HR154_7 := A_.mk hi154_7
    have HC154_7 := A_.mk hl154_7
    clear hi154_7 hl154_7
    replace p154 := eq_true p154
    replace q154 := eq_true q154
    have ea_ := Option.some.inj (hx150_7.symm.trans hx154_7)
    injection ea_ with ea_ en_ ec_
    subst ea_
    subst ec_
    clear en_
    have p155 : 0 ≤ (x5_1 : Int) := od_
    have q155 : x5_1 < (l0.length : Int) := od_
    obtain ⟨ad155, A155_7, c155_7, e155, hx155_0, hx155_1, hx155_2, hx155_3, hx155_4, hx155_5, hx155_6, hx155_7, hl155_7, hi155_7⟩ := at_T38 HR0.out x5_1 p155 q155
    obtain rfl : ad150 = ad155 := (by injection e155)
    have HR155_7 := A_.mk hi155_7
    have HC155_7 := A_.mk hl155_7
    clear hi155_7 hl155_7
    replace p155 := eq_true p155
    replace q155 := eq_true q155
    have ea_ := Option.some.inj (hx150_7.symm.trans hx155_7)
    injection ea_ with ea_ en_ ec_
    subst ea_
    subst ec_
    clear en_
    go_wp2
    go_ret
    exact ⟨by first | rfl | (simp; done) | (simp [*]; done), by repeat (first | exact Drawn0.refl _ | apply Drawn0.step)⟩
   rw [if_pos c10] at H
   have c10b0 : (((rd_T38 l0 x5_1).f5) == (wrap64 ((wrap64 ((wrap64 ((wrap64 ((wrap64 (x1_1 + 1)) + 1)) + 1)) + 1)) + 1))) = true := beq_iff_eq.mpr c10
   have c10b0w : (((rd_T38 l0 x5_1).f5) == (IntKind.i64.wrap ((IntKind.i64.wrap ((IntKind.i64.wrap ((IntKind.i64.wrap ((IntKind.i64.wrap (x1_1 + 1)) + 1)) + 1)) + 1)) + 1))) = true := by simp only [i64_w]; exact c10b0
   have c10b1 : (((rd_T38 l0 x5_1).f5) != (wrap64 ((wrap64 ((wrap64 ((wrap64 ((wrap64 (x1_1 + 1)) + 1)) + 1)) + 1)) + 1))) = false := bne_eq_false_iff_eq.mpr c10
   have c10b1w : (((rd_T38 l0 x5_1).f5) != (IntKind.i64.wrap ((IntKind.i64.wrap ((IntKind.i64.wrap ((IntKind.i64.wrap ((IntKind.i64.wrap (x1_1 + 1)) + 1)) + 1)) + 1)) + 1))) = false := by simp only [i64_w]; exact c10b1
   clear c10
   by_cases c11 : ((rd_T38 l0 x5_1).f6) = (wrap64 ((wrap64 ((wrap64 ((wrap64 ((wrap64 ((wrap64 (x1_1 + 1)) + 1)) + 1)) + 1)) + 1)) + 1))
   rotate_left
   ·rw [if_neg c11] at H
    have c11b0 : (((rd_T38 l0 x5_1).f6) == (wrap64 ((wrap64 ((wrap64 ((wrap64 ((wrap64 ((wrap64 (x1_1 + 1)) + 1)) + 1)) + 1)) + 1)) + 1))) = false := beq_eq_false_iff_ne.mpr c11
    have c11b0w : (((rd_T38 l0 x5_1).f6) == (IntKind.i64.wrap ((IntKind.i64.wrap ((IntKind.i64.wrap ((IntKind.i64.wrap ((IntKind.i64.wrap ((IntKind.i64.wrap (x1_1 + 1)) + 1)) + 1)) + 1)) + 1)) + 1))) = false := by simp only [i64_w]; exact c11b0
    have c11b1 : (((rd_T38 l0 x5_1).f6) != (wrap64 ((wrap64 ((wrap64 ((wrap64 ((wrap64 ((wrap64 (x1_1 + 1)) + 1)) + 1)) + 1)) + 1)) + 1))) = true := bne_iff_ne.mpr c11
    have c11b1w : (((rd_T38 l0 x5_1).f6) != (IntKind.i64.wrap ((IntKind.i64.wrap ((IntKind.i64.wrap ((IntKind.i64.wrap ((IntKind.i64.wrap ((IntKind.i64.wrap (x1_1 + 1)) + 1)) + 1)) + 1)) + 1)) + 1))) = true := by simp only [i64_w]; exact c11b1
    obtain rfl := Option.some.inj H
    have p150 : 0 ≤ (x5_1 : Int) := od_
    have q150 : x5_1 < (l0.length : Int) := od_
    obtain ⟨ad150, A150_7, c150_7, e150, hx150_0, hx150_1, hx150_2, hx150_3, hx150_4, hx150_5, hx150_6, hx150_7, hl150_7, hi150_7⟩ := at_T38 HR0.out x5_1 p150 q150
    cases e150
    have HR150_7 := A_.mk hi150_7
    have HC150_7 := A_.mk hl150_7
    clear hi150_7 hl150_7
    replace p150 := eq_true p150
    replace q150 := eq_true q150
    have p151 : 0 ≤ (x5_1 : Int) := od_
    have q151 : x5_1 < (l0.length : Int) := od_
    obtain ⟨ad151, A151_7, c151_7, e151, hx151_0, hx151_1, hx151_2, hx151_3, hx151_4, hx151_5, hx151_6, hx151_7, hl151_7, hi151_7⟩ := at_T38 HR0.out x5_1 p151 q151
    obtain rfl : ad150 = ad151 := (by injection e151)
    have HR151_7 := A_.mk hi151_7
    have HC151_7 := A_.mk hl151_7
    clear hi151_7 hl151_7
    replace p151 := eq_true p151
    replace q151 := eq_true q151
    have ea_ := Option.some.inj (hx150_7.symm.trans hx151_7)
    injection ea_ with ea_ en_ ec_
    subst ea_
    subst ec_
    clear en_
    have p152 : 0 ≤ (x5_1 : Int) := od_
    have q152 : x5_1 < (l0.length : Int) := od_
    obtain ⟨ad152, A152_7, c152_7, e152, hx152_0, hx152_1, hx152_2, hx152_3, hx152_4, hx152_5, hx152_6, hx152_7, hl152_7, hi152_7⟩ := at_T38 HR0.out x5_1 p152 q152
    obtain rfl : ad150 = ad152 := (by injection e152)
    have HR152_7 := A_.mk hi152_7
    have HC152_7 := A_.mk hl152_7
    clear hi152_7 hl152_7
    replace p152 := eq_true p152
    replace q152 := eq_true q152
    have ea_ := Option.some.inj (hx150_7.symm.trans hx152_7)
    injection ea_ with ea_ en_ ec_
    subst ea_
    subst ec_
    clear en_
    have p153 : 0 ≤ (x5_1 : Int) := od_
    have q153 : x5_1 < (l0.length : Int) := od_
    obtain ⟨ad153, A153_7, c153_7, e153, hx153_0, hx153_1, hx153_2, hx153_3, hx153_4, hx153_5, hx153_6, hx153_7, hl153_7, hi153_7⟩ := at_T38 HR0.out x5_1 p153 q153
    obtain rfl : ad150 = ad153 := (by injection e153)
    have HR153_7 := A_.mk hi153_7
    have HC153_7 := A_.mk hl153_7
    clear hi153_7 hl153_7
    replace p153 := eq_true p153
    replace q153 := eq_true q153
    have ea_ := Option.some.inj (hx150_7.symm.trans hx153_7)
    injection ea_ with ea_ en_ ec_
    subst ea_
    subst ec_
    clear en_
    have p154 : 0 ≤ (x5_1 : Int) := od_
    have q154 : x5_1 < (l0.length : Int) := od_
    obtain ⟨ad154, A154_7, c154_7, e154, hx154_0, hx154_1, hx154_2, hx154_3, hx154_4, hx154_5, hx154_6, hx154_7, hl154_7, hi154_7⟩ := at_T38 HR0.out x5_1 p154 q154
    obtain rfl : ad150 = ad154 := (by injection e154)
    have HR154_7 := A_.mk hi154_7
    have HC154_7 := A_.mk hl154_7
    clear hi154_7 hl154_7
    replace p154 := eq_true p154
    replace q154 := eq_true q154
    have ea_ := Option.some.inj (hx150_7.symm.trans hx154_7)
    injection ea_ with ea_ en_ ec_
    subst ea_
    subst ec_
    clear en_
    have p155 : 0 ≤ (x5_1 : Int) := od_
    have q155 : x5_1 < (l0.length : Int) := od_
    obtain ⟨ad155, A155_7, c155_7, e155, hx155_0, hx155_1, hx155_2, hx155_3, hx155_4, hx155_5, hx155_6, hx155_7, hl155_7, hi155_7⟩ := at_T38 HR0.out x5_1 p155 q155
    obtain rfl : ad150 = ad155 := (by injection e155)
    have HR155_7 := A_.mk hi155_7
    have HC155_7 := A_.mk hl155_7
    clear hi155_7 hl155_7
    replace p155 := eq_true p155
    replace q155 := eq_true q155
    have ea_ := Option.some.inj (hx150_7.symm.trans hx155_7)
    injection ea_ with ea_ en_ ec_
    subst ea_
    subst ec_
    clear en_
    have p156 : 0 ≤ (x5_1 : Int) := od_
    have q156 : x5_1 < (l0.length : Int) := od_
    obtain ⟨ad156, A156_7, c156_7, e156, hx156_0, hx156_1, hx156_2, hx156_3, hx156_4, hx156_5, hx156_6, hx156_7, hl156_7, hi156_7⟩ := at_T38 HR0.out x5_1 p156 q156
    obtain rfl : ad150 = ad156 := (by injection e156)
    have HR156_7 := A_.mk hi156_7
    have HC156_7 := A_.mk hl156_7
    clear hi156_7 hl156_7
    replace p156 := eq_true p156
    replace q156 := eq_true q156
    have ea_ := Option.some.inj (hx150_7.symm.trans hx156_7)
    injection ea_ with ea_ en_ ec_
    subst ea_
    subst ec_
    clear en_
    go_wp2
    go_ret
    exact ⟨by first | rfl | (simp; done) | (simp [*]; done), by repeat (first | exact Drawn0.refl _ | apply Drawn0.step)⟩
   rw [if_pos c11] at H
   have c11b0 : (((rd_T38 l0 x5_1).f6) == (wrap64 ((wrap64 ((wrap64 ((wrap64 ((wrap64 ((wrap64 (x1_1 + 1)) + 1)) + 1)) + 1)) + 1)) + 1))) = true := beq_iff_eq.mpr c11
   have c11b0w : (((rd_T38 l0 x5_1).f6) == (IntKind.i64.wrap ((IntKind.i64.wrap ((IntKind.i64.wrap ((IntKind.i64.wrap ((IntKind.i64.wrap ((IntKind.i64.wrap (x1_1 + 1)) + 1)) + 1)) + 1)) + 1)) + 1))) = true := by simp only [i64_w]; exact c11b0
   have c11b1 : (((rd_T38 l0 x5_1).f6) != (wrap64 ((wrap64 ((wrap64 ((wrap64 ((wrap64 ((wrap64 (x1_1 + 1)) + 1)) + 1)) + 1)) + 1)) + 1))) = false := bne_eq_false_iff_eq.mpr c11
   have c11b1w : (((rd_T38 l0 x5_1).f6) != (IntKind.i64.wrap ((IntKind.i64.wrap ((IntKind.i64.wrap ((IntKind.i64.wrap ((IntKind.i64.wrap ((IntKind.i64.wrap (x1_1 + 1)) + 1)) + 1)) + 1)) + 1)) + 1))) = false := by simp only [i64_w]; exact c11b1
   clear c11
   replace H := ob_ H
   obtain ⟨t158, A120, H⟩ := H
   have A12 := A_.mk A120
   clear A120
   by_cases c13 : t158 < 0
   ·rw [if_pos c13] at H
    have c13b0 : decide (t158 < 0) = true := decide_eq_true c13
    clear c13
    obtain rfl := Option.some.inj H
    have p150 : 0 ≤ (x5_1 : Int) := od_
    have q150 : x5_1 < (l0.length : Int) := od_
    obtain ⟨ad150, A150_7, c150_7, e150, hx150_0, hx150_1, hx150_2, hx150_3, hx150_4, hx150_5, hx150_6, hx150_7, hl150_7, hi150_7⟩ := at_T38 HR0.out x5_1 p150 q150
    cases e150
    have HR150_7 := A_.mk hi150_7
    have HC150_7 := A_.mk hl150_7
    clear hi150_7 hl150_7
    replace p150 := eq_true p150
    replace q150 := eq_true q150
    have p151 : 0 ≤ (x5_1 : Int) := od_
    have q151 : x5_1 < (l0.length : Int) := od_
    obtain ⟨ad151, A151_7, c151_7, e151, hx151_0, hx151_1, hx151_2, hx151_3, hx151_4, hx151_5, hx151_6, hx151_7, hl151_7, hi151_7⟩ := at_T38 HR0.out x5_1 p151 q151
    obtain rfl : ad150 = ad151 := (by injection e151)
    have HR151_7 := A_.mk hi151_7
    have HC151_7 := A_.mk hl151_7
    clear hi151_7 hl151_7
    replace p151 := eq_true p151
    replace q151 := eq_true q151
    have ea_ := Option.some.inj (hx150_7.symm.trans hx151_7)
    injection ea_ with ea_ en_ ec_
    subst ea_
    subst ec_
    clear en_
    have p152 : 0 ≤ (x5_1 : Int) := od_
    have q152 : x5_1 < (l0.length : Int) := od_
    obtain ⟨ad152, A152_7, c152_7, e152, hx152_0, hx152_1, hx152_2, hx152_3, hx152_4, hx152_5, hx152_6, hx152_7, hl152_7, hi152_7⟩ := at_T38 HR0.out x5_1 p152 q152
    obtain rfl : ad150 = ad152 := (by injection e152)
    have HR152_7 := A_.mk hi152_7
    have HC152_7 := A_.mk hl152_7
    clear hi152_7 hl152_7
    replace p152 := eq_true p152
    replace q152 := eq_true q152
    have ea_ := Option.some.inj (hx150_7.symm.trans hx152_7)
    injection ea_ with ea_ en_ ec_
    subst ea_
    subst ec_
    clear en_
    have p153 : 0 ≤ (x5_1 : Int) := od_
    have q153 : x5_1 < (l0.length : Int) := od_
    obtain ⟨ad153, A153_7, c153_7, e153, hx153_0, hx153_1, hx153_2, hx153_3, hx153_4, hx153_5, hx153_6, hx153_7, hl153_7, hi153_7⟩ := at_T38 HR0.out x5_1 p153 q153
    obtain rfl : ad150 = ad153 := (by injection e153)
    have HR153_7 := A_.mk hi153_7
    have HC153_7 := A_.mk hl153_7
    clear hi153_7 hl153_7
    replace p153 := eq_true p153
    replace q153 := eq_true q153
    have ea_ := Option.some.inj (hx150_7.symm.trans hx153_7)
    injection ea_ with ea_ en_ ec_
    subst ea_
    subst ec_
    clear en_
    have p154 : 0 ≤ (x5_1 : Int) := od_
    have q154 : x5_1 < (l0.length : Int) := od_
    obtain ⟨ad154, A154_7, c154_7, e154, hx154_0, hx154_1, hx154_2, hx154_3, hx154_4, hx154_5, hx154_6, hx154_7, hl154_7, hi154_7⟩ := at_T38 HR0.out x5_1 p154 q154
    obtain rfl : ad150 = ad154 := (by injection e154)
    have HR154_7 := A_.mk hi154_7
    have HC154_7 := A_.mk hl154_7
    clear hi154_7 hl154_7
    replace p154 := eq_true p154
    replace q154 := eq_true q154
    have ea_ := Option.some.inj (hx150_7.symm.trans hx154_7)
    injection ea_ with ea_ en_ ec_
    subst ea_
    subst ec_
    clear en_
    have p155 : 0 ≤ (x5_1 : Int) := od_
    have q155 : x5_1 < (l0.length : Int) := od_
    obtain ⟨ad155, A155_7, c155_7, e155, hx155_0, hx155_1, hx155_2, hx155_3, hx155_4, hx155_5, hx155_6, hx155_7, hl155_7, hi155_7⟩ := at_T38 HR0.out x5_1 p155 q155
    obtain rfl : ad150 = ad155 := (by injection e155)
    have HR155_7 := A_.mk hi155_7
    have HC155_7 := A_.mk hl155_7
    clear hi155_7 hl155_7
    replace p155 := eq_true p155
    replace q155 := eq_true q155
    have ea_ := Option.some.inj (hx150_7.symm.trans hx155_7)
    injection ea_ with ea_ en_ ec_
    subst ea_
    subst ec_
    clear en_
    have p156 : 0 ≤ (x5_1 : Int) := od_
    have q156 : x5_1 < (l0.length : Int) := od_
    obtain ⟨ad156, A156_7, c156_7, e156, hx156_0, hx156_1, hx156_2, hx156_3, hx156_4, hx156_5, hx156_6, hx156_7, hl156_7, hi156_7⟩ := at_T38 HR0.out x5_1 p156 q156
    obtain rfl : ad150 = ad156 := (by injection e156)
    have HR156_7 := A_.mk hi156_7
    have HC156_7 := A_.mk hl156_7
    clear hi156_7 hl156_7
    replace p156 := eq_true p156
    replace q156 := eq_true q156
    have ea_ := Option.some.inj (hx150_7.symm.trans hx156_7)
    injection ea_ with ea_ en_ ec_
    subst ea_
    subst ec_
    clear en_
    have p157 : 0 ≤ (x5_1 : Int) := od_
    have q157 : x5_1 < (l0.length : Int) := od_
    obtain ⟨ad157, A157_7, c157_7, e157, hx157_0, hx157_1, hx157_2, hx157_3, hx157_4, hx157_5, hx157_6, hx157_7, hl157_7, hi157_7⟩ := at_T38 HR0.out x5_1 p157 q157
    obtain rfl : ad150 = ad157 := (by injection e157)
    have HR157_7 := A_.mk hi157_7
    have HC157_7 := A_.mk hl157_7
    clear hi157_7 hl157_7
    replace p157 := eq_true p157
    replace q157 := eq_true q157
    have ea_ := Option.some.inj (hx150_7.symm.trans hx157_7)
    injection ea_ with ea_ en_ ec_
    subst ea_
    subst ec_
    clear en_
    go_wp2_with (first | ((with_reducible refine gc_ (f := 61) rfl ?_); refine gl_ (some 81) Try.func61 #[.slice A150_7 ((rd_T38 l0 x5_1).f7).length c150_7, .int .i64 (wrap64 ((wrap64 ((wrap64 ((wrap64 ((wrap64 ((wrap64 ((wrap64 (x1_1 + 1)) + 1)) + 1)) + 1)) + 1)) + 1)) + 1))] ?_; (with_reducible refine (laws_heldIntS.calls k1 _ _ ((rd_T38 l0 x5_1).f7) (wrap64 ((wrap64 ((wrap64 ((wrap64 ((wrap64 ((wrap64 ((wrap64 (x1_1 + 1)) + 1)) + 1)) + 1)) + 1)) + 1)) + 1)) t158 _ ?side1 ?side2 A12.out).mono ?_); (case side1 => exact cY (HR157_7.out)); (case side2 => exact HC157_7.out); rintro e w' ⟨rfl, ⟨nd, rfl⟩⟩; refine ⟨_, rfl, ?_⟩))
    go_ret
    exact ⟨by first | rfl | (simp; done) | (simp [*]; done), by repeat (first | exact Drawn0.refl _ | apply Drawn0.step)⟩
   rw [if_neg c13] at H
   have c13b0 : decide (t158 < 0) = false := decide_eq_false c13
   clear c13
   have H' := A_.mk H
   clear H
   have p150 : 0 ≤ (x5_1 : Int) := od_
   have q150 : x5_1 < (l0.length : Int) := od_
   obtain ⟨ad150, A150_7, c150_7, e150, hx150_0, hx150_1, hx150_2, hx150_3, hx150_4, hx150_5, hx150_6, hx150_7, hl150_7, hi150_7⟩ := at_T38 HR0.out x5_1 p150 q150
   cases e150
   have HR150_7 := A_.mk hi150_7
   have HC150_7 := A_.mk hl150_7
   clear hi150_7 hl150_7
   replace p150 := eq_true p150
   replace q150 := eq_true q150
   have p151 : 0 ≤ (x5_1 : Int) := od_
   have q151 : x5_1 < (l0.length : Int) := od_
   obtain ⟨ad151, A151_7, c151_7, e151, hx151_0, hx151_1, hx151_2, hx151_3, hx151_4, hx151_5, hx151_6, hx151_7, hl151_7, hi151_7⟩ := at_T38 HR0.out x5_1 p151 q151
   obtain rfl : ad150 = ad151 := (by injection e151)
   have HR151_7 := A_.mk hi151_7
   have HC151_7 := A_.mk hl151_7
   clear hi151_7 hl151_7
   replace p151 := eq_true p151
   replace q151 := eq_true q151
   have ea_ := Option.some.inj (hx150_7.symm.trans hx151_7)
   injection ea_ with ea_ en_ ec_
   subst ea_
   subst ec_
   clear en_
   have p152 : 0 ≤ (x5_1 : Int) := od_
   have q152 : x5_1 < (l0.length : Int) := od_
   obtain ⟨ad152, A152_7, c152_7, e152, hx152_0, hx152_1, hx152_2, hx152_3, hx152_4, hx152_5, hx152_6, hx152_7, hl152_7, hi152_7⟩ := at_T38 HR0.out x5_1 p152 q152
   obtain rfl : ad150 = ad152 := (by injection e152)
   have HR152_7 := A_.mk hi152_7
   have HC152_7 := A_.mk hl152_7
   clear hi152_7 hl152_7
   replace p152 := eq_true p152
   replace q152 := eq_true q152
   have ea_ := Option.some.inj (hx150_7.symm.trans hx152_7)
   injection ea_ with ea_ en_ ec_
   subst ea_
   subst ec_
   clear en_
   have p153 : 0 ≤ (x5_1 : Int) := od_
   have q153 : x5_1 < (l0.length : Int) := od_
   obtain ⟨ad153, A153_7, c153_7, e153, hx153_0, hx153_1, hx153_2, hx153_3, hx153_4, hx153_5, hx153_6, hx153_7, hl153_7, hi153_7⟩ := at_T38 HR0.out x5_1 p153 q153
   obtain rfl : ad150 = ad153 := (by injection e153)
   have HR153_7 := A_.mk hi153_7
   have HC153_7 := A_.mk hl153_7
   clear hi153_7 hl153_7
   replace p153 := eq_true p153
   replace q153 := eq_true q153
   have ea_ := Option.some.inj (hx150_7.symm.trans hx153_7)
   injection ea_ with ea_ en_ ec_
   subst ea_
   subst ec_
   clear en_
   have p154 : 0 ≤ (x5_1 : Int) := od_
   have q154 : x5_1 < (l0.length : Int) := od_
   obtain ⟨ad154, A154_7, c154_7, e154, hx154_0, hx154_1, hx154_2, hx154_3, hx154_4, hx154_5, hx154_6, hx154_7, hl154_7, hi154_7⟩ := at_T38 HR0.out x5_1 p154 q154
   obtain rfl : ad150 = ad154 := (by injection e154)
   have HR154_7 := A_.mk hi154_7
   have HC154_7 := A_.mk hl154_7
   clear hi154_7 hl154_7
   replace p154 := eq_true p154
   replace q154 := eq_true q154
   have ea_ := Option.some.inj (hx150_7.symm.trans hx154_7)
   injection ea_ with ea_ en_ ec_
   subst ea_
   subst ec_
   clear en_
   have p155 : 0 ≤ (x5_1 : Int) := od_
   have q155 : x5_1 < (l0.length : Int) := od_
   obtain ⟨ad155, A155_7, c155_7, e155, hx155_0, hx155_1, hx155_2, hx155_3, hx155_4, hx155_5, hx155_6, hx155_7, hl155_7, hi155_7⟩ := at_T38 HR0.out x5_1 p155 q155
   obtain rfl : ad150 = ad155 := (by injection e155)
   have HR155_7 := A_.mk hi155_7
   have HC155_7 := A_.mk hl155_7
   clear hi155_7 hl155_7
   replace p155 := eq_true p155
   replace q155 := eq_true q155
   have ea_ := Option.some.inj (hx150_7.symm.trans hx155_7)
   injection ea_ with ea_ en_ ec_
   subst ea_
   subst ec_
   clear en_
   have p156 : 0 ≤ (x5_1 : Int) := od_
   have q156 : x5_1 < (l0.length : Int) := od_
   obtain ⟨ad156, A156_7, c156_7, e156, hx156_0, hx156_1, hx156_2, hx156_3, hx156_4, hx156_5, hx156_6, hx156_7, hl156_7, hi156_7⟩ := at_T38 HR0.out x5_1 p156 q156
   obtain rfl : ad150 = ad156 := (by injection e156)
   have HR156_7 := A_.mk hi156_7
   have HC156_7 := A_.mk hl156_7
   clear hi156_7 hl156_7
   replace p156 := eq_true p156
   replace q156 := eq_true q156
   have ea_ := Option.some.inj (hx150_7.symm.trans hx156_7)
   injection ea_ with ea_ en_ ec_
   subst ea_
   subst ec_
   clear en_
   have p157 : 0 ≤ (x5_1 : Int) := od_
   have q157 : x5_1 < (l0.length : Int) := od_
   obtain ⟨ad157, A157_7, c157_7, e157, hx157_0, hx157_1, hx157_2, hx157_3, hx157_4, hx157_5, hx157_6, hx157_7, hl157_7, hi157_7⟩ := at_T38 HR0.out x5_1 p157 q157
   obtain rfl : ad150 = ad157 := (by injection e157)
   have HR157_7 := A_.mk hi157_7
   have HC157_7 := A_.mk hl157_7
   clear hi157_7 hl157_7
   replace p157 := eq_true p157
   replace q157 := eq_true q157
   have ea_ := Option.some.inj (hx150_7.symm.trans hx157_7)
   injection ea_ with ea_ en_ ec_
   subst ea_
   subst ec_
   clear en_
   go_wp2_with (first | ((with_reducible refine gc_ (f := 61) rfl ?_); refine gl_ (some 81) Try.func61 #[.slice A150_7 ((rd_T38 l0 x5_1).f7).length c150_7, .int .i64 (wrap64 ((wrap64 ((wrap64 ((wrap64 ((wrap64 ((wrap64 ((wrap64 (x1_1 + 1)) + 1)) + 1)) + 1)) + 1)) + 1)) + 1))] ?_; (with_reducible refine (laws_heldIntS.calls k1 _ _ ((rd_T38 l0 x5_1).f7) (wrap64 ((wrap64 ((wrap64 ((wrap64 ((wrap64 ((wrap64 ((wrap64 (x1_1 + 1)) + 1)) + 1)) + 1)) + 1)) + 1)) + 1)) t158 _ ?side1 ?side2 A12.out).mono ?_); (case side1 => exact cY (HR157_7.out)); (case side2 => exact HC157_7.out); rintro e w' ⟨rfl, ⟨nd, rfl⟩⟩; refine ⟨_, rfl, ?_⟩))
   go_roundg k1
   case measure => have := HK1.out; omega
   case rel => exact ⟨(t158), (wrap64 (x5_1 + 1)), (by first | rfl | (simp; done) | (simp [*]; done)), (by first | rfl | (simp; done) | (simp [*]; done)), H', ⟨by have := HK1.out; omega⟩, by repeat (first | exact Drawn0.refl _ | apply Drawn0.step)⟩
end Go.Proofs.Ytlombfmebinjbaa.PFnExactTellCredits
