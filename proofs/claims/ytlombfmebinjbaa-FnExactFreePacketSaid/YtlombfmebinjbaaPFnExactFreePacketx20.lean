-- Written by a program of this session (wip/xp): not trusted, Lean checks it.
import Derived.Test.YtlombfmebinjbaaPFnExactFreePacketx0
import Derived.Test.YtlombfmebinjbaaPFnExactFreePacketx19
namespace Go.Proofs.Ytlombfmebinjbaa.PFnExactFreePacket
open Go.RowKit Go.Proofs.YtlombfmebinjbaaW.PrintWords Go.Proofs.YtlombfmebinjbaaW.PrintLast Go.Proofs.YtlombfmebinjbaaW.PrintMore
attribute [local go_sem] max2_int min2_int max_two min_two max_three min_three max_four min_four   -- for this text's walks alone
set_option linter.unusedVariables false
set_option linter.unusedSimpArgs false

/-! ### laws_heldPacketS: function 60 -/
def laws_heldPacketS.l0 : Nat → List (S38) → Int → Int → Option (Int)
 | 0, _, _, _ => none
 | k + 1, x0, x1, x5 => if x5 < (x0.length : Int) then (if 0 ≤ x5 then (if ((rd_T38 x0 x5).f0) = x1 then (if ((rd_T38 x0 x5).f1) = (wrap64 (x1 + 1)) then (if ((rd_T38 x0 x5).f2) = (wrap64 ((wrap64 (x1 + 1)) + 1)) then (if ((rd_T38 x0 x5).f3) = (wrap64 ((wrap64 ((wrap64 (x1 + 1)) + 1)) + 1)) then (if ((rd_T38 x0 x5).f4) = (wrap64 ((wrap64 ((wrap64 ((wrap64 (x1 + 1)) + 1)) + 1)) + 1)) then (if ((rd_T38 x0 x5).f5) = (wrap64 ((wrap64 ((wrap64 ((wrap64 ((wrap64 (x1 + 1)) + 1)) + 1)) + 1)) + 1)) then (if ((rd_T38 x0 x5).f6) = (wrap64 ((wrap64 ((wrap64 ((wrap64 ((wrap64 ((wrap64 (x1 + 1)) + 1)) + 1)) + 1)) + 1)) + 1)) then ((laws_heldIntS.f k ((rd_T38 x0 x5).f7) (wrap64 ((wrap64 ((wrap64 ((wrap64 ((wrap64 ((wrap64 ((wrap64 (x1 + 1)) + 1)) + 1)) + 1)) + 1)) + 1)) + 1))).bind fun t332 => (if t332 < 0 then (some (-1)) else (laws_heldPacketS.l0 k x0 t332 (wrap64 (x5 + 1))))) else (some (-1))) else (some (-1))) else (some (-1))) else (some (-1))) else (some (-1))) else (some (-1))) else (some (-1))) else (none)) else (some x1)
def laws_heldPacketS.f (k : Nat) (l0 : List (S38)) (a1 : Int) : Option (Int) := laws_heldPacketS.l0 k l0 a1 0
set_option maxHeartbeats 8000000 in
set_option maxRecDepth 100000 in
theorem laws_heldPacketS.calls (k : Nat) (A0 : Option Addr) (c0 : Nat) (l0 : List (S38)) (a1 : Int) (r : Int) (w : World) (hr0 : Kd.C k38 w A0 l0.length l0) (hc0 : l0.length ≤ c0) (h : laws_heldPacketS.f k l0 a1 = some r) :
  Calls Try.prog 60 #[.slice A0 l0.length c0, .int .i64 a1] w fun e w' => e = .returned (.int .i64 r) ∧ Drawn0 w w' := by
 have HR0 := A_.mk hr0
 have HC0 := A_.mk hc0
 clear hr0 hc0
 have H : (laws_heldPacketS.l0 k l0 a1 0) = some r := h
 clear h
 have H' := A_.mk H
 clear H
 go_enter Try.func60, Try.ntmps60
 go_wp2
 go_loopg [1, 5] k (fun kq v1 v5 w' => ∃ (x1_1 : Int) (x5_1 : Int), v1 = .int .i64 x1_1 ∧ v5 = .int .i64 x5_1 ∧ A_ (laws_heldPacketS.l0 kq l0 x1_1 x5_1 = some r) ∧ A_ (kq ≤ k) ∧ Drawn0 w w')
 case atStart => exact ⟨(a1), (0), (by first | rfl | (simp; done) | (simp [*]; done)), (by first | rfl | (simp; done) | (simp [*]; done)), H', ⟨Nat.le_refl _⟩, by repeat (first | exact Drawn0.refl _ | apply Drawn0.step)⟩
 case round =>
  clear H'
  obtain ⟨x1_1, x5_1, rfl, rfl, HA, HK1, ⟨m1, rfl⟩⟩ := hrel
  cases gk with
  | zero => exact absurd HA.out (by simp [laws_heldPacketS.l0])
  | succ k1 =>
   have H := HA.out
   clear HA
   simp only [laws_heldPacketS.l0] at H
   by_cases c3 : x5_1 < (l0.length : Int)
   rotate_left
   ·rw [if_neg c3] at H
    have c3b0 : decide (x5_1 < (l0.length : Int)) = false := decide_eq_false c3
    clear c3
    obtain rfl := Option.some.inj H
    go_wp2
    go_ret
    exact ⟨by first | rfl | (simp; done) | (simp [*]; done), by repeat (first | exact Drawn0.refl _ | apply Drawn0.step)⟩
   rw [if_pos c3] at H
   have c3b0 : decide (x5_1 < (l0.length : Int)) = true := decide_eq_true c3
   clear c3
   by_cases c4 : 0 ≤ x5_1
   rotate_left
   ·rw [if_neg c4] at H
    exact absurd H (by simp)
   rw [if_pos c4] at H
   have c4b0 : decide (0 ≤ x5_1) = true := decide_eq_true c4
   clear c4
   by_cases c5 : ((rd_T38 l0 x5_1).f0) = x1_1
   rotate_left
   ·rw [if_neg c5] at H
    have c5b0 : (((rd_T38 l0 x5_1).f0) == x1_1) = false := beq_eq_false_iff_ne.mpr c5
    have c5b1 : (((rd_T38 l0 x5_1).f0) != x1_1) = true := bne_iff_ne.mpr c5
    obtain rfl := Option.some.inj H
    have p324 : 0 ≤ (x5_1 : Int) := od_
    have q324 : x5_1 < (l0.length : Int) := od_
    obtain ⟨ad324, A324_7, c324_7, e324, hx324_0, hx324_1, hx324_2, hx324_3, hx324_4, hx324_5, hx324_6, hx324_7, hl324_7, hi324_7⟩ := at_T38 HR0.out x5_1 p324 q324
    cases e324
    have HR324_7 := A_.mk hi324_7
    have HC324_7 := A_.mk hl324_7
    clear hi324_7 hl324_7
    replace p324 := eq_true p324
    replace q324 := eq_true q324
    go_wp2
    go_ret
    exact ⟨by first | rfl | (simp; done) | (simp [*]; done), by repeat (first | exact Drawn0.refl _ | apply Drawn0.step)⟩
   rw [if_pos c5] at H
   have c5b0 : (((rd_T38 l0 x5_1).f0) == x1_1) = true := beq_iff_eq.mpr c5
   have c5b1 : (((rd_T38 l0 x5_1).f0) != x1_1) = false := bne_eq_false_iff_eq.mpr c5
   clear c5
   by_cases c6 : ((rd_T38 l0 x5_1).f1) = (wrap64 (x1_1 + 1))
   rotate_left
   ·rw [if_neg c6] at H
    have c6b0 : (((rd_T38 l0 x5_1).f1) == (wrap64 (x1_1 + 1))) = false := beq_eq_false_iff_ne.mpr c6
    have c6b0w : (((rd_T38 l0 x5_1).f1) == (IntKind.i64.wrap (x1_1 + 1))) = false := by simp only [i64_w]; exact c6b0
    have c6b1 : (((rd_T38 l0 x5_1).f1) != (wrap64 (x1_1 + 1))) = true := bne_iff_ne.mpr c6
    have c6b1w : (((rd_T38 l0 x5_1).f1) != (IntKind.i64.wrap (x1_1 + 1))) = true := by simp only [i64_w]; exact c6b1
    obtain rfl := Option.some.inj H
    have p324 : 0 ≤ (x5_1 : Int) := od_
    have q324 : x5_1 < (l0.length : Int) := od_
    obtain ⟨ad324, A324_7, c324_7, e324, hx324_0, hx324_1, hx324_2, hx324_3, hx324_4, hx324_5, hx324_6, hx324_7, hl324_7, hi324_7⟩ := at_T38 HR0.out x5_1 p324 q324
    cases e324
    have HR324_7 := A_.mk hi324_7
    have HC324_7 := A_.mk hl324_7
    clear hi324_7 hl324_7
    replace p324 := eq_true p324
    replace q324 := eq_true q324
    have p325 : 0 ≤ (x5_1 : Int) := od_
    have q325 : x5_1 < (l0.length : Int) := od_
    obtain ⟨ad325, A325_7, c325_7, e325, hx325_0, hx325_1, hx325_2, hx325_3, hx325_4, hx325_5, hx325_6, hx325_7, hl325_7, hi325_7⟩ := at_T38 HR0.out x5_1 p325 q325
    obtain rfl : ad324 = ad325 := (by injection e325)
    have HR325_7 := A_.mk hi325_7
    have HC325_7 := A_.mk hl325_7
    clear hi325_7 hl325_7
    replace p325 := eq_true p325
    replace q325 := eq_true q325
    have ea_ := Option.some.inj (hx324_7.symm.trans hx325_7)
    injection ea_ with ea_ en_ ec_
    subst ea_
    subst ec_
    clear en_
    go_wp2
    go_ret
    exact ⟨by first | rfl | (simp; done) | (simp [*]; done), by repeat (first | exact Drawn0.refl _ | apply Drawn0.step)⟩
   rw [if_pos c6] at H
   have c6b0 : (((rd_T38 l0 x5_1).f1) == (wrap64 (x1_1 + 1))) = true := beq_iff_eq.mpr c6
   have c6b0w : (((rd_T38 l0 x5_1).f1) == (IntKind.i64.wrap (x1_1 + 1))) = true := by simp only [i64_w]; exact c6b0
   have c6b1 : (((rd_T38 l0 x5_1).f1) != (wrap64 (x1_1 + 1))) = false := bne_eq_false_iff_eq.mpr c6
   have c6b1w : (((rd_T38 l0 x5_1).f1) != (IntKind.i64.wrap (x1_1 + 1))) = false := by simp only [i64_w]; exact c6b1
   clear c6
   by_cases c7 : ((rd_T38 l0 x5_1).f2) = (wrap64 ((wrap64 (x1_1 + 1)) + 1))
   rotate_left
   ·rw [if_neg c7] at H
    have c7b0 : (((rd_T38 l0 x5_1).f2) == (wrap64 ((wrap64 (x1_1 + 1)) + 1))) = false := beq_eq_false_iff_ne.mpr c7
    have c7b0w : (((rd_T38 l0 x5_1).f2) == (IntKind.i64.wrap ((IntKind.i64.wrap (x1_1 + 1)) + 1))) = false := by simp only [i64_w]; exact c7b0
    have c7b1 : (((rd_T38 l0 x5_1).f2) != (wrap64 ((wrap64 (x1_1 + 1)) + 1))) = true := bne_iff_ne.mpr c7
    have c7b1w : (((rd_T38 l0 x5_1).f2) != (IntKind.i64.wrap ((IntKind.i64.wrap (x1_1 + 1)) + 1))) = true := by simp only [i64_w]; exact c7b1
    obtain rfl := Option.some.inj H
    have p324 : 0 ≤ (x5_1 : Int) := od_
    have q324 : x5_1 < (l0.length : Int) := od_
    obtain ⟨ad324, A324_7, c324_7, e324, hx324_0, hx324_1, hx324_2, hx324_3, hx324_4, hx324_5, hx324_6, hx324_7, hl324_7, hi324_7⟩ := at_T38 HR0.out x5_1 p324 q324
    cases e324
    have HR324_7 := A_.mk hi324_7
    have HC324_7 := A_.mk hl324_7
    clear hi324_7 hl324_7
    replace p324 := eq_true p324
    replace q324 := eq_true q324
    have p325 : 0 ≤ (x5_1 : Int) := od_
    have q325 : x5_1 < (l0.length : Int) := od_
    obtain ⟨ad325, A325_7, c325_7, e325, hx325_0, hx325_1, hx325_2, hx325_3, hx325_4, hx325_5, hx325_6, hx325_7, hl325_7, hi325_7⟩ := at_T38 HR0.out x5_1 p325 q325
    obtain rfl : ad324 = ad325 := (by injection e325)
    have HR325_7 := A_.mk hi325_7
    have HC325_7 := A_.mk hl325_7
    clear hi325_7 hl325_7
    replace p325 := eq_true p325
    replace q325 := eq_true q325
    have ea_ := Option.some.inj (hx324_7.symm.trans hx325_7)
    injection ea_ with ea_ en_ ec_
    subst ea_
    subst ec_
    clear en_
    have p326 : 0 ≤ (x5_1 : Int) := od_
    have q326 : x5_1 < (l0.length : Int) := od_
    obtain ⟨ad326, A326_7, c326_7, e326, hx326_0, hx326_1, hx326_2, hx326_3, hx326_4, hx326_5, hx326_6, hx326_7, hl326_7, hi326_7⟩ := at_T38 HR0.out x5_1 p326 q326
    obtain rfl : ad324 = ad326 := (by injection e326)
    have HR326_7 := A_.mk hi326_7
    have HC326_7 := A_.mk hl326_7
    clear hi326_7 hl326_7
    replace p326 := eq_true p326
    replace q326 := eq_true q326
    have ea_ := Option.some.inj (hx324_7.symm.trans hx326_7)
    injection ea_ with ea_ en_ ec_
    subst ea_
    subst ec_
    clear en_
    go_wp2
    go_ret
    exact ⟨by first | rfl | (simp; done) | (simp [*]; done), by repeat (first | exact Drawn0.refl _ | apply Drawn0.step)⟩
   rw [if_pos c7] at H
   have c7b0 : (((rd_T38 l0 x5_1).f2) == (wrap64 ((wrap64 (x1_1 + 1)) + 1))) = true := beq_iff_eq.mpr c7
   have c7b0w : (((rd_T38 l0 x5_1).f2) == (IntKind.i64.wrap ((IntKind.i64.wrap (x1_1 + 1)) + 1))) = true := by simp only [i64_w]; exact c7b0
   have c7b1 : (((rd_T38 l0 x5_1).f2) != (wrap64 ((wrap64 (x1_1 + 1)) + 1))) = false := bne_eq_false_iff_eq.mpr c7
   have c7b1w : (((rd_T38 l0 x5_1).f2) != (IntKind.i64.wrap ((IntKind.i64.wrap (x1_1 + 1)) + 1))) = false := by simp only [i64_w]; exact c7b1
   clear c7
   by_cases c8 : ((rd_T38 l0 x5_1).f3) = (wrap64 ((wrap64 ((wrap64 (x1_1 + 1)) + 1)) + 1))
   rotate_left
   ·rw [if_neg c8] at H
    have c8b0 : (((rd_T38 l0 x5_1).f3) == (wrap64 ((wrap64 ((wrap64 (x1_1 + 1)) + 1)) + 1))) = false := beq_eq_false_iff_ne.mpr c8
    have c8b0w : (((rd_T38 l0 x5_1).f3) == (IntKind.i64.wrap ((IntKind.i64.wrap ((IntKind.i64.wrap (x1_1 + 1)) + 1)) + 1))) = false := by simp only [i64_w]; exact c8b0
    have c8b1 : (((rd_T38 l0 x5_1).f3) != (wrap64 ((wrap64 ((wrap64 (x1_1 + 1)) + 1)) + 1))) = true := bne_iff_ne.mpr c8
    have c8b1w : (((rd_T38 l0 x5_1).f3) != (IntKind.i64.wrap ((IntKind.i64.wrap ((IntKind.i64.wrap (x1_1 + 1)) + 1)) + 1))) = true := by simp only [i64_w]; exact c8b1
    obtain rfl := Option.some.inj H
    have p324 : 0 ≤ (x5_1 : Int) := od_
    have q324 : x5_1 < (l0.length : Int) := od_
    obtain ⟨ad324, A324_7, c324_7, e324, hx324_0, hx324_1, hx324_2, hx324_3, hx324_4, hx324_5, hx324_6, hx324_7, hl324_7, hi324_7⟩ := at_T38 HR0.out x5_1 p324 q324
    cases e324
    have HR324_7 := A_.mk hi324_7
    have HC324_7 := A_.mk hl324_7
    clear hi324_7 hl324_7
    replace p324 := eq_true p324
    replace q324 := eq_true q324
    have p325 : 0 ≤ (x5_1 : Int) := od_
    have q325 : x5_1 < (l0.length : Int) := od_
    obtain ⟨ad325, A325_7, c325_7, e325, hx325_0, hx325_1, hx325_2, hx325_3, hx325_4, hx325_5, hx325_6, hx325_7, hl325_7, hi325_7⟩ := at_T38 HR0.out x5_1 p325 q325
    obtain rfl : ad324 = ad325 := (by injection e325)
    have HR325_7 := A_.mk hi325_7
    have HC325_7 := A_.mk hl325_7
    clear hi325_7 hl325_7
    replace p325 := eq_true p325
    replace q325 := eq_true q325
    have ea_ := Option.some.inj (hx324_7.symm.trans hx325_7)
    injection ea_ with ea_ en_ ec_
    subst ea_
    subst ec_
    clear en_
    have p326 : 0 ≤ (x5_1 : Int) := od_
    have q326 : x5_1 < (l0.length : Int) := od_
    obtain ⟨ad326, A326_7, c326_7, e326, hx326_0, hx326_1, hx326_2, hx326_3, hx326_4, hx326_5, hx326_6, hx326_7, hl326_7, hi326_7⟩ := at_T38 HR0.out x5_1 p326 q326
    obtain rfl : ad324 = ad326 := (by injection e326)
    have HR326_7 := A_.mk hi326_7
    have HC326_7 := A_.mk hl326_7
    clear hi326_7 hl326_7
    replace p326 := eq_true p326
    replace q326 := eq_true q326
    have ea_ := Option.some.inj (hx324_7.symm.trans hx326_7)
    injection ea_ with ea_ en_ ec_
    subst ea_
    subst ec_
    clear en_
    have p327 : 0 ≤ (x5_1 : Int) := od_
    have q327 : x5_1 < (l0.length : Int) := od_
    obtain ⟨ad327, A327_7, c327_7, e327, hx327_0, hx327_1, hx327_2, hx327_3, hx327_4, hx327_5, hx327_6, hx327_7, hl327_7, hi327_7⟩ := at_T38 HR0.out x5_1 p327 q327
    obtain rfl : ad324 = ad327 := (by injection e327)
    have HR327_7 := A_.mk hi327_7
    have HC327_7 := A_.mk hl327_7
    clear hi327_7 hl327_7
    replace p327 := eq_true p327
    replace q327 := eq_true q327
    have ea_ := Option.some.inj (hx324_7.symm.trans hx327_7)
    injection ea_ with ea_ en_ ec_
    subst ea_
    subst ec_
    clear en_
    go_wp2
    go_ret
    exact ⟨by first | rfl | (simp; done) | (simp [*]; done), by repeat (first | exact Drawn0.refl _ | apply Drawn0.step)⟩
   rw [if_pos c8] at H
   have c8b0 : (((rd_T38 l0 x5_1).f3) == (wrap64 ((wrap64 ((wrap64 (x1_1 + 1)) + 1)) + 1))) = true := beq_iff_eq.mpr c8
   have c8b0w : (((rd_T38 l0 x5_1).f3) == (IntKind.i64.wrap ((IntKind.i64.wrap ((IntKind.i64.wrap (x1_1 + 1)) + 1)) + 1))) = true := by simp only [i64_w]; exact c8b0
   have c8b1 : (((rd_T38 l0 x5_1).f3) != (wrap64 ((wrap64 ((wrap64 (x1_1 + 1)) + 1)) + 1))) = false := bne_eq_false_iff_eq.mpr c8
   have c8b1w : (((rd_T38 l0 x5_1).f3) != (IntKind.i64.wrap ((IntKind.i64.wrap ((IntKind.i64.wrap (x1_1 + 1)) + 1)) + 1))) = false := by simp only [i64_w]; exact c8b1
   clear c8
   by_cases c9 : ((rd_T38 l0 x5_1).f4) = (wrap64 ((wrap64 ((wrap64 ((wrap64 (x1_1 + 1)) + 1)) + 1)) + 1))
   rotate_left
   ·rw [if_neg c9] at H
    have c9b0 : (((rd_T38 l0 x5_1).f4) == (wrap64 ((wrap64 ((wrap64 ((wrap64 (x1_1 + 1)) + 1)) + 1)) + 1))) = false := beq_eq_false_iff_ne.mpr c9
    have c9b0w : (((rd_T38 l0 x5_1).f4) == (IntKind.i64.wrap ((IntKind.i64.wrap ((IntKind.i64.wrap ((IntKind.i64.wrap (x1_1 + 1)) + 1)) + 1)) + 1))) = false := by simp only [i64_w]; exact c9b0
    have c9b1 : (((rd_T38 l0 x5_1).f4) != (wrap64 ((wrap64 ((wrap64 ((wrap64 (x1_1 + 1)) + 1)) + 1)) + 1))) = true := bne_iff_ne.mpr c9
    have c9b1w : (((rd_T38 l0 x5_1).f4) != (IntKind.i64.wrap ((IntKind.i64.wrap ((IntKind.i64.wrap ((IntKind.i64.wrap (x1_1 + 1)) + 1)) + 1)) + 1))) = true := by simp only [i64_w]; exact c9b1
    obtain rfl := Option.some.inj H
    have p324 : 0 ≤ (x5_1 : Int) := od_
    have q324 : x5_1 < (l0.length : Int) := od_
    obtain ⟨ad324, A324_7, c324_7, e324, hx324_0, hx324_1, hx324_2, hx324_3, hx324_4, hx324_5, hx324_6, hx324_7, hl324_7, hi324_7⟩ := at_T38 HR0.out x5_1 p324 q324
    cases e324
    have HR324_7 := A_.mk hi324_7
    have HC324_7 := A_.mk hl324_7
    clear hi324_7 hl324_7
    replace p324 := eq_true p324
    replace q324 := eq_true q324
    have p325 : 0 ≤ (x5_1 : Int) := od_
    have q325 : x5_1 < (l0.length : Int) := od_
    obtain ⟨ad325, A325_7, c325_7, e325, hx325_0, hx325_1, hx325_2, hx325_3, hx325_4, hx325_5, hx325_6, hx325_7, hl325_7, hi325_7⟩ := at_T38 HR0.out x5_1 p325 q325
    obtain rfl : ad324 = ad325 := (by injection e325)
    have HR325_7 := A_.mk hi325_7
    have HC325_7 := A_.mk hl325_7
    clear hi325_7 hl325_7
    replace p325 := eq_true p325
    replace q325 := eq_true q325
    have ea_ := Option.some.inj (hx324_7.symm.trans hx325_7)
    injection ea_ with ea_ en_ ec_
    subst ea_
    subst ec_
    clear en_
    have p326 : 0 ≤ (x5_1 : Int) := od_
    have q326 : x5_1 < (l0.length : Int) := od_
    obtain ⟨ad326, A326_7, c326_7, e326, hx326_0, hx326_1, hx326_2, hx326_3, hx326_4, hx326_5, hx326_6, hx326_7, hl326_7, hi326_7⟩ := at_T38 HR0.out x5_1 p326 q326
    obtain rfl : ad324 = ad326 := (by injection e326)
    have HR326_7 := A_.mk hi326_7
    have HC326_7 := A_.mk hl326_7
    clear hi326_7 hl326_7
    replace p326 := eq_true p326
    replace q326 := eq_true q326
    have ea_ := Option.some.inj (hx324_7.symm.trans hx326_7)
    injection ea_ with ea_ en_ ec_
    subst ea_
    subst ec_
    clear en_
    have p327 : 0 ≤ (x5_1 : Int) := od_
    have q327 : x5_1 < (l0.length : Int) := od_
    obtain ⟨ad327, A327_7, c327_7, e327, hx327_0, hx327_1, hx327_2, hx327_3, hx327_4, hx327_5, hx327_6, hx327_7, hl327_7, hi327_7⟩ := at_T38 HR0.out x5_1 p327 q327
    obtain rfl : ad324 = ad327 := (by injection e327)
    have HR327_7 := A_.mk hi327_7
    have HC327_7 := A_.mk hl327_7
    clear hi327_7 hl327_7
    replace p327 := eq_true p327
    replace q327 := eq_true q327
    have ea_ := Option.some.inj (hx324_7.symm.trans hx327_7)
    injection ea_ with ea_ en_ ec_
    subst ea_
    subst ec_
    clear en_
    have p328 : 0 ≤ (x5_1 : Int) := od_
    have q328 : x5_1 < (l0.length : Int) := od_
    obtain ⟨ad328, A328_7, c328_7, e328, hx328_0, hx328_1, hx328_2, hx328_3, hx328_4, hx328_5, hx328_6, hx328_7, hl328_7, hi328_7⟩ := at_T38 HR0.out x5_1 p328 q328
    obtain rfl : ad324 = ad328 := (by injection e328)
    have HR328_7 := A_.mk hi328_7
    have HC328_7 := A_.mk hl328_7
    clear hi328_7 hl328_7
    replace p328 := eq_true p328
    replace q328 := eq_true q328
    have ea_ := Option.some.inj (hx324_7.symm.trans hx328_7)
    injection ea_ with ea_ en_ ec_
    subst ea_
    subst ec_
    clear en_
    go_wp2
    go_ret
    exact ⟨by first | rfl | (simp; done) | (simp [*]; done), by repeat (first | exact Drawn0.refl _ | apply Drawn0.step)⟩
   rw [if_pos c9] at H
   have c9b0 : (((rd_T38 l0 x5_1).f4) == (wrap64 ((wrap64 ((wrap64 ((wrap64 (x1_1 + 1)) + 1)) + 1)) + 1))) = true := beq_iff_eq.mpr c9
   have c9b0w : (((rd_T38 l0 x5_1).f4) == (IntKind.i64.wrap ((IntKind.i64.wrap ((IntKind.i64.wrap ((IntKind.i64.wrap (x1_1 + 1)) + 1)) + 1)) + 1))) = true := by simp only [i64_w]; exact c9b0
   have c9b1 : (((rd_T38 l0 x5_1).f4) != (wrap64 ((wrap64 ((wrap64 ((wrap64 (x1_1 + 1)) + 1)) + 1)) + 1))) = false := bne_eq_false_iff_eq.mpr c9
   have c9b1w : (((rd_T38 l0 x5_1).f4) != (IntKind.i64.wrap ((IntKind.i64.wrap ((IntKind.i64.wrap ((IntKind.i64.wrap (x1_1 + 1)) + 1)) + 1)) + 1))) = false := by simp only [i64_w]; exact c9b1
   clear c9
   by_cases c10 : ((rd_T38 l0 x5_1).f5) = (wrap64 ((wrap64 ((wrap64 ((wrap64 ((wrap64 (x1_1 + 1)) + 1)) + 1)) + 1)) + 1))
   rotate_left
   ·rw [if_neg c10] at H
    have c10b0 : (((rd_T38 l0 x5_1).f5) == (wrap64 ((wrap64 ((wrap64 ((wrap64 ((wrap64 (x1_1 + 1)) + 1)) + 1)) + 1)) + 1))) = false := beq_eq_false_iff_ne.mpr c10
    have c10b0w : (((rd_T38 l0 x5_1).f5) == (IntKind.i64.wrap ((IntKind.i64.wrap ((IntKind.i64.wrap ((IntKind.i64.wrap ((IntKind.i64.wrap (x1_1 + 1)) + 1)) + 1)) + 1)) + 1))) = false := by simp only [i64_w]; exact c10b0
    have c10b1 : (((rd_T38 l0 x5_1).f5) != (wrap64 ((wrap64 ((wrap64 ((wrap64 ((wrap64 (x1_1 + 1)) + 1)) + 1)) + 1)) + 1))) = true := bne_iff_ne.mpr c10
    have c10b1w : (((rd_T38 l0 x5_1).f5) != (IntKind.i64.wrap ((IntKind.i64.wrap ((IntKind.i64.wrap ((IntKind.i64.wrap ((IntKind.i64.wrap (x1_1 + 1)) + 1)) + 1)) + 1)) + 1))) = true := by simp only [i64_w]; exact c10b1
    obtain rfl := Option.some.inj H
    have p324 : 0 ≤ (x5_1 : Int) := od_
    have q324 : x5_1 < (l0.length : Int) := od_
    obtain ⟨ad324, A324_7, c324_7, e324, hx324_0, hx324_1, hx324_2, hx324_3, hx324_4, hx324_5, hx324_6, hx324_7, hl324_7, hi324_7⟩ := at_T38 HR0.out x5_1 p324 q324
    cases e324
    have HR324_7 := A_.mk hi324_7
    have HC324_7 := A_.mk hl324_7
    clear hi324_7 hl324_7
    replace p324 := eq_true p324
    replace q324 := eq_true q324
    have p325 : 0 ≤ (x5_1 : Int) := od_
    have q325 : x5_1 < (l0.length : Int) := od_
    obtain ⟨ad325, A325_7, c325_7, e325, hx325_0, hx325_1, hx325_2, hx325_3, hx325_4, hx325_5, hx325_6, hx325_7, hl325_7, hi325_7⟩ := at_T38 HR0.out x5_1 p325 q325
    obtain rfl : ad324 = ad325 := (by injection e325)
    have HR325_7 := A_.mk hi325_7
    have HC325_7 := A_.mk hl325_7
    clear hi325_7 hl325_7
    replace p325 := eq_true p325
    replace q325 := eq_true q325
    have ea_ := Option.some.inj (hx324_7.symm.trans hx325_7)
    injection ea_ with ea_ en_ ec_
    subst ea_
    subst ec_
    clear en_
    have p326 : 0 ≤ (x5_1 : Int) := od_
    have q326 : x5_1 < (l0.length : Int) := od_
    obtain ⟨ad326, A326_7, c326_7, e326, hx326_0, hx326_1, hx326_2, hx326_3, hx326_4, hx326_5, hx326_6, hx326_7, hl326_7, hi326_7⟩ := at_T38 HR0.out x5_1 p326 q326
    obtain rfl : ad324 = ad326 := (by injection e326)
    have HR326_7 := A_.mk hi326_7
    have HC326_7 := A_.mk hl326_7
    clear hi326_7 hl326_7
    replace p326 := eq_true p326
    replace q326 := eq_true q326
    have ea_ := Option.some.inj (hx324_7.symm.trans hx326_7)
    injection ea_ with ea_ en_ ec_
    subst ea_
    subst ec_
    clear en_
    have p327 : 0 ≤ (x5_1 : Int) := od_
    have q327 : x5_1 < (l0.length : Int) := od_
    obtain ⟨ad327, A327_7, c327_7, e327, hx327_0, hx327_1, hx327_2, hx327_3, hx327_4, hx327_5, hx327_6, hx327_7, hl327_7, hi327_7⟩ := at_T38 HR0.out x5_1 p327 q327
    obtain rfl : ad324 = ad327 := (by injection e327)
    have HR327_7 := A_.mk hi327_7
    have HC327_7 := A_.mk hl327_7
    clear hi327_7 hl327_7
    replace p327 := eq_true p327
    replace q327 := eq_true q327
    have ea_ := Option.some.inj (hx324_7.symm.trans hx327_7)
    injection ea_ with ea_ en_ ec_
    subst ea_
    subst ec_
    clear en_
    have p328 : 0 ≤ (x5_1 : Int) := od_
    have q328 : x5_1 < (l0.length : Int) := od_
    obtain ⟨ad328, A328_7, c328_7, e328, hx328_0, hx328_1, hx328_2, hx328_3, hx328_4, hx328_5, hx328_6, hx328_7, hl328_7, hi328_7⟩ := at_T38 HR0.out x5_1 p328 q328
    obtain rfl : ad324 = ad328 := (by injection e328)
    have HR328_7 := A_.mk hi328_7
    have HC328_7 := A_.mk hl328_7
    clear hi328_7 hl328_7
    replace p328 := eq_true p328
    replace q328 := eq_true q328
    have ea_ := Option.some.inj (hx324_7.symm.trans hx328_7)
    injection ea_ with ea_ en_ ec_
    subst ea_
    subst ec_
    clear en_
    have p329 : 0 ≤ (x5_1 : Int) := od_
    have q329 : x5_1 < (l0.length : Int) := od_
    obtain ⟨ad329, A329_7, c329_7, e329, hx329_0, hx329_1, hx329_2, hx329_3, hx329_4, hx329_5, hx329_6, hx329_7, hl329_7, hi329_7⟩ := at_T38 HR0.out x5_1 p329 q329
    obtain rfl : ad324 = ad329 := (by injection e329)
    have HR329_7 := A_.mk hi329_7
    have HC329_7 := A_.mk hl329_7
    clear hi329_7 hl329_7
    replace p329 := eq_true p329
    replace q329 := eq_true q329
    have ea_ := Option.some.inj (hx324_7.symm.trans hx329_7)
    injection ea_ with ea_ en_ ec_
    subst ea_
    subst ec_
    clear en_
    go_wp2
    go_ret
    exact ⟨by first | rfl | (simp; done) | (simp [*]; done), by repeat (first | exact Drawn0.refl _ | apply Drawn0.step)⟩
   rw [if_pos c10] at H
   have c10b0 : (((rd_T38 l0 x5_1).f5) == (wrap64 ((wrap64 ((wrap64 ((wrap64 ((wrap64 (x1_1 + 1)) + 1)) + 1)) + 1)) + 1))) = true := beq_iff_eq.mpr c10
   have c10b0w : (((rd_T38 l0 x5_1).f5) == (IntKind.i64.wrap ((IntKind.i64.wrap ((IntKind.i64.wrap ((IntKind.i64.wrap ((IntKind.i64.wrap (x1_1 + 1)) + 1)) + 1)) + 1)) + 1))) = true := by simp only [i64_w]; exact c10b0
   have c10b1 : (((rd_T38 l0 x5_1).f5) != (wrap64 ((wrap64 ((wrap64 ((wrap64 ((wrap64 (x1_1 + 1)) + 1)) + 1)) + 1)) + 1))) = false := bne_eq_false_iff_eq.mpr c10
   have c10b1w : (((rd_T38 l0 x5_1).f5) != (IntKind.i64.wrap ((IntKind.i64.wrap ((IntKind.i64.wrap ((IntKind.i64.wrap ((IntKind.i64.wrap (x1_1 + 1)) + 1)) + 1)) + 1)) + 1))) = false := by simp only [i64_w]; exact c10b1
   clear c10
   by_cases c11 : ((rd_T38 l0 x5_1).f6) = (wrap64 ((wrap64 ((wrap64 ((wrap64 ((wrap64 ((wrap64 (x1_1 + 1)) + 1)) + 1)) + 1)) + 1)) + 1))
   rotate_left
   ·rw [if_neg c11] at H
    have c11b0 : (((rd_T38 l0 x5_1).f6) == (wrap64 ((wrap64 ((wrap64 ((wrap64 ((wrap64 ((wrap64 (x1_1 + 1)) + 1)) + 1)) + 1)) + 1)) + 1))) = false := beq_eq_false_iff_ne.mpr c11
    have c11b0w : (((rd_T38 l0 x5_1).f6) == (IntKind.i64.wrap ((IntKind.i64.wrap ((IntKind.i64.wrap ((IntKind.i64.wrap ((IntKind.i64.wrap ((IntKind.i64.wrap (x1_1 + 1)) + 1)) + 1)) + 1)) + 1)) + 1))) = false := by simp only [i64_w]; exact c11b0
    have c11b1 : (((rd_T38 l0 x5_1).f6) != (wrap64 ((wrap64 ((wrap64 ((wrap64 ((wrap64 ((wrap64 (x1_1 + 1)) + 1)) + 1)) + 1)) + 1)) + 1))) = true := bne_iff_ne.mpr c11
    have c11b1w : (((rd_T38 l0 x5_1).f6) != (IntKind.i64.wrap ((IntKind.i64.wrap ((IntKind.i64.wrap ((IntKind.i64.wrap ((IntKind.i64.wrap ((IntKind.i64.wrap (x1_1 + 1)) + 1)) + 1)) + 1)) + 1)) + 1))) = true := by simp only [i64_w]; exact c11b1
    obtain rfl := Option.some.inj H
    have p324 : 0 ≤ (x5_1 : Int) := od_
    have q324 : x5_1 < (l0.length : Int) := od_
    obtain ⟨ad324, A324_7, c324_7, e324, hx324_0, hx324_1, hx324_2, hx324_3, hx324_4, hx324_5, hx324_6, hx324_7, hl324_7, hi324_7⟩ := at_T38 HR0.out x5_1 p324 q324
    cases e324
    have HR324_7 := A_.mk hi324_7
    have HC324_7 := A_.mk hl324_7
    clear hi324_7 hl324_7
    replace p324 := eq_true p324
    replace q324 := eq_true q324
    have p325 : 0 ≤ (x5_1 : Int) := od_
    have q325 : x5_1 < (l0.length : Int) := od_
    obtain ⟨ad325, A325_7, c325_7, e325, hx325_0, hx325_1, hx325_2, hx325_3, hx325_4, hx325_5, hx325_6, hx325_7, hl325_7, hi325_7⟩ := at_T38 HR0.out x5_1 p325 q325
    obtain rfl : ad324 = ad325 := (by injection e325)
    have HR325_7 := A_.mk hi325_7
    have HC325_7 := A_.mk hl325_7
    clear hi325_7 hl325_7
    replace p325 := eq_true p325
    replace q325 := eq_true q325
    have ea_ := Option.some.inj (hx324_7.symm.trans hx325_7)
    injection ea_ with ea_ en_ ec_
    subst ea_
    subst ec_
    clear en_
    have p326 : 0 ≤ (x5_1 : Int) := od_
    have q326 : x5_1 < (l0.length : Int) := od_
    obtain ⟨ad326, A326_7, c326_7, e326, hx326_0, hx326_1, hx326_2, hx326_3, hx326_4, hx326_5, hx326_6, hx326_7, hl326_7, hi326_7⟩ := at_T38 HR0.out x5_1 p326 q326
    obtain rfl : ad324 = ad326 := (by injection e326)
    have HR326_7 := A_.mk hi326_7
    have HC326_7 := A_.mk hl326_7
    clear hi326_7 hl326_7
    replace p326 := eq_true p326
    replace q326 := eq_true q326
    have ea_ := Option.some.inj (hx324_7.symm.trans hx326_7)
    injection ea_ with ea_ en_ ec_
    subst ea_
    subst ec_
    clear en_
    have p327 : 0 ≤ (x5_1 : Int) := od_
    have q327 : x5_1 < (l0.length : Int) := od_
    obtain ⟨ad327, A327_7, c327_7, e327, hx327_0, hx327_1, hx327_2, hx327_3, hx327_4, hx327_5, hx327_6, hx327_7, hl327_7, hi327_7⟩ := at_T38 HR0.out x5_1 p327 q327
    obtain rfl : ad324 = ad327 := (by injection e327)
    have HR327_7 := A_.mk hi327_7
    have HC327_7 := A_.mk hl327_7
    clear hi327_7 hl327_7
    replace p327 := eq_true p327
    replace q327 := eq_true q327
    have ea_ := Option.some.inj (hx324_7.symm.trans hx327_7)
    injection ea_ with ea_ en_ ec_
    subst ea_
    subst ec_
    clear en_
    have p328 : 0 ≤ (x5_1 : Int) := od_
    have q328 : x5_1 < (l0.length : Int) := od_
    obtain ⟨ad328, A328_7, c328_7, e328, hx328_0, hx328_1, hx328_2, hx328_3, hx328_4, hx328_5, hx328_6, hx328_7, hl328_7, hi328_7⟩ := at_T38 HR0.out x5_1 p328 q328
    obtain rfl : ad324 = ad328 := (by injection e328)
    have HR328_7 := A_.mk hi328_7
    have HC328_7 := A_.mk hl328_7
    clear hi328_7 hl328_7
    replace p328 := eq_true p328
    replace q328 := eq_true q328
    have ea_ := Option.some.inj (hx324_7.symm.trans hx328_7)
    injection ea_ with ea_ en_ ec_
    subst ea_
    subst ec_
    clear en_
    have p329 : 0 ≤ (x5_1 : Int) := od_
    have q329 : x5_1 < (l0.length : Int) := od_
    obtain ⟨ad329, A329_7, c329_7, e329, hx329_0, hx329_1, hx329_2, hx329_3, hx329_4, hx329_5, hx329_6, hx329_7, hl329_7, hi329_7⟩ := at_T38 HR0.out x5_1 p329 q329
    obtain rfl : ad324 = ad329 := (by injection e329)
    have HR329_7 := A_.mk hi329_7
    have HC329_7 := A_.mk hl329_7
    clear hi329_7 hl329_7
    replace p329 := eq_true p329
    replace q329 := eq_true q329
    have ea_ := Option.some.inj (hx324_7.symm.trans hx329_7)
    injection ea_ with ea_ en_ ec_
    subst ea_
    subst ec_
    clear en_
    have p330 : 0 ≤ (x5_1 : Int) := od_
    have q330 : x5_1 < (l0.length : Int) := od_
    obtain ⟨ad330, A330_7, c330_7, e330, hx330_0, hx330_1, hx330_2, hx330_3, hx330_4, hx330_5, hx330_6, hx330_7, hl330_7, hi330_7⟩ := at_T38 HR0.out x5_1 p330 q330
    obtain rfl : ad324 = ad330 := (by injection e330)
    have HR330_7 := A_.mk hi330_7
    have HC330_7 := A_.mk hl330_7
    clear hi330_7 hl330_7
    replace p330 := eq_true p330
    replace q330 := eq_true q330
    have ea_ := Option.some.inj (hx324_7.symm.trans hx330_7)
    injection ea_ with ea_ en_ ec_
    subst ea_
    subst ec_
    clear en_
    go_wp2
    go_ret
    exact ⟨by first | rfl | (simp; done) | (simp [*]; done), by repeat (first | exact Drawn0.refl _ | apply Drawn0.step)⟩
   rw [if_pos c11] at H
   have c11b0 : (((rd_T38 l0 x5_1).f6) == (wrap64 ((wrap64 ((wrap64 ((wrap64 ((wrap64 ((wrap64 (x1_1 + 1)) + 1)) + 1)) + 1)) + 1)) + 1))) = true := beq_iff_eq.mpr c11
   have c11b0w : (((rd_T38 l0 x5_1).f6) == (IntKind.i64.wrap ((IntKind.i64.wrap ((IntKind.i64.wrap ((IntKind.i64.wrap ((IntKind.i64.wrap ((IntKind.i64.wrap (x1_1 + 1)) + 1)) + 1)) + 1)) + 1)) + 1))) = true := by simp only [i64_w]; exact c11b0
   have c11b1 : (((rd_T38 l0 x5_1).f6) != (wrap64 ((wrap64 ((wrap64 ((wrap64 ((wrap64 ((wrap64 (x1_1 + 1)) + 1)) + 1)) + 1)) + 1)) + 1))) = false := bne_eq_false_iff_eq.mpr c11
   have c11b1w : (((rd_T38 l0 x5_1).f6) != (IntKind.i64.wrap ((IntKind.i64.wrap ((IntKind.i64.wrap ((IntKind.i64.wrap ((IntKind.i64.wrap ((IntKind.i64.wrap (x1_1 + 1)) + 1)) + 1)) + 1)) + 1)) + 1))) = false := by simp only [i64_w]; exact c11b1
   clear c11
   replace H := ob_ H
   obtain ⟨t332, A120, H⟩ := H
   have A12 := A_.mk A120
   clear A120
   by_cases c13 : t332 < 0
   ·rw [if_pos c13] at H
    have c13b0 : decide (t332 < 0) = true := decide_eq_true c13
    clear c13
    obtain rfl := Option.some.inj H
    have p324 : 0 ≤ (x5_1 : Int) := od_
    have q324 : x5_1 < (l0.length : Int) := od_
    obtain ⟨ad324, A324_7, c324_7, e324, hx324_0, hx324_1, hx324_2, hx324_3, hx324_4, hx324_5, hx324_6, hx324_7, hl324_7, hi324_7⟩ := at_T38 HR0.out x5_1 p324 q324
    cases e324
    have HR324_7 := A_.mk hi324_7
    have HC324_7 := A_.mk hl324_7
    clear hi324_7 hl324_7
    replace p324 := eq_true p324
    replace q324 := eq_true q324
    have p325 : 0 ≤ (x5_1 : Int) := od_
    have q325 : x5_1 < (l0.length : Int) := od_
    obtain ⟨ad325, A325_7, c325_7, e325, hx325_0, hx325_1, hx325_2, hx325_3, hx325_4, hx325_5, hx325_6, hx325_7, hl325_7, hi325_7⟩ := at_T38 HR0.out x5_1 p325 q325
    obtain rfl : ad324 = ad325 := (by injection e325)
    have HR325_7 := A_.mk hi325_7
    have HC325_7 := A_.mk hl325_7
    clear hi325_7 hl325_7
    replace p325 := eq_true p325
    replace q325 := eq_true q325
    have ea_ := Option.some.inj (hx324_7.symm.trans hx325_7)
    injection ea_ with ea_ en_ ec_
    subst ea_
    subst ec_
    clear en_
    have p326 : 0 ≤ (x5_1 : Int) := od_
    have q326 : x5_1 < (l0.length : Int) := od_
    obtain ⟨ad326, A326_7, c326_7, e326, hx326_0, hx326_1, hx326_2, hx326_3, hx326_4, hx326_5, hx326_6, hx326_7, hl326_7, hi326_7⟩ := at_T38 HR0.out x5_1 p326 q326
    obtain rfl : ad324 = ad326 := (by injection e326)
    have HR326_7 := A_.mk hi326_7
    have HC326_7 := A_.mk hl326_7
    clear hi326_7 hl326_7
    replace p326 := eq_true p326
    replace q326 := eq_true q326
    have ea_ := Option.some.inj (hx324_7.symm.trans hx326_7)
    injection ea_ with ea_ en_ ec_
    subst ea_
    subst ec_
    clear en_
    have p327 : 0 ≤ (x5_1 : Int) := od_
    have q327 : x5_1 < (l0.length : Int) := od_
    obtain ⟨ad327, A327_7, c327_7, e327, hx327_0, hx327_1, hx327_2, hx327_3, hx327_4, hx327_5, hx327_6, hx327_7, hl327_7, hi327_7⟩ := at_T38 HR0.out x5_1 p327 q327
    obtain rfl : ad324 = ad327 := (by injection e327)
    have HR327_7 := A_.mk hi327_7
    have HC327_7 := A_.mk hl327_7
    clear hi327_7 hl327_7
    replace p327 := eq_true p327
    replace q327 := eq_true q327
    have ea_ := Option.some.inj (hx324_7.symm.trans hx327_7)
    injection ea_ with ea_ en_ ec_
    subst ea_
    subst ec_
    clear en_
    have p328 : 0 ≤ (x5_1 : Int) := od_
    have q328 : x5_1 < (l0.length : Int) := od_
    obtain ⟨ad328, A328_7, c328_7, e328, hx328_0, hx328_1, hx328_2, hx328_3, hx328_4, hx328_5, hx328_6, hx328_7, hl328_7, hi328_7⟩ := at_T38 HR0.out x5_1 p328 q328
    obtain rfl : ad324 = ad328 := (by injection e328)
    have HR328_7 := A_.mk hi328_7
    have HC328_7 := A_.mk hl328_7
    clear hi328_7 hl328_7
    replace p328 := eq_true p328
    replace q328 := eq_true q328
    have ea_ := Option.some.inj (hx324_7.symm.trans hx328_7)
    injection ea_ with ea_ en_ ec_
    subst ea_
    subst ec_
    clear en_
    have p329 : 0 ≤ (x5_1 : Int) := od_
    have q329 : x5_1 < (l0.length : Int) := od_
    obtain ⟨ad329, A329_7, c329_7, e329, hx329_0, hx329_1, hx329_2, hx329_3, hx329_4, hx329_5, hx329_6, hx329_7, hl329_7, hi329_7⟩ := at_T38 HR0.out x5_1 p329 q329
    obtain rfl : ad324 = ad329 := (by injection e329)
    have HR329_7 := A_.mk hi329_7
    have HC329_7 := A_.mk hl329_7
    clear hi329_7 hl329_7
    replace p329 := eq_true p329
    replace q329 := eq_true q329
    have ea_ := Option.some.inj (hx324_7.symm.trans hx329_7)
    injection ea_ with ea_ en_ ec_
    subst ea_
    subst ec_
    clear en_
    have p330 : 0 ≤ (x5_1 : Int) := od_
    have q330 : x5_1 < (l0.length : Int) := od_
    obtain ⟨ad330, A330_7, c330_7, e330, hx330_0, hx330_1, hx330_2, hx330_3, hx330_4, hx330_5, hx330_6, hx330_7, hl330_7, hi330_7⟩ := at_T38 HR0.out x5_1 p330 q330
    obtain rfl : ad324 = ad330 := (by injection e330)
    have HR330_7 := A_.mk hi330_7
    have HC330_7 := A_.mk hl330_7
    clear hi330_7 hl330_7
    replace p330 := eq_true p330
    replace q330 := eq_true q330
    have ea_ := Option.some.inj (hx324_7.symm.trans hx330_7)
    injection ea_ with ea_ en_ ec_
    subst ea_
    subst ec_
    clear en_
    have p331 : 0 ≤ (x5_1 : Int) := od_
    have q331 : x5_1 < (l0.length : Int) := od_
    obtain ⟨ad331, A331_7, c331_7, e331, hx331_0, hx331_1, hx331_2, hx331_3, hx331_4, hx331_5, hx331_6, hx331_7, hl331_7, hi331_7⟩ := at_T38 HR0.out x5_1 p331 q331
    obtain rfl : ad324 = ad331 := (by injection e331)
    have HR331_7 := A_.mk hi331_7
    have HC331_7 := A_.mk hl331_7
    clear hi331_7 hl331_7
    replace p331 := eq_true p331
    replace q331 := eq_true q331
    have ea_ := Option.some.inj (hx324_7.symm.trans hx331_7)
    injection ea_ with ea_ en_ ec_
    subst ea_
    subst ec_
    clear en_
    go_wp2_with (first | ((with_reducible refine gc_ (f := 61) rfl ?_); refine gl_ (some 81) Try.func61 #[.slice A324_7 ((rd_T38 l0 x5_1).f7).length c324_7, .int .i64 (wrap64 ((wrap64 ((wrap64 ((wrap64 ((wrap64 ((wrap64 ((wrap64 (x1_1 + 1)) + 1)) + 1)) + 1)) + 1)) + 1)) + 1))] ?_; (with_reducible refine (laws_heldIntS.calls k1 _ _ ((rd_T38 l0 x5_1).f7) (wrap64 ((wrap64 ((wrap64 ((wrap64 ((wrap64 ((wrap64 ((wrap64 (x1_1 + 1)) + 1)) + 1)) + 1)) + 1)) + 1)) + 1)) t332 _ ?side1 ?side2 A12.out).mono ?_); (case side1 => exact cY (HR331_7.out)); (case side2 => exact HC331_7.out); rintro e w' ⟨rfl, ⟨nd, rfl⟩⟩; refine ⟨_, rfl, ?_⟩))
    go_ret
    exact ⟨by first | rfl | (simp; done) | (simp [*]; done), by repeat (first | exact Drawn0.refl _ | apply Drawn0.step)⟩
   rw [if_neg c13] at H
   have c13b0 : decide (t332 < 0) = false := decide_eq_false c13
   clear c13
   have H' := A_.mk H
   clear H
   have p324 : 0 ≤ (x5_1 : Int) := od_
   have q324 : x5_1 < (l0.length : Int) := od_
   obtain ⟨ad324, A324_7, c324_7, e324, hx324_0, hx324_1, hx324_2, hx324_3, hx324_4, hx324_5, hx324_6, hx324_7, hl324_7, hi324_7⟩ := at_T38 HR0.out x5_1 p324 q324
   cases e324
   have HR324_7 := A_.mk hi324_7
   have HC324_7 := A_.mk hl324_7
   clear hi324_7 hl324_7
   replace p324 := eq_true p324
   replace q324 := eq_true q324
   have p325 : 0 ≤ (x5_1 : Int) := od_
   have q325 : x5_1 < (l0.length : Int) := od_
   obtain ⟨ad325, A325_7, c325_7, e325, hx325_0, hx325_1, hx325_2, hx325_3, hx325_4, hx325_5, hx325_6, hx325_7, hl325_7, hi325_7⟩ := at_T38 HR0.out x5_1 p325 q325
   obtain rfl : ad324 = ad325 := (by injection e325)
   have HR325_7 := A_.mk hi325_7
   have HC325_7 := A_.mk hl325_7
   clear hi325_7 hl325_7
   replace p325 := eq_true p325
   replace q325 := eq_true q325
   have ea_ := Option.some.inj (hx324_7.symm.trans hx325_7)
   injection ea_ with ea_ en_ ec_
   subst ea_
   subst ec_
   clear en_
   have p326 : 0 ≤ (x5_1 : Int) := od_
   have q326 : x5_1 < (l0.length : Int) := od_
   obtain ⟨ad326, A326_7, c326_7, e326, hx326_0, hx326_1, hx326_2, hx326_3, hx326_4, hx326_5, hx326_6, hx326_7, hl326_7, hi326_7⟩ := at_T38 HR0.out x5_1 p326 q326
   obtain rfl : ad324 = ad326 := (by injection e326)
   have HR326_7 := A_.mk hi326_7
   have HC326_7 := A_.mk hl326_7
   clear hi326_7 hl326_7
   replace p326 := eq_true p326
   replace q326 := eq_true q326
   have ea_ := Option.some.inj (hx324_7.symm.trans hx326_7)
   injection ea_ with ea_ en_ ec_
   subst ea_
   subst ec_
   clear en_
   have p327 : 0 ≤ (x5_1 : Int) := od_
   have q327 : x5_1 < (l0.length : Int) := od_
   obtain ⟨ad327, A327_7, c327_7, e327, hx327_0, hx327_1, hx327_2, hx327_3, hx327_4, hx327_5, hx327_6, hx327_7, hl327_7, hi327_7⟩ := at_T38 HR0.out x5_1 p327 q327
   obtain rfl : ad324 = ad327 := (by injection e327)
   have HR327_7 := A_.mk hi327_7
   have HC327_7 := A_.mk hl327_7
   clear hi327_7 hl327_7
   replace p327 := eq_true p327
   replace q327 := eq_true q327
   have ea_ := Option.some.inj (hx324_7.symm.trans hx327_7)
   injection ea_ with ea_ en_ ec_
   subst ea_
   subst ec_
   clear en_
   have p328 : 0 ≤ (x5_1 : Int) := od_
   have q328 : x5_1 < (l0.length : Int) := od_
   obtain ⟨ad328, A328_7, c328_7, e328, hx328_0, hx328_1, hx328_2, hx328_3, hx328_4, hx328_5, hx328_6, hx328_7, hl328_7, hi328_7⟩ := at_T38 HR0.out x5_1 p328 q328
   obtain rfl : ad324 = ad328 := (by injection e328)
   have HR328_7 := A_.mk hi328_7
   have HC328_7 := A_.mk hl328_7
   clear hi328_7 hl328_7
   replace p328 := eq_true p328
   replace q328 := eq_true q328
   have ea_ := Option.some.inj (hx324_7.symm.trans hx328_7)
   injection ea_ with ea_ en_ ec_
   subst ea_
   subst ec_
   clear en_
   have p329 : 0 ≤ (x5_1 : Int) := od_
   have q329 : x5_1 < (l0.length : Int) := od_
   obtain ⟨ad329, A329_7, c329_7, e329, hx329_0, hx329_1, hx329_2, hx329_3, hx329_4, hx329_5, hx329_6, hx329_7, hl329_7, hi329_7⟩ := at_T38 HR0.out x5_1 p329 q329
   obtain rfl : ad324 = ad329 := (by injection e329)
   have HR329_7 := A_.mk hi329_7
   have HC329_7 := A_.mk hl329_7
   clear hi329_7 hl329_7
   replace p329 := eq_true p329
   replace q329 := eq_true q329
   have ea_ := Option.some.inj (hx324_7.symm.trans hx329_7)
   injection ea_ with ea_ en_ ec_
   subst ea_
   subst ec_
   clear en_
   have p330 : 0 ≤ (x5_1 : Int) := od_
   have q330 : x5_1 < (l0.length : Int) := od_
   obtain ⟨ad330, A330_7, c330_7, e330, hx330_0, hx330_1, hx330_2, hx330_3, hx330_4, hx330_5, hx330_6, hx330_7, hl330_7, hi330_7⟩ := at_T38 HR0.out x5_1 p330 q330
   obtain rfl : ad324 = ad330 := (by injection e330)
   have HR330_7 := A_.mk hi330_7
   have HC330_7 := A_.mk hl330_7
   clear hi330_7 hl330_7
   replace p330 := eq_true p330
   replace q330 := eq_true q330
   have ea_ := Option.some.inj (hx324_7.symm.trans hx330_7)
   injection ea_ with ea_ en_ ec_
   subst ea_
   subst ec_
   clear en_
   have p331 : 0 ≤ (x5_1 : Int) := od_
   have q331 : x5_1 < (l0.length : Int) := od_
   obtain ⟨ad331, A331_7, c331_7, e331, hx331_0, hx331_1, hx331_2, hx331_3, hx331_4, hx331_5, hx331_6, hx331_7, hl331_7, hi331_7⟩ := at_T38 HR0.out x5_1 p331 q331
   obtain rfl : ad324 = ad331 := (by injection e331)
   have HR331_7 := A_.mk hi331_7
   have HC331_7 := A_.mk hl331_7
   clear hi331_7 hl331_7
   replace p331 := eq_true p331
   replace q331 := eq_true q331
   have ea_ := Option.some.inj (hx324_7.symm.trans hx331_7)
   injection ea_ with ea_ en_ ec_
   subst ea_
   subst ec_
   clear en_
   go_wp2_with (first | ((with_reducible refine gc_ (f := 61) rfl ?_); refine gl_ (some 81) Try.func61 #[.slice A324_7 ((rd_T38 l0 x5_1).f7).length c324_7, .int .i64 (wrap64 ((wrap64 ((wrap64 ((wrap64 ((wrap64 ((wrap64 ((wrap64 (x1_1 + 1)) + 1)) + 1)) + 1)) + 1)) + 1)) + 1))] ?_; (with_reducible refine (laws_heldIntS.calls k1 _ _ ((rd_T38 l0 x5_1).f7) (wrap64 ((wrap64 ((wrap64 ((wrap64 ((wrap64 ((wrap64 ((wrap64 (x1_1 + 1)) + 1)) + 1)) + 1)) + 1)) + 1)) + 1)) t332 _ ?side1 ?side2 A12.out).mono ?_); (case side1 => exact cY (HR331_7.out)); (case side2 => exact HC331_7.out); rintro e w' ⟨rfl, ⟨nd, rfl⟩⟩; refine ⟨_, rfl, ?_⟩))
   go_roundg k1
   case measure => have := HK1.out; omega
   case rel => exact ⟨(t332), (wrap64 (x5_1 + 1)), (by first | rfl | (simp; done) | (simp [*]; done)), (by first | rfl | (simp; done) | (simp [*]; done)), H', ⟨by have := HK1.out; omega⟩, by repeat (first | exact Drawn0.refl _ | apply Drawn0.step)⟩
end Go.Proofs.Ytlombfmebinjbaa.PFnExactFreePacket
