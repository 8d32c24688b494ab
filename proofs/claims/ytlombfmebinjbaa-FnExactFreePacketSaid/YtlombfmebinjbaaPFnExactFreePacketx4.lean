-- Written by a program of this session (wip/xp): not trusted, Lean checks it.
import Derived.Test.YtlombfmebinjbaaPFnExactFreePacketx0
import Derived.Test.YtlombfmebinjbaaPFnExactFreePacketx3
namespace Go.Proofs.Ytlombfmebinjbaa.PFnExactFreePacket
open Go.RowKit Go.Proofs.YtlombfmebinjbaaW.PrintWords Go.Proofs.YtlombfmebinjbaaW.PrintLast Go.Proofs.YtlombfmebinjbaaW.PrintMore
attribute [local go_sem] max2_int min2_int max_two min_two max_three min_three max_four min_four   -- for this text's walks alone
set_option linter.unusedVariables false
set_option linter.unusedSimpArgs false

/-! ### spec_CreditsOk: function 33 -/
mutual
def spec_CreditsOk.j0 : Nat → Bool → List Int → List Int → Option (Bool)
 | 0, _, _, _ => none
 | k + 1, x13, x144000, x144001 => if x13 = true then (some false) else (spec_CreditsOk.l0 k 0 x144000 x144001)
def spec_CreditsOk.l0 : Nat → Int → List Int → List Int → Option (Bool)
 | 0, _, _, _ => none
 | k + 1, x3, x144000, x144001 => if x3 < 3 then (if 0 ≤ x3 then (if x3 < (x144000.length : Int) then ((spec_l01In.f (rd x144000 x3) 0 30).bind fun t145 => (if t145 = true then (if x3 < (x144001.length : Int) then ((spec_l01In.f (rd x144001 x3) 0 30).bind fun t147 => (if t147 = true then (spec_CreditsOk.l0 k (wrap64 (x3 + 1)) x144000 x144001) else (some false))) else (none)) else (some false))) else (none)) else (none)) else (some true)
end
def spec_CreditsOk.f (k : Nat) (l0_0 : List Int) (l0_1 : List Int) : Option (Bool) := if (l0_0.length : Int) = 3 then (spec_CreditsOk.j0 k ((l0_1.length : Int) != 3) l0_0 l0_1) else (spec_CreditsOk.j0 k true l0_0 l0_1)
set_option maxHeartbeats 8000000 in
set_option maxRecDepth 100000 in
theorem spec_CreditsOk.calls (k : Nat) (A0_0 : Option Addr) (c0_0 : Nat) (l0_0 : List Int) (A0_1 : Option Addr) (c0_1 : Nat) (l0_1 : List Int) (r : Bool) (w : World) (hr0_0 : Kd.C (Kd.int .i64) w A0_0 l0_0.length l0_0) (hc0_0 : l0_0.length ≤ c0_0) (hr0_1 : Kd.C (Kd.int .i64) w A0_1 l0_1.length l0_1) (hc0_1 : l0_1.length ≤ c0_1) (h : spec_CreditsOk.f k l0_0 l0_1 = some r) :
  Calls Try.prog 33 #[.agg #[.slice A0_0 l0_0.length c0_0, .slice A0_1 l0_1.length c0_1]] w fun e w' => e = .returned (.bool r) ∧ Below w.heap.size w w' := by
 have hu30 := Try.underlying30
 have HR0_0 := A_.mk hr0_0
 have HC0_0 := A_.mk hc0_0
 clear hr0_0 hc0_0
 have HR0_1 := A_.mk hr0_1
 have HC0_1 := A_.mk hc0_1
 clear hr0_1 hc0_1
 have HB := A_.mk (Below.refl w.heap.size w)
 have H : (if (l0_0.length : Int) = 3 then (spec_CreditsOk.j0 k ((l0_1.length : Int) != 3) l0_0 l0_1) else (spec_CreditsOk.j0 k true l0_0 l0_1)) = some r := h
 clear h
 have HC2 := A_.mk H
 clear H
 go_enter Try.func33, Try.ntmps33
 go_upto_region 1 with (first | ((with_reducible refine gd_ (N := 1) rfl ?_); (try (refine gate_guard (by rfl) ?_; dsimp only)); refine by_ 1 (cs := #[.slice A0_0 l0_0.length c0_0, .slice A0_1 l0_1.length c0_1]) (t := 30) ?_; intro gb143 hg w3 hbox hb; have n0_ := A_.mk (bt_ (beY HB.out) hb); have n1_ := A_.mk (hbox); have n2_ := A_.mk ((by rw [hg]; exact (bz_ (beY HB.out)) : w.heap.size ≤ gb143)); have n3_ := A_.mk ((by rw [hg]; exact (bz_ (beY HB.out)) : w.heap.size ≤ gb143)); clear HB; have HB := n0_; have BK143 := n1_; have GW143 := n2_; have GE143 := n3_; clear n0_ n1_ n2_ n3_ hb hbox hg))
 (try simp only [Act.put, List.setIfInBounds_toArray, List.set_cons_zero, List.set_cons_succ])
 go_cut [13] (fun v13 wc => ∃ (kq : Nat) (x13_1 : Bool), v13 = .bool x13_1 ∧ A_ (spec_CreditsOk.j0 kq x13_1 l0_0 l0_1 = some r) ∧ A_ (kq ≤ k) ∧ A_ (wc.heap[gb143]? = some (.cells #[(.slice A0_0 l0_0.length c0_0), (.slice A0_1 l0_1.length c0_1)] 30 (0, 0))) ∧ A_ (Below w.heap.size w wc))
 case first =>
  have H := HC2.out
  clear HC2
  by_cases c4 : (l0_0.length : Int) = 3
  rotate_left
  ·rw [if_neg c4] at H
   have c4b0 : ((l0_0.length : Int) == 3) = false := beq_eq_false_iff_ne.mpr c4
   have c4b1 : ((l0_0.length : Int) != 3) = true := bne_iff_ne.mpr c4
   (first | rw [c4b0] | (simp only [i64_w, i32_w]; rw [c4b0]) | skip)
   have H' := A_.mk H
   clear H
   obtain ⟨hcz6_0, hcz6_1, hfz6_0, hfz6_1⟩ := b2 BK143.out
   go_wp2
   go_meet
   case rel => exact ⟨_, (true), (by first | rfl | (simp; done) | (simp [*]; done)), H', ⟨by first | omega | exact Nat.le_refl _⟩, ⟨by (repeat apply bX); exact BK143.out⟩, ⟨by repeat (first | (with_reducible first | exact HB.out | apply ba_ | apply bd_ | apply be_ | refine bs_ ?_ GE143.out) | exact HB.out)⟩⟩
  rw [if_pos c4] at H
  have c4b0 : ((l0_0.length : Int) == 3) = true := beq_iff_eq.mpr c4
  have c4b1 : ((l0_0.length : Int) != 3) = false := bne_eq_false_iff_eq.mpr c4
  clear c4
  (first | rw [c4b0] | (simp only [i64_w, i32_w]; rw [c4b0]) | skip)
  have H' := A_.mk H
  clear H
  obtain ⟨hcz5_0, hcz5_1, hfz5_0, hfz5_1⟩ := b2 BK143.out
  go_wp2
  go_meet
  case rel => exact ⟨_, (((l0_1.length : Int) != 3)), (by first | rfl | (simp; done) | (simp [*]; done)), H', ⟨by first | omega | exact Nat.le_refl _⟩, ⟨by (repeat apply bX); exact BK143.out⟩, ⟨by repeat (first | (with_reducible first | exact HB.out | apply ba_ | apply bd_ | apply be_ | refine bs_ ?_ GE143.out) | exact HB.out)⟩⟩
 case rest =>
  clear HC2
  obtain ⟨kq, x13_1, rfl, HA, HJ1, BK143, HB⟩ := hcut
  cases kq with
  | zero => exact absurd HA.out (by simp [spec_CreditsOk.j0])
  | succ kj1 =>
   have H := HA.out
   clear HA
   simp only [spec_CreditsOk.j0] at H
   by_cases c7 : x13_1 = true
   ·subst c7
    have H1 : (some false) = some r := by rw [if_pos rfl] at H; exact H
    clear H
    have H := H1
    clear H1
    obtain rfl := Option.some.inj H
    go_wp2
    go_ret
    exact ⟨by first | rfl | (simp [errW_none, errW_some] <;> rfl) | (simp [*, errW_none, errW_some] <;> rfl), by repeat (first | (with_reducible first | exact HB.out | apply ba_ | apply bd_ | apply be_ | refine bs_ ?_ GE143.out) | exact HB.out)⟩
   replace c7 := Bool.eq_false_iff.mpr c7
   subst c7
   have H1 : (spec_CreditsOk.l0 kj1 0 l0_0 l0_1) = some r := by rw [if_neg (show ¬ (false = true) by decide)] at H; exact H
   clear H
   have H := H1
   clear H1
   have H' := A_.mk H
   clear H
   go_wp2
   go_loopg [3] kj1 (fun kq v3 w' => ∃ (x3_2 : Int), v3 = .int .i64 x3_2 ∧ A_ (spec_CreditsOk.l0 kq x3_2 l0_0 l0_1 = some r) ∧ A_ (kq ≤ kj1) ∧ A_ (w'.heap[gb143]? = some (.cells #[(.slice A0_0 l0_0.length c0_0), (.slice A0_1 l0_1.length c0_1)] 30 (0, 0))) ∧ A_ (Below w.heap.size w w'))
   case atStart => exact ⟨(0), (by first | rfl | (simp; done) | (simp [*]; done)), H', ⟨Nat.le_refl _⟩, ⟨by (repeat apply bX); exact BK143.out⟩, ⟨by repeat (first | (with_reducible first | exact HB.out | apply ba_ | apply bd_ | apply be_ | refine bs_ ?_ GE143.out) | exact HB.out)⟩⟩
   case round =>
    clear H'
    obtain ⟨x3_2, rfl, HA, HK2, BK143, HB⟩ := hrel
    cases gk with
    | zero => exact absurd HA.out (by simp [spec_CreditsOk.l0])
    | succ k2 =>
     have H := HA.out
     clear HA
     simp only [spec_CreditsOk.l0] at H
     by_cases c8 : x3_2 < 3
     rotate_left
     ·rw [if_neg c8] at H
      have c8b0 : decide (x3_2 < 3) = false := decide_eq_false c8
      clear c8
      obtain rfl := Option.some.inj H
      go_wp2
      go_ret
      exact ⟨by first | rfl | (simp [errW_none, errW_some] <;> rfl) | (simp [*, errW_none, errW_some] <;> rfl), by repeat (first | (with_reducible first | exact HB.out | apply ba_ | apply bd_ | apply be_ | refine bs_ ?_ GE143.out) | exact HB.out)⟩
     rw [if_pos c8] at H
     have c8b0 : decide (x3_2 < 3) = true := decide_eq_true c8
     clear c8
     by_cases c9 : 0 ≤ x3_2
     rotate_left
     ·rw [if_neg c9] at H
      exact absurd H (by simp)
     rw [if_pos c9] at H
     have c9b0 : decide (0 ≤ x3_2) = true := decide_eq_true c9
     clear c9
     by_cases c10 : x3_2 < (l0_0.length : Int)
     rotate_left
     ·rw [if_neg c10] at H
      exact absurd H (by simp)
     rw [if_pos c10] at H
     have c10b0 : decide (x3_2 < (l0_0.length : Int)) = true := decide_eq_true c10
     clear c10
     replace H := ob_ H
     obtain ⟨t145, A110, H⟩ := H
     have A11 := A_.mk A110
     clear A110
     by_cases c12 : t145 = true
     rotate_left
     ·replace c12 := Bool.eq_false_iff.mpr c12
      subst c12
      have H1 : (some false) = some r := by rw [if_neg (show ¬ (false = true) by decide)] at H; exact H
      clear H
      have H := H1
      clear H1
      obtain rfl := Option.some.inj H
      obtain ⟨hcz18_0, hcz18_1, hfz18_0, hfz18_1⟩ := b2 BK143.out
      have p144 : 0 ≤ (x3_2 : Int) := od_
      have q144 : x3_2 < (l0_0.length : Int) := od_
      obtain ⟨ad144, e144, hx144_0⟩ := Kd.at_int HR0_0.out x3_2 p144 q144
      cases e144
      replace hx144_0 := (HB.out.cell (wl_ w _ hx144_0)).trans hx144_0
      replace p144 := eq_true p144
      replace q144 := eq_true q144
      go_wp2_with (first | ((with_reducible refine gc_ (f := 49) rfl ?_); refine gl_ (some 23) Try.func49 #[.int .i64 (rd l0_0 x3_2), .int .i64 0, .int .i64 30] ?_; (with_reducible refine (spec_l01In.calls (rd l0_0 x3_2) 0 30 false _ A11.out).mono ?_); rintro e w' ⟨rfl, ⟨nd, rfl⟩⟩; refine ⟨_, rfl, ?_⟩))
      go_ret
      exact ⟨by first | rfl | (simp [errW_none, errW_some] <;> rfl) | (simp [*, errW_none, errW_some] <;> rfl), by repeat (first | (with_reducible first | exact HB.out | apply ba_ | apply bd_ | apply be_ | refine bs_ ?_ GE143.out) | exact HB.out)⟩
     subst c12
     have H1 : (if x3_2 < (l0_1.length : Int) then ((spec_l01In.f (rd l0_1 x3_2) 0 30).bind fun t147 => (if t147 = true then (spec_CreditsOk.l0 k2 (wrap64 (x3_2 + 1)) l0_0 l0_1) else (some false))) else (none)) = some r := by rw [if_pos rfl] at H; exact H
     clear H
     have H := H1
     clear H1
     by_cases c13 : x3_2 < (l0_1.length : Int)
     rotate_left
     ·rw [if_neg c13] at H
      exact absurd H (by simp)
     rw [if_pos c13] at H
     have c13b0 : decide (x3_2 < (l0_1.length : Int)) = true := decide_eq_true c13
     clear c13
     replace H := ob_ H
     obtain ⟨t147, A140, H⟩ := H
     have A14 := A_.mk A140
     clear A140
     by_cases c15 : t147 = true
     rotate_left
     ·replace c15 := Bool.eq_false_iff.mpr c15
      subst c15
      have H1 : (some false) = some r := by rw [if_neg (show ¬ (false = true) by decide)] at H; exact H
      clear H
      have H := H1
      clear H1
      obtain rfl := Option.some.inj H
      obtain ⟨hcz17_0, hcz17_1, hfz17_0, hfz17_1⟩ := b2 BK143.out
      have p144 : 0 ≤ (x3_2 : Int) := od_
      have q144 : x3_2 < (l0_0.length : Int) := od_
      obtain ⟨ad144, e144, hx144_0⟩ := Kd.at_int HR0_0.out x3_2 p144 q144
      cases e144
      replace hx144_0 := (HB.out.cell (wl_ w _ hx144_0)).trans hx144_0
      replace p144 := eq_true p144
      replace q144 := eq_true q144
      go_wp2_with (first | ((with_reducible refine gc_ (f := 49) rfl ?_); refine gl_ (some 23) Try.func49 #[.int .i64 (rd l0_0 x3_2), .int .i64 0, .int .i64 30] ?_; (with_reducible refine (spec_l01In.calls (rd l0_0 x3_2) 0 30 true _ A11.out).mono ?_); rintro e w' ⟨rfl, ⟨nd, rfl⟩⟩; refine ⟨_, rfl, ?_⟩; have p146 : 0 ≤ (x3_2 : Int) := od_; have q146 : x3_2 < (l0_1.length : Int) := od_; obtain ⟨ad146, e146, hx146_0⟩ := Kd.at_int HR0_1.out x3_2 p146 q146; cases e146; replace hx146_0 := (HB.out.cell (wl_ w _ hx146_0)).trans hx146_0; replace p146 := eq_true p146; replace q146 := eq_true q146) | (go_at_call 49; (with_reducible refine (spec_l01In.calls (rd l0_1 x3_2) 0 30 false _ A14.out).mono ?_); rintro e w' ⟨rfl, ⟨nd, rfl⟩⟩))
      go_ret
      exact ⟨by first | rfl | (simp [errW_none, errW_some] <;> rfl) | (simp [*, errW_none, errW_some] <;> rfl), by repeat (first | (with_reducible first | exact HB.out | apply ba_ | apply bd_ | apply be_ | refine bs_ ?_ GE143.out) | exact HB.out)⟩
     subst c15
     have H1 : (spec_CreditsOk.l0 k2 (wrap64 (x3_2 + 1)) l0_0 l0_1) = some r := by rw [if_pos rfl] at H; exact H
     clear H
     have H := H1
     clear H1
     have H' := A_.mk H
     clear H
     obtain ⟨hcz16_0, hcz16_1, hfz16_0, hfz16_1⟩ := b2 BK143.out
     have p144 : 0 ≤ (x3_2 : Int) := od_
     have q144 : x3_2 < (l0_0.length : Int) := od_
     obtain ⟨ad144, e144, hx144_0⟩ := Kd.at_int HR0_0.out x3_2 p144 q144
     cases e144
     replace hx144_0 := (HB.out.cell (wl_ w _ hx144_0)).trans hx144_0
     replace p144 := eq_true p144
     replace q144 := eq_true q144
     go_wp2_with (first | ((with_reducible refine gc_ (f := 49) rfl ?_); refine gl_ (some 23) Try.func49 #[.int .i64 (rd l0_0 x3_2), .int .i64 0, .int .i64 30] ?_; (with_reducible refine (spec_l01In.calls (rd l0_0 x3_2) 0 30 true _ A11.out).mono ?_); rintro e w' ⟨rfl, ⟨nd, rfl⟩⟩; refine ⟨_, rfl, ?_⟩; have p146 : 0 ≤ (x3_2 : Int) := od_; have q146 : x3_2 < (l0_1.length : Int) := od_; obtain ⟨ad146, e146, hx146_0⟩ := Kd.at_int HR0_1.out x3_2 p146 q146; cases e146; replace hx146_0 := (HB.out.cell (wl_ w _ hx146_0)).trans hx146_0; replace p146 := eq_true p146; replace q146 := eq_true q146) | (go_at_call 49; (with_reducible refine (spec_l01In.calls (rd l0_1 x3_2) 0 30 true _ A14.out).mono ?_); rintro e w' ⟨rfl, ⟨nd, rfl⟩⟩))
     go_roundg k2
     case measure => have := HJ1.out; have := HK2.out; omega
     case rel => exact ⟨(wrap64 (x3_2 + 1)), (by first | rfl | (simp; done) | (simp [*]; done)), H', ⟨by have := HJ1.out; have := HK2.out; omega⟩, ⟨by (repeat apply bX); exact BK143.out⟩, ⟨by repeat (first | (with_reducible first | exact HB.out | apply ba_ | apply bd_ | apply be_ | refine bs_ ?_ GE143.out) | exact HB.out)⟩⟩
/-! ### spec_l14Copy: function 34 -/
def spec_l14Copy.f (l0_0 : List Int) (l0_1 : List Int) : Option (List Int × List Int) := (some (([] : List Int) : List Int)).bind fun y150 => (if y150.length + l0_0.length < 17592186044416 then ((some (([] : List Int) : List Int)).bind fun y156 => (if y156.length + l0_1.length < 17592186044416 then (some ((y150 ++ l0_0), (y156 ++ l0_1))) else (none))) else (none))
def spec_l14Copy.T1 : Bool × List (List Nat × List Nat) := (true, [([], []), ([], []), ([1], [1]), ([0, 2], [0, 2]), ([], []), ([], []), ([5], [5]), ([4, 6, 3], [4, 6]), ([3, 7], [3, 7]), ([8, 7, 0, 1, 2, 3, 4, 5, 6, 7, 8], [8])])
def spec_l14Copy.B1 : List Nat := [0, 0, 2, 7, 0, 0, 32, 127, 255, 511]
theorem spec_l14Copy.tab1 : rtab .any (opsOf Try.f34 1) = spec_l14Copy.T1 := by kernel_rfl
theorem spec_l14Copy.bits1 : waitsOk spec_l14Copy.T1.2 spec_l14Copy.B1 = true := by kernel_rfl
set_option maxHeartbeats 8000000 in
set_option maxRecDepth 100000 in
theorem spec_l14Copy.calls (A0_0 : Option Addr) (c0_0 : Nat) (l0_0 : List Int) (A0_1 : Option Addr) (c0_1 : Nat) (l0_1 : List Int) (r1 : List Int) (r2 : List Int) (w : World) (hr0_0 : Kd.C (Kd.int .i64) w A0_0 l0_0.length l0_0) (hc0_0 : l0_0.length ≤ c0_0) (hr0_1 : Kd.C (Kd.int .i64) w A0_1 l0_1.length l0_1) (hc0_1 : l0_1.length ≤ c0_1) (h : spec_l14Copy.f l0_0 l0_1 = some (r1, r2)) :
  Calls Try.prog 34 #[.agg #[.slice A0_0 l0_0.length c0_0, .slice A0_1 l0_1.length c0_1]] w fun e w' => ∃ v0_ v1_ : Value, e = .returned (.agg #[v0_, v1_]) ∧ Kd.R (Kd.int .i64) 3 w' w.heap.size (fun k_ => some k_ ≠ (v1_ : Value).ownBlock) v0_ r1 ∧ Kd.R (Kd.int .i64) 3 w' w.heap.size (fun k_ => some k_ ≠ (v0_ : Value).ownBlock) v1_ r2 ∧ Below w.heap.size w w' := by
 have hu30 := Try.underlying30
 have HR0_0 := A_.mk hr0_0
 have HC0_0 := A_.mk hc0_0
 clear hr0_0 hc0_0
 have HR0_1 := A_.mk hr0_1
 have HC0_1 := A_.mk hc0_1
 clear hr0_1 hc0_1
 have HB := A_.mk (Below.refl w.heap.size w)
 have H : ((some (([] : List Int) : List Int)).bind fun y150 => (if y150.length + l0_0.length < 17592186044416 then ((some (([] : List Int) : List Int)).bind fun y156 => (if y156.length + l0_1.length < 17592186044416 then (some ((y150 ++ l0_0), (y156 ++ l0_1))) else (none))) else (none))) = some (r1, r2) := h
 clear h
 obtain ⟨y150, hy150⟩ : ∃ y_ : List Int, y_ = (([] : List Int)) := ⟨_, rfl⟩
 replace H : (if y150.length + l0_0.length < 17592186044416 then ((some (([] : List Int) : List Int)).bind fun y156 => (if y156.length + l0_1.length < 17592186044416 then (some ((y150 ++ l0_0), (y156 ++ l0_1))) else (none))) else (none)) = some (r1, r2) := by first | (rw [hy150]; with_reducible exact H) | (have H2_ := (Option.bind_some _ _).symm.trans H; rw [hy150]; with_reducible exact H2_) | (have H2_ := (Option.bind_some _ _).symm.trans H; with_reducible exact H2_) | with_reducible exact H | (rw [hy150]; exact H) | exact H
 have Ny150 := A_.mk hy150
 clear hy150
 by_cases c2 : y150.length + l0_0.length < 17592186044416
 rotate_left
 ·rw [if_neg c2] at H
  exact absurd H (by simp)
 rw [if_pos c2] at H
 have LMc2 := A_.mk c2
 clear c2
 obtain ⟨y153, hy153⟩ : ∃ y_ : List Int, y_ = (y150 ++ l0_0) := ⟨_, rfl⟩
 replace H : ((some (([] : List Int) : List Int)).bind fun y156 => (if y156.length + l0_1.length < 17592186044416 then (some (y153, (y156 ++ l0_1))) else (none))) = some (r1, r2) := by first | (rw [hy153]; with_reducible exact H) | (have H2_ := (Option.bind_some _ _).symm.trans H; rw [hy153]; with_reducible exact H2_) | (have H2_ := (Option.bind_some _ _).symm.trans H; with_reducible exact H2_) | with_reducible exact H | (rw [hy153]; exact H) | exact H
 have Ny153 := A_.mk hy153
 clear hy153
 obtain ⟨y156, hy156⟩ : ∃ y_ : List Int, y_ = (([] : List Int)) := ⟨_, rfl⟩
 replace H : (if y156.length + l0_1.length < 17592186044416 then (some (y153, (y156 ++ l0_1))) else (none)) = some (r1, r2) := by first | (rw [hy156]; with_reducible exact H) | (have H2_ := (Option.bind_some _ _).symm.trans H; rw [hy156]; with_reducible exact H2_) | (have H2_ := (Option.bind_some _ _).symm.trans H; with_reducible exact H2_) | with_reducible exact H | (rw [hy156]; exact H) | exact H
 have Ny156 := A_.mk hy156
 clear hy156
 by_cases c3 : y156.length + l0_1.length < 17592186044416
 rotate_left
 ·rw [if_neg c3] at H
  exact absurd H (by simp)
 rw [if_pos c3] at H
 have LMc3 := A_.mk c3
 clear c3
 obtain ⟨y159, hy159⟩ : ∃ y_ : List Int, y_ = (y156 ++ l0_1) := ⟨_, rfl⟩
 replace H : (some (y153, y159)) = some (r1, r2) := by first | (rw [hy159]; with_reducible exact H) | (have H2_ := (Option.bind_some _ _).symm.trans H; rw [hy159]; with_reducible exact H2_) | (have H2_ := (Option.bind_some _ _).symm.trans H; with_reducible exact H2_) | with_reducible exact H | (rw [hy159]; exact H) | exact H
 have Ny159 := A_.mk hy159
 clear hy159
 simp only [Option.some.injEq, Prod.mk.injEq] at H
 obtain ⟨rfl, rfl⟩ := H
 go_enter Try.func34, Try.ntmps34
 try go_wp2_with (first | ((with_reducible refine gd_ (N := 1) rfl ?_); refine by_ 1 (cs := #[.slice A0_0 l0_0.length c0_0, .slice A0_1 l0_1.length c0_1]) (t := 30) ?_; intro gb148 hg w4 hbox hb; have n0_ := A_.mk (bt_ (beY HB.out) hb); have n1_ := A_.mk (hbox); have n2_ := A_.mk ((by rw [hg]; exact (bz_ (beY HB.out)) : w.heap.size ≤ gb148)); have n3_ := A_.mk ((by rw [hg]; exact (bz_ (beY HB.out)) : w.heap.size ≤ gb148)); clear HB; have HB := n0_; have BK148 := n1_; have GW148 := n2_; have GE148 := n3_; clear n0_ n1_ n2_ n3_ hb hbox hg) | ((with_reducible refine gd_ (N := 2) rfl ?_); refine by_ 2 (cs := #[.slice none 0 0, .slice none 0 0]) (t := 30) ?_; intro gb149 hg w5 hbox hb; have n0_ := A_.mk (bb_ (bY BK148.out) hb); have n1_ := A_.mk (bt_ (by repeat (first | (with_reducible first | exact HB.out | apply ba_ | apply bd_ | apply be_ | refine bs_ ?_ GE148.out) | exact HB.out)) hb); have n2_ := A_.mk (hbox); have n3_ := A_.mk ((by rw [hg]; exact (bz_ (by repeat (first | (with_reducible first | exact HB.out | apply ba_ | apply bd_ | apply be_ | refine bs_ ?_ GE148.out) | exact HB.out))) : w.heap.size ≤ gb149)); have n4_ := A_.mk ((by rw [hg]; exact (bz_ (by repeat (first | (with_reducible first | exact HB.out | apply ba_ | apply bd_ | apply be_ | refine bs_ ?_ GE148.out) | exact HB.out))) : w.heap.size ≤ gb149)); have n5_ := A_.mk ((by rw [hg]; exact Nat.ne_of_lt (blk_lt (bY BK148.out)) : gb148 ≠ gb149)); have n6_ := A_.mk ((by rw [hg]; exact Nat.ne_of_gt (blk_lt (bY BK148.out)) : gb149 ≠ gb148)); clear BK148 HB; have BK148 := n0_; have HB := n1_; have BK149 := n2_; have GW149 := n3_; have GE149 := n4_; have NB148_149 := n5_; have NB149_148 := n6_; clear n0_ n1_ n2_ n3_ n4_ n5_ n6_ hb hbox hg))
 have n0_ := A_.mk (bw_ BK148.out)
 have n1_ := A_.mk (bw_ BK149.out)
 have n2_ := A_.mk (be_ HB.out)
 clear BK148 BK149 HB
 have BK148 := n0_
 have BK149 := n1_
 have HB := n2_
 clear n0_ n1_ n2_
 refine start_ (n := 10) (S := fun w' => w'.cell? ⟨gb148, 0, none⟩ = some (.slice A0_0 l0_0.length c0_0) ∧ w'.cell? ⟨gb148, 1, none⟩ = some (.slice A0_1 l0_1.length c0_1)) (ds := []) #[F, F, F, F, F, F, F, F, F, F] (by kernel_rfl) rfl rfl ⟨(bc_ BK148.out 0).trans rfl, (bc_ BK148.out 1).trans rfl⟩ (fun hHeld => ?_); refine with_tabW spec_l14Copy.tab1 spec_l14Copy.bits1 (fun HT_ HW_ => ?_)
 generalize w5.drew = w6 at BK148 BK149 HB hHeld ⊢
 refine pr_ (i := 1) (N := some 4) #[F, T, F, F, F, F, F, F, F, F] rfl HT_.out ?_
 refine pr_ (i := 5) (N := some 8) #[F, T, F, F, F, T, F, F, F, F] rfl HT_.out ?_
 refine take_ (i := 2) (N := some 5) (v := ?_) (a' := ?_) #[F, T, T, F, F, T, F, F, F, F] rfl rfl (take_ofW HT_.out HW_.out (by kernel_rfl)) (fun _ _ _ h => h) (Or.inl ⟨by rfl, ?_⟩) hHeld ?_ ?_
 rotate_left
 ·rintro w' ⟨s0, s1⟩
  go_simp
  with_reducible rfl
 rotate_left
 ·simp only [pS]
  rfl
 refine take_ (i := 6) (N := some 9) (v := ?_) (a' := ?_) #[F, T, T, F, F, T, T, F, F, F] rfl rfl (take_ofW HT_.out HW_.out (by kernel_rfl)) (fun _ _ _ h => h) (Or.inl ⟨by rfl, ?_⟩) hHeld ?_ ?_
 rotate_left
 ·rintro w' ⟨s0, s1⟩
  go_simp
  with_reducible rfl
 rotate_left
 ·simp only [pS]
  rfl
 refine join_ (σ := Value × Value × Value) 3 #[T, T, T, T, T, T, T, F, F, F] (fun s_ => [(3, s_.1), (6, s_.2.1), (7, s_.2.2)]) (fun s_ w' => (w'.cell? ⟨gb148, 0, none⟩ = some (.slice A0_0 l0_0.length c0_0) ∧ w'.cell? ⟨gb148, 1, none⟩ = some (.slice A0_1 l0_1.length c0_1)) ∧ (Kd.R (Kd.int .i64) 3 w' w.heap.size (fun k_ => some k_ ≠ (s_.2.2 : Value).ownBlock) s_.2.1 y153) ∧ (Kd.R (Kd.int .i64) 3 w' w.heap.size (fun k_ => some k_ ≠ (s_.2.1 : Value).ownBlock) s_.2.2 y156) ∧ (w'.heap[gb148]? = some (.cells #[.slice A0_0 l0_0.length c0_0, .slice A0_1 l0_1.length c0_1] 30 (0, 0))) ∧ (w'.heap[gb149]? = some (.cells #[.slice none 0 0, .slice none 0 0] 30 (0, 0))) ∧ (Below w.heap.size w w')) ?_ ?_
 rotate_left
 ·intro hCont
  refine two_ (i := 0) (j := 4) (Ni := some 3) (Nj := some 7) #[T, T, T, F, F, T, T, F, F, F] #[F, T, T, F, T, T, T, F, F, F] rfl rfl rfl rfl (two_of HT_.out (by kernel_rfl)) (by decide) (by decide) (fun K hK => ?_) (fun K hK => ?_)
  ·skip
   refine Kd.R_lit_step (Kd.int .i64) _ 3 ?hg (N := 3) ?hd (xs := ([] : List Int)) (inner := []) (ok := fun _ => True) (okp := fun _ => True) ?hr ?hp (fun _ hk => hk) trivial (Below.refl _ _) (Nat.le_refl _) (by simp) ?_; (case hd => rfl); (case hg => rfl); (case hr => first | (go_simp; done) | (go_simp; rfl)); (case hp => exact (Reps.none _ _))
   intro v151 w7 ho8 hb hg_ hnew_
   clear hg_ hnew_
   (first | rw [← Ny150.out] at ho8 | (simp only [Int.reduceToNat] at ho8; rw [← Ny150.out] at ho8))
   have n0_ := A_.mk (Kd.R_lower ho8 (bz_ (by repeat (first | (with_reducible first | exact HB.out | apply ba_ | apply bd_ | apply be_ | refine bs_ ?_ GE148.out | refine bs_ ?_ GE149.out) | exact HB.out))))
   have n1_ := A_.mk (bb_ (bY BK148.out) hb)
   have n2_ := A_.mk (bb_ (bY BK149.out) hb)
   have n3_ := A_.mk (bt_ (by repeat (first | (with_reducible first | exact HB.out | apply ba_ | apply bd_ | apply be_ | refine bs_ ?_ GE148.out | refine bs_ ?_ GE149.out) | exact HB.out)) hb)
   clear BK148 BK149 HB
   have HO152 := n0_
   have BK148 := n1_
   have BK149 := n2_
   have HB := n3_
   clear n0_ n1_ n2_ n3_ hb ho8
   refine hK.out _ _ ⟨(bc_ BK148.out 0).trans rfl, (bc_ BK148.out 1).trans rfl⟩ (fun hHeld => ?_)
   clear hK K
   refine norm_ (a' := ?_) ?_ ?_
   rotate_left
   ·show Act.put _ (some 3) _ = _
    simp only [pS]
    rfl
   refine two_ (i := 3) (j := 4) (Ni := some 6) (Nj := some 7) #[T, T, T, T, F, T, T, F, F, F] #[T, T, T, F, T, T, T, F, F, F] rfl rfl rfl rfl (two_of HT_.out (by kernel_rfl)) (by decide) (by decide) (fun K hK => ?_) (fun K hK => ?_)
   ·skip
    refine Kd.R_append_rows_step (Kd.int .i64) (w0 := w) w.heap.size (by rfl) (.tmp 3) (.tmp 5) 22 3 (.int .i64 0) 8 rfl Try.underlying22 info3 rfl (by decide) (by omega) v151 y150 l0_0 _ _ _ (fun _ => True) (fun _ => False) rfl rfl ?aO ?aR (fun _ _ h => h) (fun _ h => h.elim) ?aF ?aB ?aS ?aL ?_
    (case aR => repeat (first | exact (Kd.C_below HR0_0.out HB.out) | (with_reducible refine Kd.C_alloc ?_ _) | (with_reducible refine Kd.C_drewN ?_ _) | (with_reducible refine Kd.C_drew ?_)))
    (case aB => exact (by repeat (first | (with_reducible first | exact HB.out | apply ba_ | apply bd_ | apply be_ | refine bs_ ?_ GE148.out | refine bs_ ?_ GE149.out) | exact HB.out)))
    (case aF => exact (fun _ _ => trivial))
    (case aO => exact (rY HO152.out))
    (case aS => exact (bz_ (by repeat (first | (with_reducible first | exact HB.out | apply ba_ | apply bd_ | apply be_ | refine bs_ ?_ GE148.out | refine bs_ ?_ GE149.out) | exact HB.out))))
    (case aL => have := LMc2.out; omega)
    intro v154 w9 ho hb hg hat
    rw [← Ny153.out] at ho
    have n0_ := A_.mk (blk_grown (g := gb148) (o := .cells #[.slice A0_0 l0_0.length c0_0, .slice A0_1 l0_1.length c0_1] 30 (0, 0)) (bY BK148.out) hg (Kd.R_ne HO152.out BK148.out (by decide)))
    have n1_ := A_.mk (blk_grown (g := gb149) (o := .cells #[.slice none 0 0, .slice none 0 0] 30 (0, 0)) (bY BK149.out) hg (Kd.R_ne HO152.out BK149.out (by decide)))
    have n2_ := A_.mk (hb)
    have n3_ := A_.mk (ho)
    clear BK148 BK149 HB HO152
    have BK148 := n0_
    have BK149 := n1_
    have HB := n2_
    have HO155 := n3_
    clear n0_ n1_ n2_ n3_ ho hb hg hat
    refine hK.out _ _ ⟨(bc_ BK148.out 0).trans rfl, (bc_ BK148.out 1).trans rfl⟩ (fun hHeld => ?_)
    clear hK K
    refine norm_ (a' := ?_) ?_ ?_
    rotate_left
    ·show Act.put _ (some 6) _ = _
     simp only [pS]
     rfl
    refine one_ (i := 4) (N := some 7) #[T, T, T, T, T, T, T, F, F, F] rfl rfl (one_of HT_.out (by kernel_rfl)) (by decide) (fun K hK => ?_)
    refine Kd.R_lit_step (Kd.int .i64) _ 3 ?hg (N := 7) ?hd (xs := ([] : List Int)) (inner := []) (ok := fun _ => True) (okp := fun _ => True) ?hr ?hp (fun _ hk => hk) trivial (Below.refl _ _) (Nat.le_refl _) (by simp) ?_; (case hd => rfl); (case hg => rfl); (case hr => first | (go_simp; done) | (go_simp; rfl)); (case hp => exact (Reps.none _ _))
    intro v157 w10 ho11 hb hg_ hnew_
    clear hg_ hnew_
    (first | rw [← Ny156.out] at ho11 | (simp only [Int.reduceToNat] at ho11; rw [← Ny156.out] at ho11))
    have n0_ := A_.mk (Kd.R_elder' (rY HO155.out) (Kd.R_base ho11) hb)
    have n1_ := A_.mk (Kd.R_lower (Kd.R_new' ho11 (Kd.R_lt (rY HO155.out))) (bz_ (by repeat (first | (with_reducible first | exact HB.out | apply ba_ | apply bd_ | apply be_ | refine bs_ ?_ GE148.out | refine bs_ ?_ GE149.out) | exact HB.out))))
    have n2_ := A_.mk (bb_ (bY BK148.out) hb)
    have n3_ := A_.mk (bb_ (bY BK149.out) hb)
    have n4_ := A_.mk (bt_ (by repeat (first | (with_reducible first | exact HB.out | apply ba_ | apply bd_ | apply be_ | refine bs_ ?_ GE148.out | refine bs_ ?_ GE149.out) | exact HB.out)) hb)
    clear HO155 BK148 BK149 HB
    have HO155 := n0_
    have HO158 := n1_
    have BK148 := n2_
    have BK149 := n3_
    have HB := n4_
    clear n0_ n1_ n2_ n3_ n4_ hb ho11
    refine hK.out _ _ ⟨(bc_ BK148.out 0).trans rfl, (bc_ BK148.out 1).trans rfl⟩ (fun hHeld => ?_)
    clear hK K
    refine norm_ (a' := ?_) ?_ ?_
    rotate_left
    ·show Act.put _ (some 7) _ = _
     simp only [pS]
     rfl
    exact norm_ (by simp only [putAll, Act.put, List.setIfInBounds_toArray, List.set_cons_zero, List.set_cons_succ]) (hCont (v151, v154, v157) _ ⟨hHeld, (by (repeat apply rX); exact Kd.R_mono HO155.out (fun _ hk => hk.2)), (by (repeat apply rX); exact Kd.R_mono HO158.out (fun _ hk => hk.2)), (bY BK148.out), (bY BK149.out), (by repeat (first | (with_reducible first | exact HB.out | apply ba_ | apply bd_ | apply be_ | refine bs_ ?_ GE148.out | refine bs_ ?_ GE149.out) | exact HB.out))⟩)
   ·skip
    refine Kd.R_lit_step (Kd.int .i64) _ 3 ?hg (N := 7) ?hd (xs := ([] : List Int)) (inner := []) (ok := fun _ => True) (okp := fun _ => True) ?hr ?hp (fun _ hk => hk) trivial (Below.refl _ _) (Nat.le_refl _) (by simp) ?_; (case hd => rfl); (case hg => rfl); (case hr => first | (go_simp; done) | (go_simp; rfl)); (case hp => exact (Reps.none _ _))
    intro v157 w9 ho10 hb hg_ hnew_
    clear hg_ hnew_
    (first | rw [← Ny156.out] at ho10 | (simp only [Int.reduceToNat] at ho10; rw [← Ny156.out] at ho10))
    have n0_ := A_.mk (Kd.R_elder' (rY HO152.out) (Kd.R_base ho10) hb)
    have n1_ := A_.mk (Kd.R_lower (Kd.R_new' ho10 (Kd.R_lt (rY HO152.out))) (bz_ (by repeat (first | (with_reducible first | exact HB.out | apply ba_ | apply bd_ | apply be_ | refine bs_ ?_ GE148.out | refine bs_ ?_ GE149.out) | exact HB.out))))
    have n2_ := A_.mk (bb_ (bY BK148.out) hb)
    have n3_ := A_.mk (bb_ (bY BK149.out) hb)
    have n4_ := A_.mk (bt_ (by repeat (first | (with_reducible first | exact HB.out | apply ba_ | apply bd_ | apply be_ | refine bs_ ?_ GE148.out | refine bs_ ?_ GE149.out) | exact HB.out)) hb)
    clear HO152 BK148 BK149 HB
    have HO152 := n0_
    have HO158 := n1_
    have BK148 := n2_
    have BK149 := n3_
    have HB := n4_
    clear n0_ n1_ n2_ n3_ n4_ hb ho10
    refine hK.out _ _ ⟨(bc_ BK148.out 0).trans rfl, (bc_ BK148.out 1).trans rfl⟩ (fun hHeld => ?_)
    clear hK K
    refine norm_ (a' := ?_) ?_ ?_
    rotate_left
    ·show Act.put _ (some 7) _ = _
     simp only [pS]
     rfl
    refine one_ (i := 3) (N := some 6) #[T, T, T, T, T, T, T, F, F, F] rfl rfl (one_of HT_.out (by kernel_rfl)) (by decide) (fun K hK => ?_)
    refine Kd.R_append_rows_step (Kd.int .i64) (w0 := w) w.heap.size (by rfl) (.tmp 3) (.tmp 5) 22 3 (.int .i64 0) 8 rfl Try.underlying22 info3 rfl (by decide) (by omega) v151 y150 l0_0 _ _ _ (fun k_ => some k_ ≠ (v157 : Value).ownBlock) (fun _ => False) rfl rfl ?aO ?aR (fun _ _ h => h) (fun _ h => h.elim) ?aF ?aB ?aS ?aL ?_
    (case aR => repeat (first | exact (Kd.C_below HR0_0.out HB.out) | (with_reducible refine Kd.C_alloc ?_ _) | (with_reducible refine Kd.C_drewN ?_ _) | (with_reducible refine Kd.C_drew ?_)))
    (case aB => exact (by repeat (first | (with_reducible first | exact HB.out | apply ba_ | apply bd_ | apply be_ | refine bs_ ?_ GE148.out | refine bs_ ?_ GE149.out) | exact HB.out)))
    (case aF => exact (fun k_ hk => Kd.fresh' (Kd.R_lt (rY HO158.out)) k_ hk))
    (case aO => exact (by (repeat apply rX); exact Kd.R_mono HO152.out (fun _ hk => hk.2)))
    (case aS => exact (bz_ (by repeat (first | (with_reducible first | exact HB.out | apply ba_ | apply bd_ | apply be_ | refine bs_ ?_ GE148.out | refine bs_ ?_ GE149.out) | exact HB.out))))
    (case aL => have := LMc2.out; omega)
    intro v154 w11 ho hb hg hat
    rw [← Ny153.out] at ho
    have n0_ := A_.mk (blk_grown (g := gb148) (o := .cells #[.slice A0_0 l0_0.length c0_0, .slice A0_1 l0_1.length c0_1] 30 (0, 0)) (bY BK148.out) hg (Kd.R_ne HO152.out BK148.out (by decide)))
    have n1_ := A_.mk (blk_grown (g := gb149) (o := .cells #[.slice none 0 0, .slice none 0 0] 30 (0, 0)) (bY BK149.out) hg (Kd.R_ne HO152.out BK149.out (by decide)))
    have n2_ := A_.mk (Kd.R_after (ok := (fun _ => True)) (rY HO158.out) hg hat)
    have n3_ := A_.mk (hb)
    have n4_ := A_.mk (ho)
    clear BK148 BK149 HO158 HB HO152
    have BK148 := n0_
    have BK149 := n1_
    have HO158 := n2_
    have HB := n3_
    have HO155 := n4_
    clear n0_ n1_ n2_ n3_ n4_ ho hb hg hat
    refine hK.out _ _ ⟨(bc_ BK148.out 0).trans rfl, (bc_ BK148.out 1).trans rfl⟩ (fun hHeld => ?_)
    clear hK K
    refine norm_ (a' := ?_) ?_ ?_
    rotate_left
    ·show Act.put _ (some 6) _ = _
     simp only [pS]
     rfl
    exact norm_ (by simp only [putAll, Act.put, List.setIfInBounds_toArray, List.set_cons_zero, List.set_cons_succ]) (hCont (v151, v154, v157) _ ⟨hHeld, (rY HO155.out), (by (repeat apply rX); exact Kd.R_mono HO158.out (fun _ hk => hk.2)), (bY BK148.out), (bY BK149.out), (by repeat (first | (with_reducible first | exact HB.out | apply ba_ | apply bd_ | apply be_ | refine bs_ ?_ GE148.out | refine bs_ ?_ GE149.out) | exact HB.out))⟩)
  ·skip
   refine Kd.R_lit_step (Kd.int .i64) _ 3 ?hg (N := 7) ?hd (xs := ([] : List Int)) (inner := []) (ok := fun _ => True) (okp := fun _ => True) ?hr ?hp (fun _ hk => hk) trivial (Below.refl _ _) (Nat.le_refl _) (by simp) ?_; (case hd => rfl); (case hg => rfl); (case hr => first | (go_simp; done) | (go_simp; rfl)); (case hp => exact (Reps.none _ _))
   intro v157 w7 ho8 hb hg_ hnew_
   clear hg_ hnew_
   (first | rw [← Ny156.out] at ho8 | (simp only [Int.reduceToNat] at ho8; rw [← Ny156.out] at ho8))
   have n0_ := A_.mk (Kd.R_lower ho8 (bz_ (by repeat (first | (with_reducible first | exact HB.out | apply ba_ | apply bd_ | apply be_ | refine bs_ ?_ GE148.out | refine bs_ ?_ GE149.out) | exact HB.out))))
   have n1_ := A_.mk (bb_ (bY BK148.out) hb)
   have n2_ := A_.mk (bb_ (bY BK149.out) hb)
   have n3_ := A_.mk (bt_ (by repeat (first | (with_reducible first | exact HB.out | apply ba_ | apply bd_ | apply be_ | refine bs_ ?_ GE148.out | refine bs_ ?_ GE149.out) | exact HB.out)) hb)
   clear BK148 BK149 HB
   have HO158 := n0_
   have BK148 := n1_
   have BK149 := n2_
   have HB := n3_
   clear n0_ n1_ n2_ n3_ hb ho8
   refine hK.out _ _ ⟨(bc_ BK148.out 0).trans rfl, (bc_ BK148.out 1).trans rfl⟩ (fun hHeld => ?_)
   clear hK K
   refine norm_ (a' := ?_) ?_ ?_
   rotate_left
   ·show Act.put _ (some 7) _ = _
    simp only [pS]
    rfl
   refine one_ (i := 0) (N := some 3) #[T, T, T, F, T, T, T, F, F, F] rfl rfl (one_of HT_.out (by kernel_rfl)) (by decide) (fun K hK => ?_)
   refine Kd.R_lit_step (Kd.int .i64) _ 3 ?hg (N := 3) ?hd (xs := ([] : List Int)) (inner := []) (ok := fun _ => True) (okp := fun _ => True) ?hr ?hp (fun _ hk => hk) trivial (Below.refl _ _) (Nat.le_refl _) (by simp) ?_; (case hd => rfl); (case hg => rfl); (case hr => first | (go_simp; done) | (go_simp; rfl)); (case hp => exact (Reps.none _ _))
   intro v151 w9 ho10 hb hg_ hnew_
   clear hg_ hnew_
   (first | rw [← Ny150.out] at ho10 | (simp only [Int.reduceToNat] at ho10; rw [← Ny150.out] at ho10))
   have n0_ := A_.mk (Kd.R_elder' (rY HO158.out) (Kd.R_base ho10) hb)
   have n1_ := A_.mk (Kd.R_lower (Kd.R_new' ho10 (Kd.R_lt (rY HO158.out))) (bz_ (by repeat (first | (with_reducible first | exact HB.out | apply ba_ | apply bd_ | apply be_ | refine bs_ ?_ GE148.out | refine bs_ ?_ GE149.out) | exact HB.out))))
   have n2_ := A_.mk (bb_ (bY BK148.out) hb)
   have n3_ := A_.mk (bb_ (bY BK149.out) hb)
   have n4_ := A_.mk (bt_ (by repeat (first | (with_reducible first | exact HB.out | apply ba_ | apply bd_ | apply be_ | refine bs_ ?_ GE148.out | refine bs_ ?_ GE149.out) | exact HB.out)) hb)
   clear HO158 BK148 BK149 HB
   have HO158 := n0_
   have HO152 := n1_
   have BK148 := n2_
   have BK149 := n3_
   have HB := n4_
   clear n0_ n1_ n2_ n3_ n4_ hb ho10
   refine hK.out _ _ ⟨(bc_ BK148.out 0).trans rfl, (bc_ BK148.out 1).trans rfl⟩ (fun hHeld => ?_)
   clear hK K
   refine norm_ (a' := ?_) ?_ ?_
   rotate_left
   ·show Act.put _ (some 3) _ = _
    simp only [pS]
    rfl
   refine one_ (i := 3) (N := some 6) #[T, T, T, T, T, T, T, F, F, F] rfl rfl (one_of HT_.out (by kernel_rfl)) (by decide) (fun K hK => ?_)
   refine Kd.R_append_rows_step (Kd.int .i64) (w0 := w) w.heap.size (by rfl) (.tmp 3) (.tmp 5) 22 3 (.int .i64 0) 8 rfl Try.underlying22 info3 rfl (by decide) (by omega) v151 y150 l0_0 _ _ _ (fun k_ => some k_ ≠ (v157 : Value).ownBlock) (fun _ => False) rfl rfl ?aO ?aR (fun _ _ h => h) (fun _ h => h.elim) ?aF ?aB ?aS ?aL ?_
   (case aR => repeat (first | exact (Kd.C_below HR0_0.out HB.out) | (with_reducible refine Kd.C_alloc ?_ _) | (with_reducible refine Kd.C_drewN ?_ _) | (with_reducible refine Kd.C_drew ?_)))
   (case aB => exact (by repeat (first | (with_reducible first | exact HB.out | apply ba_ | apply bd_ | apply be_ | refine bs_ ?_ GE148.out | refine bs_ ?_ GE149.out) | exact HB.out)))
   (case aF => exact (fun k_ hk => Kd.fresh' (Kd.R_lt (rY HO158.out)) k_ hk))
   (case aO => exact (by (repeat apply rX); exact Kd.R_mono HO152.out (fun _ hk => hk.2)))
   (case aS => exact (bz_ (by repeat (first | (with_reducible first | exact HB.out | apply ba_ | apply bd_ | apply be_ | refine bs_ ?_ GE148.out | refine bs_ ?_ GE149.out) | exact HB.out))))
   (case aL => have := LMc2.out; omega)
   intro v154 w11 ho hb hg hat
   rw [← Ny153.out] at ho
   have n0_ := A_.mk (blk_grown (g := gb148) (o := .cells #[.slice A0_0 l0_0.length c0_0, .slice A0_1 l0_1.length c0_1] 30 (0, 0)) (bY BK148.out) hg (Kd.R_ne HO152.out BK148.out (by decide)))
   have n1_ := A_.mk (blk_grown (g := gb149) (o := .cells #[.slice none 0 0, .slice none 0 0] 30 (0, 0)) (bY BK149.out) hg (Kd.R_ne HO152.out BK149.out (by decide)))
   have n2_ := A_.mk (Kd.R_after (ok := (fun _ => True)) (rY HO158.out) hg hat)
   have n3_ := A_.mk (hb)
   have n4_ := A_.mk (ho)
   clear BK148 BK149 HO158 HB HO152
   have BK148 := n0_
   have BK149 := n1_
   have HO158 := n2_
   have HB := n3_
   have HO155 := n4_
   clear n0_ n1_ n2_ n3_ n4_ ho hb hg hat
   refine hK.out _ _ ⟨(bc_ BK148.out 0).trans rfl, (bc_ BK148.out 1).trans rfl⟩ (fun hHeld => ?_)
   clear hK K
   refine norm_ (a' := ?_) ?_ ?_
   rotate_left
   ·show Act.put _ (some 6) _ = _
    simp only [pS]
    rfl
   exact norm_ (by simp only [putAll, Act.put, List.setIfInBounds_toArray, List.set_cons_zero, List.set_cons_succ]) (hCont (v151, v154, v157) _ ⟨hHeld, (rY HO155.out), (by (repeat apply rX); exact Kd.R_mono HO158.out (fun _ hk => hk.2)), (bY BK148.out), (bY BK149.out), (by repeat (first | (with_reducible first | exact HB.out | apply ba_ | apply bd_ | apply be_ | refine bs_ ?_ GE148.out | refine bs_ ?_ GE149.out) | exact HB.out))⟩)
 rintro ⟨v151, v154, v157⟩ w12 ⟨hS_, h0_, h1_, h2_, h3_, h4_⟩
 have n0_ : A_ (Kd.R (Kd.int .i64) 3 w12 w.heap.size (fun k_ => some k_ ≠ (v157 : Value).ownBlock) v154 y153) := ⟨h0_⟩
 have n1_ : A_ (Kd.R (Kd.int .i64) 3 w12 w.heap.size (fun k_ => some k_ ≠ (v154 : Value).ownBlock) v157 y156) := ⟨h1_⟩
 have n2_ : A_ (w12.heap[gb148]? = some (.cells #[.slice A0_0 l0_0.length c0_0, .slice A0_1 l0_1.length c0_1] 30 (0, 0))) := ⟨h2_⟩
 have n3_ : A_ (w12.heap[gb149]? = some (.cells #[.slice none 0 0, .slice none 0 0] 30 (0, 0))) := ⟨h3_⟩
 have n4_ : A_ (Below w.heap.size w w12) := ⟨h4_⟩
 clear BK148 BK149 HB h0_ h1_ h2_ h3_ h4_
 have HO155 := n0_
 have HO158 := n1_
 have BK148 := n2_
 have BK149 := n3_
 have HB := n4_
 clear n0_ n1_ n2_ n3_ n4_
 have hHeld : w12.cell? ⟨gb148, 0, none⟩ = some (.slice A0_0 l0_0.length c0_0) ∧ w12.cell? ⟨gb148, 1, none⟩ = some (.slice A0_1 l0_1.length c0_1) := hS_
 refine norm_ (a' := ?_) ?_ ?_
 rotate_left
 ·simp only [putAll, Act.put, List.setIfInBounds_toArray, List.set_cons_zero, List.set_cons_succ]
  rfl
 refine one_ (i := 7) (N := some 10) #[T, T, T, T, T, T, T, T, F, F] rfl rfl (one_of HT_.out (by kernel_rfl)) (by decide) (fun K hK => ?_)
 refine Kd.R_append_rows_step (Kd.int .i64) (w0 := w) w.heap.size (by rfl) (.tmp 7) (.tmp 9) 22 3 (.int .i64 0) 8 rfl Try.underlying22 info3 rfl (by decide) (by omega) v157 y156 l0_1 _ _ _ (fun k_ => some k_ ≠ (v154 : Value).ownBlock) (fun _ => False) rfl rfl ?aO ?aR (fun _ _ h => h) (fun _ h => h.elim) ?aF ?aB ?aS ?aL ?_
 (case aR => repeat (first | exact (Kd.C_below HR0_1.out HB.out) | (with_reducible refine Kd.C_alloc ?_ _) | (with_reducible refine Kd.C_drewN ?_ _) | (with_reducible refine Kd.C_drew ?_)))
 (case aB => exact (by repeat (first | (with_reducible first | exact HB.out | apply ba_ | apply bd_ | apply be_ | refine bs_ ?_ GE148.out | refine bs_ ?_ GE149.out) | exact HB.out)))
 (case aF => exact (fun k_ hk => Kd.fresh' (Kd.R_lt (rY HO155.out)) k_ hk))
 (case aO => exact (rY HO158.out))
 (case aS => exact (bz_ (by repeat (first | (with_reducible first | exact HB.out | apply ba_ | apply bd_ | apply be_ | refine bs_ ?_ GE148.out | refine bs_ ?_ GE149.out) | exact HB.out))))
 (case aL => have := LMc3.out; omega)
 intro v160 w13 ho hb hg hat
 rw [← Ny159.out] at ho
 have n0_ := A_.mk (blk_grown (g := gb148) (o := .cells #[.slice A0_0 l0_0.length c0_0, .slice A0_1 l0_1.length c0_1] 30 (0, 0)) (bY BK148.out) hg (Kd.R_ne HO158.out BK148.out (by decide)))
 have n1_ := A_.mk (blk_grown (g := gb149) (o := .cells #[.slice none 0 0, .slice none 0 0] 30 (0, 0)) (bY BK149.out) hg (Kd.R_ne HO158.out BK149.out (by decide)))
 have n2_ := A_.mk (Kd.R_after (ok := (fun _ => True)) (by (repeat apply rX); exact Kd.R_mono HO155.out (fun _ hk => ⟨trivial, hk⟩)) hg hat)
 have n3_ := A_.mk (hb)
 have n4_ := A_.mk (ho)
 clear BK148 BK149 HO155 HB HO158
 have BK148 := n0_
 have BK149 := n1_
 have HO155 := n2_
 have HB := n3_
 have HO161 := n4_
 clear n0_ n1_ n2_ n3_ n4_ ho hb hg hat
 obtain ⟨Ao14, co14, eo14⟩ := Kd.R_slice HO161.out
 (first | subst eo14 | (injection eo14 with f1_ f2_ f3_; have f4_ := f1_.symm; have f5_ := f3_.symm; clear f1_ f2_ f3_; subst f4_; subst f5_))
 obtain ⟨Ao15, co15, eo15⟩ := Kd.R_slice HO155.out
 (first | subst eo15 | (injection eo15 with f1_ f2_ f3_; have f4_ := f1_.symm; have f5_ := f3_.symm; clear f1_ f2_ f3_; subst f4_; subst f5_))
 refine hK.out _ _ ⟨(bc_ BK148.out 0).trans rfl, (bc_ BK148.out 1).trans rfl⟩ (fun hHeld => ?_)
 clear hK K
 refine norm_ (a' := ?_) ?_ ?_
 rotate_left
 ·show Act.put _ (some 10) _ = _
  simp only [pS]
  rfl
 refine pr_ (i := 8) (N := some 11) #[T, T, T, T, T, T, T, T, T, F] rfl HT_.out ?_
 refine one_ (i := 9) (N := none) #[T, T, T, T, T, T, T, T, T, T] rfl rfl (one_of HT_.out (by kernel_rfl)) (by decide) (fun K hK => ?_)
 have hs16 : w13.cell? ⟨gb149, 0, none⟩ = some (.slice none 0 0) := (bc_ BK149.out 0).trans rfl
 have hfs16 := bf_ BK149.out 0
 have hns16_0 := NB148_149.out
 have hms16_0 := NB149_148.out
 have hs17 : w13.cell? ⟨gb149, 1, none⟩ = some (.slice none 0 0) := (bc_ BK149.out 1).trans rfl
 have hfs17 := bf_ BK149.out 1
 have hns17_0 := NB148_149.out
 have hms17_0 := NB149_148.out
 refine skip_ (w1 := ?_) (by rfl) rfl ?_ ?_
 rotate_left
 ·go_simp
  rfl
 refine hK.out _ _ ⟨((cell_far (p := ⟨gb149, _, none⟩) NB148_149.out _).trans (((cell_far (p := ⟨gb149, _, none⟩) NB148_149.out _).trans (hHeld.1)))), ((cell_far (p := ⟨gb149, _, none⟩) NB148_149.out _).trans (((cell_far (p := ⟨gb149, _, none⟩) NB148_149.out _).trans (hHeld.2))))⟩ (fun hHeld => ?_)
 clear hK K
 refine done_ (done_of HT_.out (by kernel_rfl)) ?_
 try go_wp2
 refine bodyPost_ret (results_cell_row rfl _ _ gb149 30 #[.slice Ao15 y153.length co15, .slice Ao14 y159.length co14] (0, 0) _ rfl (by (repeat apply bX); refine bp_ (cs := #[.slice Ao15 y153.length co15, .slice none 0 0]) ?_ 1 _ rfl; (repeat apply bX); refine bp_ (cs := #[.slice none 0 0, .slice none 0 0]) ?_ 0 _ rfl; (repeat apply bX); exact BK149.out) Try.underlying30 rfl (by kernel_rfl)) rfl ?_
 exact ⟨_, _, by first | rfl | (simp [errW_none, errW_some] <;> rfl) | (simp [*, errW_none, errW_some] <;> rfl), by (repeat apply rX); exact Kd.R_mono (Kd.R_far (p := ⟨gb149, 1, none⟩) (Kd.R_far (p := ⟨gb149, 0, none⟩) (Kd.R_types HO155.out BK149.out (by decide)) (fun _ hk => hk.2) (.slice Ao15 y153.length co15)) (fun _ hk => hk.2) (.slice Ao14 y159.length co14)) (fun _ hk => hk.1.2), by (repeat apply rX); exact Kd.R_mono (Kd.R_far (p := ⟨gb149, 1, none⟩) (Kd.R_far (p := ⟨gb149, 0, none⟩) (Kd.R_types HO161.out BK149.out (by decide)) (fun _ hk => hk.2) (.slice Ao15 y153.length co15)) (fun _ hk => hk.2) (.slice Ao14 y159.length co14)) (fun _ hk => hk.1), by repeat (first | (with_reducible first | exact HB.out | apply ba_ | apply bd_ | apply be_ | refine bs_ ?_ GE148.out | refine bs_ ?_ GE149.out) | exact HB.out)⟩
/-! ### spec_IsId: function 91 -/
def spec_IsId.f (a0 : Int) : Option (Bool) := (spec_l01In.f a0 0 255).bind fun t162 => (some t162)
set_option maxHeartbeats 8000000 in
set_option maxRecDepth 100000 in
theorem spec_IsId.calls (a0 : Int) (r : Bool) (w : World) (h : spec_IsId.f a0 = some r) :
  Calls Try.prog 91 #[.int .i64 a0] w fun e w' => e = .returned (.bool r) ∧ Drawn0 w w' := by
 have H : ((spec_l01In.f a0 0 255).bind fun t162 => (some t162)) = some r := h
 clear h
 replace H := ob_ H
 obtain ⟨t162, A20, H⟩ := H
 have A2 := A_.mk A20
 clear A20
 obtain rfl := Option.some.inj H
 go_enter Try.func91, Try.ntmps91
 go_wp2_with (first | ((with_reducible refine gc_ (f := 49) rfl ?_); refine gl_ (some 4) Try.func49 #[.int .i64 a0, .int .i64 0, .int .i64 255] ?_; (with_reducible refine (spec_l01In.calls a0 0 255 t162 _ A2.out).mono ?_); rintro e w' ⟨rfl, ⟨nd, rfl⟩⟩; refine ⟨_, rfl, ?_⟩))
 go_ret
 exact ⟨by first | rfl | (simp; done) | (simp [*]; done), by repeat (first | exact Drawn0.refl _ | apply Drawn0.step)⟩

/-! ### spec_l04Words: function 92 -/
def spec_l04Words.l0 : Nat → List Int → Int → Option (Bool)
 | 0, _, _ => none
 | k + 1, x0, x3 => if x3 < (x0.length : Int) then (if 0 ≤ x3 then ((spec_l01In.f (rd x0 x3) 0 65535).bind fun t164 => (if t164 = true then (spec_l04Words.l0 k x0 (wrap64 (x3 + 1))) else (some false))) else (none)) else (some true)
def spec_l04Words.f (k : Nat) (l0 : List Int) : Option (Bool) := spec_l04Words.l0 k l0 0
set_option maxHeartbeats 8000000 in
set_option maxRecDepth 100000 in
theorem spec_l04Words.calls (k : Nat) (A0 : Option Addr) (c0 : Nat) (l0 : List Int) (r : Bool) (w : World) (hr0 : Kd.C (Kd.int .i64) w A0 l0.length l0) (hc0 : l0.length ≤ c0) (h : spec_l04Words.f k l0 = some r) :
  Calls Try.prog 92 #[.slice A0 l0.length c0] w fun e w' => e = .returned (.bool r) ∧ Drawn0 w w' := by
 have HR0 := A_.mk hr0
 have HC0 := A_.mk hc0
 clear hr0 hc0
 have H : (spec_l04Words.l0 k l0 0) = some r := h
 clear h
 have H' := A_.mk H
 clear H
 go_enter Try.func92, Try.ntmps92
 go_wp2
 go_loopg [3] k (fun kq v3 w' => ∃ (x3_1 : Int), v3 = .int .i64 x3_1 ∧ A_ (spec_l04Words.l0 kq l0 x3_1 = some r) ∧ A_ (kq ≤ k) ∧ Drawn0 w w')
 case atStart => exact ⟨(0), (by first | rfl | (simp; done) | (simp [*]; done)), H', ⟨Nat.le_refl _⟩, by repeat (first | exact Drawn0.refl _ | apply Drawn0.step)⟩
 case round =>
  clear H'
  obtain ⟨x3_1, rfl, HA, HK1, ⟨m1, rfl⟩⟩ := hrel
  cases gk with
  | zero => exact absurd HA.out (by simp [spec_l04Words.l0])
  | succ k1 =>
   have H := HA.out
   clear HA
   simp only [spec_l04Words.l0] at H
   by_cases c2 : x3_1 < (l0.length : Int)
   rotate_left
   ·rw [if_neg c2] at H
    have c2b0 : decide (x3_1 < (l0.length : Int)) = false := decide_eq_false c2
    clear c2
    obtain rfl := Option.some.inj H
    go_wp2
    go_ret
    exact ⟨by first | rfl | (simp; done) | (simp [*]; done), by repeat (first | exact Drawn0.refl _ | apply Drawn0.step)⟩
   rw [if_pos c2] at H
   have c2b0 : decide (x3_1 < (l0.length : Int)) = true := decide_eq_true c2
   clear c2
   by_cases c3 : 0 ≤ x3_1
   rotate_left
   ·rw [if_neg c3] at H
    exact absurd H (by simp)
   rw [if_pos c3] at H
   have c3b0 : decide (0 ≤ x3_1) = true := decide_eq_true c3
   clear c3
   replace H := ob_ H
   obtain ⟨t164, A40, H⟩ := H
   have A4 := A_.mk A40
   clear A40
   by_cases c5 : t164 = true
   rotate_left
   ·replace c5 := Bool.eq_false_iff.mpr c5
    subst c5
    have H1 : (some false) = some r := by rw [if_neg (show ¬ (false = true) by decide)] at H; exact H
    clear H
    have H := H1
    clear H1
    obtain rfl := Option.some.inj H
    have p163 : 0 ≤ (x3_1 : Int) := od_
    have q163 : x3_1 < (l0.length : Int) := od_
    obtain ⟨ad163, e163, hx163_0⟩ := Kd.at_int HR0.out x3_1 p163 q163
    cases e163
    replace p163 := eq_true p163
    replace q163 := eq_true q163
    go_wp2_with (first | ((with_reducible refine gc_ (f := 49) rfl ?_); refine gl_ (some 14) Try.func49 #[.int .i64 (rd l0 x3_1), .int .i64 0, .int .i64 65535] ?_; (with_reducible refine (spec_l01In.calls (rd l0 x3_1) 0 65535 false _ A4.out).mono ?_); rintro e w' ⟨rfl, ⟨nd, rfl⟩⟩; refine ⟨_, rfl, ?_⟩))
    go_ret
    exact ⟨by first | rfl | (simp; done) | (simp [*]; done), by repeat (first | exact Drawn0.refl _ | apply Drawn0.step)⟩
   subst c5
   have H1 : (spec_l04Words.l0 k1 l0 (wrap64 (x3_1 + 1))) = some r := by rw [if_pos rfl] at H; exact H
   clear H
   have H := H1
   clear H1
   have H' := A_.mk H
   clear H
   have p163 : 0 ≤ (x3_1 : Int) := od_
   have q163 : x3_1 < (l0.length : Int) := od_
   obtain ⟨ad163, e163, hx163_0⟩ := Kd.at_int HR0.out x3_1 p163 q163
   cases e163
   replace p163 := eq_true p163
   replace q163 := eq_true q163
   go_wp2_with (first | ((with_reducible refine gc_ (f := 49) rfl ?_); refine gl_ (some 14) Try.func49 #[.int .i64 (rd l0 x3_1), .int .i64 0, .int .i64 65535] ?_; (with_reducible refine (spec_l01In.calls (rd l0 x3_1) 0 65535 true _ A4.out).mono ?_); rintro e w' ⟨rfl, ⟨nd, rfl⟩⟩; refine ⟨_, rfl, ?_⟩))
   go_roundg k1
   case measure => have := HK1.out; omega
   case rel => exact ⟨(wrap64 (x3_1 + 1)), (by first | rfl | (simp; done) | (simp [*]; done)), H', ⟨by have := HK1.out; omega⟩, by repeat (first | exact Drawn0.refl _ | apply Drawn0.step)⟩
end Go.Proofs.Ytlombfmebinjbaa.PFnExactFreePacket
