-- Written by a program of this session (wip/xp): not trusted, Lean checks it.
import Derived.Test.YtmdehehgmnihpaaPFnLinkStepsx0
import Derived.Test.YtmdehehgmnihpaaPFnLinkStepsx2
namespace Go.Proofs.Ytmdehehgmnihpaa.PFnLinkSteps
open Go.RowKit Go.Proofs.YtmdehehgmnihpaaW.PrintWords Go.Proofs.YtmdehehgmnihpaaW.PrintLast Go.Proofs.YtmdehehgmnihpaaW.PrintMore
attribute [local go_sem] max2_int min2_int max_two min_two max_three min_three max_four min_four   -- for this text's walks alone
set_option linter.unusedVariables false
set_option linter.unusedSimpArgs false

/-! ### slices_IndexFunc_int_int__impl_LinkOk_1: function 39 -/
def slices_IndexFunc_int_int__impl_LinkOk_1.l0 : Nat → List Int → Int → Int → Option (Int)
 | 0, _, _, _ => none
 | k + 1, x0, x7, x8 => if x8 < x7 then (if 0 ≤ x8 then (if x8 < (x0.length : Int) then ((impl_LinkOk_1.f (rd x0 x8)).bind fun t193 => (if t193 = true then (some x8) else (slices_IndexFunc_int_int__impl_LinkOk_1.l0 k x0 x7 (wrap64 (x8 + 1))))) else (none)) else (none)) else (some (-1))
def slices_IndexFunc_int_int__impl_LinkOk_1.f (k : Nat) (l0 : List Int)  : Option (Int) := slices_IndexFunc_int_int__impl_LinkOk_1.l0 k l0 (l0.length : Int) 0
set_option maxHeartbeats 8000000 in
set_option maxRecDepth 100000 in
theorem slices_IndexFunc_int_int__impl_LinkOk_1.calls (k : Nat) (A0 : Option Addr) (c0 : Nat) (l0 : List Int)  (r : Int) (w : World) (hr0 : Kd.C (Kd.int .i64) w A0 l0.length l0) (hc0 : l0.length ≤ c0) (h : slices_IndexFunc_int_int__impl_LinkOk_1.f k l0 = some r) :
  Calls Try.prog 39 #[.slice A0 l0.length c0, .func (.func 18) #[] #[]] w fun e w' => e = .returned (.int .i64 r) ∧ Drawn0 w w' := by
 have HR0 := A_.mk hr0
 have HC0 := A_.mk hc0
 clear hr0 hc0
 have H : (slices_IndexFunc_int_int__impl_LinkOk_1.l0 k l0 (l0.length : Int) 0) = some r := h
 clear h
 have H' := A_.mk H
 clear H
 go_enter Try.func39, Try.ntmps39
 go_wp2
 go_loopg [8] k (fun kq v8 w' => ∃ (x8_1 : Int), v8 = .int .i64 x8_1 ∧ A_ (slices_IndexFunc_int_int__impl_LinkOk_1.l0 kq l0 (l0.length : Int) x8_1 = some r) ∧ A_ (kq ≤ k) ∧ Drawn0 w w')
 case atStart => exact ⟨(0), (by first | rfl | (simp; done) | (simp [*]; done)), H', ⟨Nat.le_refl _⟩, by repeat (first | exact Drawn0.refl _ | apply Drawn0.step)⟩
 case round =>
  clear H'
  obtain ⟨x8_1, rfl, HA, HK1, ⟨m1, rfl⟩⟩ := hrel
  cases gk with
  | zero => exact absurd HA.out (by simp [slices_IndexFunc_int_int__impl_LinkOk_1.l0])
  | succ k1 =>
   have H := HA.out
   clear HA
   simp only [slices_IndexFunc_int_int__impl_LinkOk_1.l0] at H
   by_cases c3 : x8_1 < (l0.length : Int)
   rotate_left
   ·rw [if_neg c3] at H
    have c3b0 : decide (x8_1 < (l0.length : Int)) = false := decide_eq_false c3
    clear c3
    obtain rfl := Option.some.inj H
    go_wp2
    go_ret
    exact ⟨by first | rfl | (simp; done) | (simp [*]; done), by repeat (first | exact Drawn0.refl _ | apply Drawn0.step)⟩
   rw [if_pos c3] at H
   have c3b0 : decide (x8_1 < (l0.length : Int)) = true := decide_eq_true c3
   clear c3
   by_cases c4 : 0 ≤ x8_1
   rotate_left
   ·rw [if_neg c4] at H
    exact absurd H (by simp)
   rw [if_pos c4] at H
   have c4b0 : decide (0 ≤ x8_1) = true := decide_eq_true c4
   clear c4
   by_cases c5 : x8_1 < (l0.length : Int)
   rotate_left
   ·rw [if_neg c5] at H
    exact absurd H (by simp)
   rw [if_pos c5] at H
   have c5b0 : decide (x8_1 < (l0.length : Int)) = true := decide_eq_true c5
   clear c5
   replace H := ob_ H
   obtain ⟨t193, A60, H⟩ := H
   have A6 := A_.mk A60
   clear A60
   by_cases c7 : t193 = true
   ·subst c7
    have H1 : (some x8_1) = some r := by rw [if_pos rfl] at H; exact H
    clear H
    have H := H1
    clear H1
    obtain rfl := Option.some.inj H
    have p192 : 0 ≤ (x8_1 : Int) := od_
    have q192 : x8_1 < (l0.length : Int) := od_
    obtain ⟨ad192, e192, hx192_0⟩ := Kd.at_int HR0.out x8_1 p192 q192
    cases e192
    replace p192 := eq_true p192
    replace q192 := eq_true q192
    go_wp2_with (first | (go_at_call 18; (with_reducible refine (impl_LinkOk_1.calls (rd l0 x8_1) true _ A6.out).mono ?_); rintro e w' ⟨rfl, ⟨nd, rfl⟩⟩))
    go_ret
    exact ⟨by first | rfl | (simp; done) | (simp [*]; done), by repeat (first | exact Drawn0.refl _ | apply Drawn0.step)⟩
   replace c7 := Bool.eq_false_iff.mpr c7
   subst c7
   have H1 : (slices_IndexFunc_int_int__impl_LinkOk_1.l0 k1 l0 (l0.length : Int) (wrap64 (x8_1 + 1))) = some r := by rw [if_neg (show ¬ (false = true) by decide)] at H; exact H
   clear H
   have H := H1
   clear H1
   have H' := A_.mk H
   clear H
   have p192 : 0 ≤ (x8_1 : Int) := od_
   have q192 : x8_1 < (l0.length : Int) := od_
   obtain ⟨ad192, e192, hx192_0⟩ := Kd.at_int HR0.out x8_1 p192 q192
   cases e192
   replace p192 := eq_true p192
   replace q192 := eq_true q192
   go_wp2_with (first | (go_at_call 18; (with_reducible refine (impl_LinkOk_1.calls (rd l0 x8_1) false _ A6.out).mono ?_); rintro e w' ⟨rfl, ⟨nd, rfl⟩⟩))
   go_roundg k1
   case measure => have := HK1.out; omega
   case rel => exact ⟨(wrap64 (x8_1 + 1)), (by first | rfl | (simp; done) | (simp [*]; done)), H', ⟨by have := HK1.out; omega⟩, by repeat (first | exact Drawn0.refl _ | apply Drawn0.step)⟩
/-! ### slices_ContainsFunc_int_int__impl_LinkOk_1: function 17 -/
def slices_ContainsFunc_int_int__impl_LinkOk_1.f (k : Nat) (l0 : List Int)  : Option (Bool) := (slices_IndexFunc_int_int__impl_LinkOk_1.f k l0).bind fun t194 => (some (decide (t194 ≥ 0)))
set_option maxHeartbeats 8000000 in
set_option maxRecDepth 100000 in
theorem slices_ContainsFunc_int_int__impl_LinkOk_1.calls (k : Nat) (A0 : Option Addr) (c0 : Nat) (l0 : List Int)  (r : Bool) (w : World) (hr0 : Kd.C (Kd.int .i64) w A0 l0.length l0) (hc0 : l0.length ≤ c0) (h : slices_ContainsFunc_int_int__impl_LinkOk_1.f k l0 = some r) :
  Calls Try.prog 17 #[.slice A0 l0.length c0, .func (.func 18) #[] #[]] w fun e w' => e = .returned (.bool r) ∧ Drawn0 w w' := by
 have HR0 := A_.mk hr0
 have HC0 := A_.mk hc0
 clear hr0 hc0
 have H : ((slices_IndexFunc_int_int__impl_LinkOk_1.f k l0).bind fun t194 => (some (decide (t194 ≥ 0)))) = some r := h
 clear h
 replace H := ob_ H
 obtain ⟨t194, A30, H⟩ := H
 have A3 := A_.mk A30
 clear A30
 obtain rfl := Option.some.inj H
 go_enter Try.func17, Try.ntmps17
 go_wp2_with (first | ((with_reducible refine gc_ (f := 39) rfl ?_); refine gl_ (some 7) Try.func39 #[.slice A0 l0.length c0, .func (.func 18) #[] #[]] ?_; (with_reducible refine (slices_IndexFunc_int_int__impl_LinkOk_1.calls k _ _ l0  t194 _ ?side1 ?side2 A3.out).mono ?_); (case side1 => exact cY (HR0.out)); (case side2 => exact HC0.out); rintro e w' ⟨rfl, ⟨nd, rfl⟩⟩; refine ⟨_, rfl, ?_⟩))
 go_ret
 exact ⟨by first | rfl | (simp; done) | (simp [*]; done), by repeat (first | exact Drawn0.refl _ | apply Drawn0.step)⟩

/-! ### impl_LinkOk: function 8 -/
def impl_LinkOk.f (k : Nat) (a0_0 : Int) (l0_1 : List (S66)) (a0_2 : Int) (a0_3 : Int) (l0_4 : List (List Int)) (l0_5 : List (List Int)) (l0_6 : List Int) : Option (Bool) := (impl_SenderOk.f k a0_0 l0_1 a0_2).bind fun t196 => (if t196 = true then ((impl_ReceiverOk.f k a0_3 l0_4).bind fun t197 => (if t197 = true then ((impl_areLists.f k l0_5).bind fun t198 => (if t198 = true then (if (l0_5.length : Int) ≤ 8 then (if (l0_6.length : Int) ≤ 8 then ((slices_ContainsFunc_int_int__impl_LinkOk_1.f k l0_6).bind fun t199 => (some (!t199))) else (some false)) else (some false)) else (some false))) else (some false))) else (some false))
set_option maxHeartbeats 8000000 in
set_option maxRecDepth 100000 in
theorem impl_LinkOk.calls (k : Nat) (a0_0 : Int) (A0_1 : Option Addr) (c0_1 : Nat) (l0_1 : List (S66)) (a0_2 : Int) (a0_3 : Int) (A0_4 : Option Addr) (c0_4 : Nat) (l0_4 : List (List Int)) (A0_5 : Option Addr) (c0_5 : Nat) (l0_5 : List (List Int)) (A0_6 : Option Addr) (c0_6 : Nat) (l0_6 : List Int) (r : Bool) (w : World) (hr0_1 : Kd.C k66 w A0_1 l0_1.length l0_1) (hc0_1 : l0_1.length ≤ c0_1) (hr0_4 : Kd.C (Kd.slice 3 (Kd.int .i64)) w A0_4 l0_4.length l0_4) (hc0_4 : l0_4.length ≤ c0_4) (hr0_5 : Kd.C (Kd.slice 3 (Kd.int .i64)) w A0_5 l0_5.length l0_5) (hc0_5 : l0_5.length ≤ c0_5) (hr0_6 : Kd.C (Kd.int .i64) w A0_6 l0_6.length l0_6) (hc0_6 : l0_6.length ≤ c0_6) (h : impl_LinkOk.f k a0_0 l0_1 a0_2 a0_3 l0_4 l0_5 l0_6 = some r) :
  Calls Try.prog 8 #[.agg #[.int .i64 a0_0, .slice A0_1 l0_1.length c0_1, .int .i64 a0_2, .int .i64 a0_3, .slice A0_4 l0_4.length c0_4, .slice A0_5 l0_5.length c0_5, .slice A0_6 l0_6.length c0_6]] w fun e w' => e = .returned (.bool r) ∧ Below w.heap.size w w' := by
 have hu34 := Try.underlying34
 have hu28 := Try.underlying28
 have hu31 := Try.underlying31
 have HR0_1 := A_.mk hr0_1
 have HC0_1 := A_.mk hc0_1
 clear hr0_1 hc0_1
 have HR0_4 := A_.mk hr0_4
 have HC0_4 := A_.mk hc0_4
 clear hr0_4 hc0_4
 have HR0_5 := A_.mk hr0_5
 have HC0_5 := A_.mk hc0_5
 clear hr0_5 hc0_5
 have HR0_6 := A_.mk hr0_6
 have HC0_6 := A_.mk hc0_6
 clear hr0_6 hc0_6
 have HB := A_.mk (Below.refl w.heap.size w)
 have H : ((impl_SenderOk.f k a0_0 l0_1 a0_2).bind fun t196 => (if t196 = true then ((impl_ReceiverOk.f k a0_3 l0_4).bind fun t197 => (if t197 = true then ((impl_areLists.f k l0_5).bind fun t198 => (if t198 = true then (if (l0_5.length : Int) ≤ 8 then (if (l0_6.length : Int) ≤ 8 then ((slices_ContainsFunc_int_int__impl_LinkOk_1.f k l0_6).bind fun t199 => (some (!t199))) else (some false)) else (some false)) else (some false))) else (some false))) else (some false))) = some r := h
 clear h
 replace H := ob_ H
 obtain ⟨t196, A20, H⟩ := H
 have A2 := A_.mk A20
 clear A20
 by_cases c3 : t196 = true
 rotate_left
 ·replace c3 := Bool.eq_false_iff.mpr c3
  subst c3
  have H1 : (some false) = some r := by rw [if_neg (show ¬ (false = true) by decide)] at H; exact H
  clear H
  have H := H1
  clear H1
  obtain rfl := Option.some.inj H
  go_enter Try.func8, Try.ntmps8
  go_wp2_with (first | ((with_reducible refine gd_ (N := 1) rfl ?_); (try (refine gate_guard (by rfl) ?_; dsimp only)); refine by_ 1 (cs := #[.int .i64 a0_0, .slice A0_1 l0_1.length c0_1, .int .i64 a0_2, .int .i64 a0_3, .slice A0_4 l0_4.length c0_4, .slice A0_5 l0_5.length c0_5, .slice A0_6 l0_6.length c0_6]) (t := 34) ?_; intro gb195 hg w40 hbox hb; have n0_ := A_.mk (bt_ (beY HB.out) hb); have n1_ := A_.mk (hbox); have n2_ := A_.mk ((by rw [hg]; exact (bz_ (beY HB.out)) : w.heap.size ≤ gb195)); have n3_ := A_.mk ((by rw [hg]; exact (bz_ (beY HB.out)) : w.heap.size ≤ gb195)); clear HB; have HB := n0_; have BK195 := n1_; have GW195 := n2_; have GE195 := n3_; clear n0_ n1_ n2_ n3_ hb hbox hg; have hcz41_0 : w40.cell? ⟨gb195, 0, none⟩ = some (.int .i64 a0_0) := (bc_ BK195.out 0).trans rfl; have hcz41_1 : w40.cell? ⟨gb195, 1, none⟩ = some (.slice A0_1 l0_1.length c0_1) := (bc_ BK195.out 1).trans rfl; have hcz41_2 : w40.cell? ⟨gb195, 2, none⟩ = some (.int .i64 a0_2) := (bc_ BK195.out 2).trans rfl; have hcz41_3 : w40.cell? ⟨gb195, 3, none⟩ = some (.int .i64 a0_3) := (bc_ BK195.out 3).trans rfl; have hcz41_4 : w40.cell? ⟨gb195, 4, none⟩ = some (.slice A0_4 l0_4.length c0_4) := (bc_ BK195.out 4).trans rfl; have hcz41_5 : w40.cell? ⟨gb195, 5, none⟩ = some (.slice A0_5 l0_5.length c0_5) := (bc_ BK195.out 5).trans rfl; have hcz41_6 : w40.cell? ⟨gb195, 6, none⟩ = some (.slice A0_6 l0_6.length c0_6) := (bc_ BK195.out 6).trans rfl; have hfz41_0 := bf_ BK195.out 0; have hfz41_1 := bf_ BK195.out 1; have hfz41_2 := bf_ BK195.out 2; have hfz41_3 := bf_ BK195.out 3; have hfz41_4 := bf_ BK195.out 4; have hfz41_5 := bf_ BK195.out 5; have hfz41_6 := bf_ BK195.out 6) | ((with_reducible refine gc_ (f := 14) rfl ?_); refine gl_ (some 5) Try.func14 #[.agg #[.int .i64 a0_0, .slice A0_1 l0_1.length c0_1, .int .i64 a0_2]] ?_; (with_reducible refine (impl_SenderOk.calls k a0_0 _ _ l0_1 a0_2 false _ ?side1 ?side2 A2.out).mono ?_); (case side1 => exact cY ((Kd.C_below HR0_1.out HB.out))); (case side2 => exact HC0_1.out); rintro e w42 ⟨rfl, hb⟩; refine ⟨_, rfl, ?_⟩; have n0_ := A_.mk (bb_ (bY BK195.out) hb); have n1_ := A_.mk (bt_ (by repeat (first | (with_reducible first | exact HB.out | apply ba_ | apply bd_ | apply be_ | refine bs_ ?_ GE195.out) | exact HB.out)) hb); clear BK195 HB; have BK195 := n0_; have HB := n1_; clear n0_ n1_; (try clear hb); (try clear hb2); (try clear hk); (try clear hi)))
  go_ret
  exact ⟨by first | rfl | (simp [errW_none, errW_some] <;> rfl) | (simp [*, errW_none, errW_some] <;> rfl), by repeat (first | (with_reducible first | exact HB.out | apply ba_ | apply bd_ | apply be_ | refine bs_ ?_ GE195.out) | exact HB.out)⟩
 subst c3
 have H1 : ((impl_ReceiverOk.f k a0_3 l0_4).bind fun t197 => (if t197 = true then ((impl_areLists.f k l0_5).bind fun t198 => (if t198 = true then (if (l0_5.length : Int) ≤ 8 then (if (l0_6.length : Int) ≤ 8 then ((slices_ContainsFunc_int_int__impl_LinkOk_1.f k l0_6).bind fun t199 => (some (!t199))) else (some false)) else (some false)) else (some false))) else (some false))) = some r := by rw [if_pos rfl] at H; exact H
 clear H
 have H := H1
 clear H1
 replace H := ob_ H
 obtain ⟨t197, A40, H⟩ := H
 have A4 := A_.mk A40
 clear A40
 by_cases c5 : t197 = true
 rotate_left
 ·replace c5 := Bool.eq_false_iff.mpr c5
  subst c5
  have H1 : (some false) = some r := by rw [if_neg (show ¬ (false = true) by decide)] at H; exact H
  clear H
  have H := H1
  clear H1
  obtain rfl := Option.some.inj H
  go_enter Try.func8, Try.ntmps8
  go_wp2_with (first | ((with_reducible refine gd_ (N := 1) rfl ?_); (try (refine gate_guard (by rfl) ?_; dsimp only)); refine by_ 1 (cs := #[.int .i64 a0_0, .slice A0_1 l0_1.length c0_1, .int .i64 a0_2, .int .i64 a0_3, .slice A0_4 l0_4.length c0_4, .slice A0_5 l0_5.length c0_5, .slice A0_6 l0_6.length c0_6]) (t := 34) ?_; intro gb195 hg w35 hbox hb; have n0_ := A_.mk (bt_ (beY HB.out) hb); have n1_ := A_.mk (hbox); have n2_ := A_.mk ((by rw [hg]; exact (bz_ (beY HB.out)) : w.heap.size ≤ gb195)); have n3_ := A_.mk ((by rw [hg]; exact (bz_ (beY HB.out)) : w.heap.size ≤ gb195)); clear HB; have HB := n0_; have BK195 := n1_; have GW195 := n2_; have GE195 := n3_; clear n0_ n1_ n2_ n3_ hb hbox hg; have hcz36_0 : w35.cell? ⟨gb195, 0, none⟩ = some (.int .i64 a0_0) := (bc_ BK195.out 0).trans rfl; have hcz36_1 : w35.cell? ⟨gb195, 1, none⟩ = some (.slice A0_1 l0_1.length c0_1) := (bc_ BK195.out 1).trans rfl; have hcz36_2 : w35.cell? ⟨gb195, 2, none⟩ = some (.int .i64 a0_2) := (bc_ BK195.out 2).trans rfl; have hcz36_3 : w35.cell? ⟨gb195, 3, none⟩ = some (.int .i64 a0_3) := (bc_ BK195.out 3).trans rfl; have hcz36_4 : w35.cell? ⟨gb195, 4, none⟩ = some (.slice A0_4 l0_4.length c0_4) := (bc_ BK195.out 4).trans rfl; have hcz36_5 : w35.cell? ⟨gb195, 5, none⟩ = some (.slice A0_5 l0_5.length c0_5) := (bc_ BK195.out 5).trans rfl; have hcz36_6 : w35.cell? ⟨gb195, 6, none⟩ = some (.slice A0_6 l0_6.length c0_6) := (bc_ BK195.out 6).trans rfl; have hfz36_0 := bf_ BK195.out 0; have hfz36_1 := bf_ BK195.out 1; have hfz36_2 := bf_ BK195.out 2; have hfz36_3 := bf_ BK195.out 3; have hfz36_4 := bf_ BK195.out 4; have hfz36_5 := bf_ BK195.out 5; have hfz36_6 := bf_ BK195.out 6) | ((with_reducible refine gc_ (f := 14) rfl ?_); refine gl_ (some 5) Try.func14 #[.agg #[.int .i64 a0_0, .slice A0_1 l0_1.length c0_1, .int .i64 a0_2]] ?_; (with_reducible refine (impl_SenderOk.calls k a0_0 _ _ l0_1 a0_2 true _ ?side1 ?side2 A2.out).mono ?_); (case side1 => exact cY ((Kd.C_below HR0_1.out HB.out))); (case side2 => exact HC0_1.out); rintro e w37 ⟨rfl, hb⟩; refine ⟨_, rfl, ?_⟩; have n0_ := A_.mk (bb_ (bY BK195.out) hb); have n1_ := A_.mk (bt_ (by repeat (first | (with_reducible first | exact HB.out | apply ba_ | apply bd_ | apply be_ | refine bs_ ?_ GE195.out) | exact HB.out)) hb); clear BK195 HB; have BK195 := n0_; have HB := n1_; clear n0_ n1_; (try clear hb); (try clear hb2); (try clear hk); (try clear hi); have hcz38_0 : w37.cell? ⟨gb195, 0, none⟩ = some (.int .i64 a0_0) := (bc_ BK195.out 0).trans rfl; have hcz38_1 : w37.cell? ⟨gb195, 1, none⟩ = some (.slice A0_1 l0_1.length c0_1) := (bc_ BK195.out 1).trans rfl; have hcz38_2 : w37.cell? ⟨gb195, 2, none⟩ = some (.int .i64 a0_2) := (bc_ BK195.out 2).trans rfl; have hcz38_3 : w37.cell? ⟨gb195, 3, none⟩ = some (.int .i64 a0_3) := (bc_ BK195.out 3).trans rfl; have hcz38_4 : w37.cell? ⟨gb195, 4, none⟩ = some (.slice A0_4 l0_4.length c0_4) := (bc_ BK195.out 4).trans rfl; have hcz38_5 : w37.cell? ⟨gb195, 5, none⟩ = some (.slice A0_5 l0_5.length c0_5) := (bc_ BK195.out 5).trans rfl; have hcz38_6 : w37.cell? ⟨gb195, 6, none⟩ = some (.slice A0_6 l0_6.length c0_6) := (bc_ BK195.out 6).trans rfl; have hfz38_0 := bf_ BK195.out 0; have hfz38_1 := bf_ BK195.out 1; have hfz38_2 := bf_ BK195.out 2; have hfz38_3 := bf_ BK195.out 3; have hfz38_4 := bf_ BK195.out 4; have hfz38_5 := bf_ BK195.out 5; have hfz38_6 := bf_ BK195.out 6) | (go_at_call 15; (with_reducible refine (impl_ReceiverOk.calls k a0_3 _ _ l0_4 false _ ?side1 ?side2 A4.out).mono ?_); (case side1 => exact cY ((Kd.C_below HR0_4.out HB.out))); (case side2 => exact HC0_4.out); rintro e w39 ⟨rfl, hb⟩; have n0_ := A_.mk (bb_ (bY BK195.out) hb); have n1_ := A_.mk (bt_ (by repeat (first | (with_reducible first | exact HB.out | apply ba_ | apply bd_ | apply be_ | refine bs_ ?_ GE195.out) | exact HB.out)) hb); clear BK195 HB; have BK195 := n0_; have HB := n1_; clear n0_ n1_; (try clear hb); (try clear hb2); (try clear hk); (try clear hi)))
  go_ret
  exact ⟨by first | rfl | (simp [errW_none, errW_some] <;> rfl) | (simp [*, errW_none, errW_some] <;> rfl), by repeat (first | (with_reducible first | exact HB.out | apply ba_ | apply bd_ | apply be_ | refine bs_ ?_ GE195.out) | exact HB.out)⟩
 subst c5
 have H1 : ((impl_areLists.f k l0_5).bind fun t198 => (if t198 = true then (if (l0_5.length : Int) ≤ 8 then (if (l0_6.length : Int) ≤ 8 then ((slices_ContainsFunc_int_int__impl_LinkOk_1.f k l0_6).bind fun t199 => (some (!t199))) else (some false)) else (some false)) else (some false))) = some r := by rw [if_pos rfl] at H; exact H
 clear H
 have H := H1
 clear H1
 replace H := ob_ H
 obtain ⟨t198, A60, H⟩ := H
 have A6 := A_.mk A60
 clear A60
 by_cases c7 : t198 = true
 rotate_left
 ·replace c7 := Bool.eq_false_iff.mpr c7
  subst c7
  have H1 : (some false) = some r := by rw [if_neg (show ¬ (false = true) by decide)] at H; exact H
  clear H
  have H := H1
  clear H1
  obtain rfl := Option.some.inj H
  go_enter Try.func8, Try.ntmps8
  go_wp2_with (first | ((with_reducible refine gd_ (N := 1) rfl ?_); (try (refine gate_guard (by rfl) ?_; dsimp only)); refine by_ 1 (cs := #[.int .i64 a0_0, .slice A0_1 l0_1.length c0_1, .int .i64 a0_2, .int .i64 a0_3, .slice A0_4 l0_4.length c0_4, .slice A0_5 l0_5.length c0_5, .slice A0_6 l0_6.length c0_6]) (t := 34) ?_; intro gb195 hg w29 hbox hb; have n0_ := A_.mk (bt_ (beY HB.out) hb); have n1_ := A_.mk (hbox); have n2_ := A_.mk ((by rw [hg]; exact (bz_ (beY HB.out)) : w.heap.size ≤ gb195)); have n3_ := A_.mk ((by rw [hg]; exact (bz_ (beY HB.out)) : w.heap.size ≤ gb195)); clear HB; have HB := n0_; have BK195 := n1_; have GW195 := n2_; have GE195 := n3_; clear n0_ n1_ n2_ n3_ hb hbox hg; have hcz30_0 : w29.cell? ⟨gb195, 0, none⟩ = some (.int .i64 a0_0) := (bc_ BK195.out 0).trans rfl; have hcz30_1 : w29.cell? ⟨gb195, 1, none⟩ = some (.slice A0_1 l0_1.length c0_1) := (bc_ BK195.out 1).trans rfl; have hcz30_2 : w29.cell? ⟨gb195, 2, none⟩ = some (.int .i64 a0_2) := (bc_ BK195.out 2).trans rfl; have hcz30_3 : w29.cell? ⟨gb195, 3, none⟩ = some (.int .i64 a0_3) := (bc_ BK195.out 3).trans rfl; have hcz30_4 : w29.cell? ⟨gb195, 4, none⟩ = some (.slice A0_4 l0_4.length c0_4) := (bc_ BK195.out 4).trans rfl; have hcz30_5 : w29.cell? ⟨gb195, 5, none⟩ = some (.slice A0_5 l0_5.length c0_5) := (bc_ BK195.out 5).trans rfl; have hcz30_6 : w29.cell? ⟨gb195, 6, none⟩ = some (.slice A0_6 l0_6.length c0_6) := (bc_ BK195.out 6).trans rfl; have hfz30_0 := bf_ BK195.out 0; have hfz30_1 := bf_ BK195.out 1; have hfz30_2 := bf_ BK195.out 2; have hfz30_3 := bf_ BK195.out 3; have hfz30_4 := bf_ BK195.out 4; have hfz30_5 := bf_ BK195.out 5; have hfz30_6 := bf_ BK195.out 6) | ((with_reducible refine gc_ (f := 14) rfl ?_); refine gl_ (some 5) Try.func14 #[.agg #[.int .i64 a0_0, .slice A0_1 l0_1.length c0_1, .int .i64 a0_2]] ?_; (with_reducible refine (impl_SenderOk.calls k a0_0 _ _ l0_1 a0_2 true _ ?side1 ?side2 A2.out).mono ?_); (case side1 => exact cY ((Kd.C_below HR0_1.out HB.out))); (case side2 => exact HC0_1.out); rintro e w31 ⟨rfl, hb⟩; refine ⟨_, rfl, ?_⟩; have n0_ := A_.mk (bb_ (bY BK195.out) hb); have n1_ := A_.mk (bt_ (by repeat (first | (with_reducible first | exact HB.out | apply ba_ | apply bd_ | apply be_ | refine bs_ ?_ GE195.out) | exact HB.out)) hb); clear BK195 HB; have BK195 := n0_; have HB := n1_; clear n0_ n1_; (try clear hb); (try clear hb2); (try clear hk); (try clear hi); have hcz32_0 : w31.cell? ⟨gb195, 0, none⟩ = some (.int .i64 a0_0) := (bc_ BK195.out 0).trans rfl; have hcz32_1 : w31.cell? ⟨gb195, 1, none⟩ = some (.slice A0_1 l0_1.length c0_1) := (bc_ BK195.out 1).trans rfl; have hcz32_2 : w31.cell? ⟨gb195, 2, none⟩ = some (.int .i64 a0_2) := (bc_ BK195.out 2).trans rfl; have hcz32_3 : w31.cell? ⟨gb195, 3, none⟩ = some (.int .i64 a0_3) := (bc_ BK195.out 3).trans rfl; have hcz32_4 : w31.cell? ⟨gb195, 4, none⟩ = some (.slice A0_4 l0_4.length c0_4) := (bc_ BK195.out 4).trans rfl; have hcz32_5 : w31.cell? ⟨gb195, 5, none⟩ = some (.slice A0_5 l0_5.length c0_5) := (bc_ BK195.out 5).trans rfl; have hcz32_6 : w31.cell? ⟨gb195, 6, none⟩ = some (.slice A0_6 l0_6.length c0_6) := (bc_ BK195.out 6).trans rfl; have hfz32_0 := bf_ BK195.out 0; have hfz32_1 := bf_ BK195.out 1; have hfz32_2 := bf_ BK195.out 2; have hfz32_3 := bf_ BK195.out 3; have hfz32_4 := bf_ BK195.out 4; have hfz32_5 := bf_ BK195.out 5; have hfz32_6 := bf_ BK195.out 6) | (go_at_call 15; (with_reducible refine (impl_ReceiverOk.calls k a0_3 _ _ l0_4 true _ ?side1 ?side2 A4.out).mono ?_); (case side1 => exact cY ((Kd.C_below HR0_4.out HB.out))); (case side2 => exact HC0_4.out); rintro e w33 ⟨rfl, hb⟩; have n0_ := A_.mk (bb_ (bY BK195.out) hb); have n1_ := A_.mk (bt_ (by repeat (first | (with_reducible first | exact HB.out | apply ba_ | apply bd_ | apply be_ | refine bs_ ?_ GE195.out) | exact HB.out)) hb); clear BK195 HB; have BK195 := n0_; have HB := n1_; clear n0_ n1_; (try clear hb); (try clear hb2); (try clear hk); (try clear hi); have hcz34_0 : w33.cell? ⟨gb195, 0, none⟩ = some (.int .i64 a0_0) := (bc_ BK195.out 0).trans rfl; have hcz34_1 : w33.cell? ⟨gb195, 1, none⟩ = some (.slice A0_1 l0_1.length c0_1) := (bc_ BK195.out 1).trans rfl; have hcz34_2 : w33.cell? ⟨gb195, 2, none⟩ = some (.int .i64 a0_2) := (bc_ BK195.out 2).trans rfl; have hcz34_3 : w33.cell? ⟨gb195, 3, none⟩ = some (.int .i64 a0_3) := (bc_ BK195.out 3).trans rfl; have hcz34_4 : w33.cell? ⟨gb195, 4, none⟩ = some (.slice A0_4 l0_4.length c0_4) := (bc_ BK195.out 4).trans rfl; have hcz34_5 : w33.cell? ⟨gb195, 5, none⟩ = some (.slice A0_5 l0_5.length c0_5) := (bc_ BK195.out 5).trans rfl; have hcz34_6 : w33.cell? ⟨gb195, 6, none⟩ = some (.slice A0_6 l0_6.length c0_6) := (bc_ BK195.out 6).trans rfl; have hfz34_0 := bf_ BK195.out 0; have hfz34_1 := bf_ BK195.out 1; have hfz34_2 := bf_ BK195.out 2; have hfz34_3 := bf_ BK195.out 3; have hfz34_4 := bf_ BK195.out 4; have hfz34_5 := bf_ BK195.out 5; have hfz34_6 := bf_ BK195.out 6) | (go_at_call 16; (with_reducible refine (impl_areLists.calls k _ _ l0_5 false _ ?side1 ?side2 A6.out).mono ?_); (case side1 => exact cY ((Kd.C_below HR0_5.out HB.out))); (case side2 => exact HC0_5.out); rintro e w' ⟨rfl, ⟨nd, rfl⟩⟩))
  go_ret
  exact ⟨by first | rfl | (simp [errW_none, errW_some] <;> rfl) | (simp [*, errW_none, errW_some] <;> rfl), by repeat (first | (with_reducible first | exact HB.out | apply ba_ | apply bd_ | apply be_ | refine bs_ ?_ GE195.out) | exact HB.out)⟩
 subst c7
 have H1 : (if (l0_5.length : Int) ≤ 8 then (if (l0_6.length : Int) ≤ 8 then ((slices_ContainsFunc_int_int__impl_LinkOk_1.f k l0_6).bind fun t199 => (some (!t199))) else (some false)) else (some false)) = some r := by rw [if_pos rfl] at H; exact H
 clear H
 have H := H1
 clear H1
 by_cases c8 : (l0_5.length : Int) ≤ 8
 rotate_left
 ·rw [if_neg c8] at H
  have c8b0 : decide ((l0_5.length : Int) ≤ 8) = false := decide_eq_false c8
  have c8b1 : decide (l0_5.length ≤ 8) = false := decide_eq_false (by omega)
  clear c8
  obtain rfl := Option.some.inj H
  go_enter Try.func8, Try.ntmps8
  go_wp2_with (first | ((with_reducible refine gd_ (N := 1) rfl ?_); (try (refine gate_guard (by rfl) ?_; dsimp only)); refine by_ 1 (cs := #[.int .i64 a0_0, .slice A0_1 l0_1.length c0_1, .int .i64 a0_2, .int .i64 a0_3, .slice A0_4 l0_4.length c0_4, .slice A0_5 l0_5.length c0_5, .slice A0_6 l0_6.length c0_6]) (t := 34) ?_; intro gb195 hg w23 hbox hb; have n0_ := A_.mk (bt_ (beY HB.out) hb); have n1_ := A_.mk (hbox); have n2_ := A_.mk ((by rw [hg]; exact (bz_ (beY HB.out)) : w.heap.size ≤ gb195)); have n3_ := A_.mk ((by rw [hg]; exact (bz_ (beY HB.out)) : w.heap.size ≤ gb195)); clear HB; have HB := n0_; have BK195 := n1_; have GW195 := n2_; have GE195 := n3_; clear n0_ n1_ n2_ n3_ hb hbox hg; have hcz24_0 : w23.cell? ⟨gb195, 0, none⟩ = some (.int .i64 a0_0) := (bc_ BK195.out 0).trans rfl; have hcz24_1 : w23.cell? ⟨gb195, 1, none⟩ = some (.slice A0_1 l0_1.length c0_1) := (bc_ BK195.out 1).trans rfl; have hcz24_2 : w23.cell? ⟨gb195, 2, none⟩ = some (.int .i64 a0_2) := (bc_ BK195.out 2).trans rfl; have hcz24_3 : w23.cell? ⟨gb195, 3, none⟩ = some (.int .i64 a0_3) := (bc_ BK195.out 3).trans rfl; have hcz24_4 : w23.cell? ⟨gb195, 4, none⟩ = some (.slice A0_4 l0_4.length c0_4) := (bc_ BK195.out 4).trans rfl; have hcz24_5 : w23.cell? ⟨gb195, 5, none⟩ = some (.slice A0_5 l0_5.length c0_5) := (bc_ BK195.out 5).trans rfl; have hcz24_6 : w23.cell? ⟨gb195, 6, none⟩ = some (.slice A0_6 l0_6.length c0_6) := (bc_ BK195.out 6).trans rfl; have hfz24_0 := bf_ BK195.out 0; have hfz24_1 := bf_ BK195.out 1; have hfz24_2 := bf_ BK195.out 2; have hfz24_3 := bf_ BK195.out 3; have hfz24_4 := bf_ BK195.out 4; have hfz24_5 := bf_ BK195.out 5; have hfz24_6 := bf_ BK195.out 6) | ((with_reducible refine gc_ (f := 14) rfl ?_); refine gl_ (some 5) Try.func14 #[.agg #[.int .i64 a0_0, .slice A0_1 l0_1.length c0_1, .int .i64 a0_2]] ?_; (with_reducible refine (impl_SenderOk.calls k a0_0 _ _ l0_1 a0_2 true _ ?side1 ?side2 A2.out).mono ?_); (case side1 => exact cY ((Kd.C_below HR0_1.out HB.out))); (case side2 => exact HC0_1.out); rintro e w25 ⟨rfl, hb⟩; refine ⟨_, rfl, ?_⟩; have n0_ := A_.mk (bb_ (bY BK195.out) hb); have n1_ := A_.mk (bt_ (by repeat (first | (with_reducible first | exact HB.out | apply ba_ | apply bd_ | apply be_ | refine bs_ ?_ GE195.out) | exact HB.out)) hb); clear BK195 HB; have BK195 := n0_; have HB := n1_; clear n0_ n1_; (try clear hb); (try clear hb2); (try clear hk); (try clear hi); have hcz26_0 : w25.cell? ⟨gb195, 0, none⟩ = some (.int .i64 a0_0) := (bc_ BK195.out 0).trans rfl; have hcz26_1 : w25.cell? ⟨gb195, 1, none⟩ = some (.slice A0_1 l0_1.length c0_1) := (bc_ BK195.out 1).trans rfl; have hcz26_2 : w25.cell? ⟨gb195, 2, none⟩ = some (.int .i64 a0_2) := (bc_ BK195.out 2).trans rfl; have hcz26_3 : w25.cell? ⟨gb195, 3, none⟩ = some (.int .i64 a0_3) := (bc_ BK195.out 3).trans rfl; have hcz26_4 : w25.cell? ⟨gb195, 4, none⟩ = some (.slice A0_4 l0_4.length c0_4) := (bc_ BK195.out 4).trans rfl; have hcz26_5 : w25.cell? ⟨gb195, 5, none⟩ = some (.slice A0_5 l0_5.length c0_5) := (bc_ BK195.out 5).trans rfl; have hcz26_6 : w25.cell? ⟨gb195, 6, none⟩ = some (.slice A0_6 l0_6.length c0_6) := (bc_ BK195.out 6).trans rfl; have hfz26_0 := bf_ BK195.out 0; have hfz26_1 := bf_ BK195.out 1; have hfz26_2 := bf_ BK195.out 2; have hfz26_3 := bf_ BK195.out 3; have hfz26_4 := bf_ BK195.out 4; have hfz26_5 := bf_ BK195.out 5; have hfz26_6 := bf_ BK195.out 6) | (go_at_call 15; (with_reducible refine (impl_ReceiverOk.calls k a0_3 _ _ l0_4 true _ ?side1 ?side2 A4.out).mono ?_); (case side1 => exact cY ((Kd.C_below HR0_4.out HB.out))); (case side2 => exact HC0_4.out); rintro e w27 ⟨rfl, hb⟩; have n0_ := A_.mk (bb_ (bY BK195.out) hb); have n1_ := A_.mk (bt_ (by repeat (first | (with_reducible first | exact HB.out | apply ba_ | apply bd_ | apply be_ | refine bs_ ?_ GE195.out) | exact HB.out)) hb); clear BK195 HB; have BK195 := n0_; have HB := n1_; clear n0_ n1_; (try clear hb); (try clear hb2); (try clear hk); (try clear hi); have hcz28_0 : w27.cell? ⟨gb195, 0, none⟩ = some (.int .i64 a0_0) := (bc_ BK195.out 0).trans rfl; have hcz28_1 : w27.cell? ⟨gb195, 1, none⟩ = some (.slice A0_1 l0_1.length c0_1) := (bc_ BK195.out 1).trans rfl; have hcz28_2 : w27.cell? ⟨gb195, 2, none⟩ = some (.int .i64 a0_2) := (bc_ BK195.out 2).trans rfl; have hcz28_3 : w27.cell? ⟨gb195, 3, none⟩ = some (.int .i64 a0_3) := (bc_ BK195.out 3).trans rfl; have hcz28_4 : w27.cell? ⟨gb195, 4, none⟩ = some (.slice A0_4 l0_4.length c0_4) := (bc_ BK195.out 4).trans rfl; have hcz28_5 : w27.cell? ⟨gb195, 5, none⟩ = some (.slice A0_5 l0_5.length c0_5) := (bc_ BK195.out 5).trans rfl; have hcz28_6 : w27.cell? ⟨gb195, 6, none⟩ = some (.slice A0_6 l0_6.length c0_6) := (bc_ BK195.out 6).trans rfl; have hfz28_0 := bf_ BK195.out 0; have hfz28_1 := bf_ BK195.out 1; have hfz28_2 := bf_ BK195.out 2; have hfz28_3 := bf_ BK195.out 3; have hfz28_4 := bf_ BK195.out 4; have hfz28_5 := bf_ BK195.out 5; have hfz28_6 := bf_ BK195.out 6) | (go_at_call 16; (with_reducible refine (impl_areLists.calls k _ _ l0_5 true _ ?side1 ?side2 A6.out).mono ?_); (case side1 => exact cY ((Kd.C_below HR0_5.out HB.out))); (case side2 => exact HC0_5.out); rintro e w' ⟨rfl, ⟨nd, rfl⟩⟩))
  go_ret
  exact ⟨by first | rfl | (simp [errW_none, errW_some] <;> rfl) | (simp [*, errW_none, errW_some] <;> rfl), by repeat (first | (with_reducible first | exact HB.out | apply ba_ | apply bd_ | apply be_ | refine bs_ ?_ GE195.out) | exact HB.out)⟩
 rw [if_pos c8] at H
 have c8b0 : decide ((l0_5.length : Int) ≤ 8) = true := decide_eq_true c8
 have c8b1 : decide (l0_5.length ≤ 8) = true := decide_eq_true (by omega)
 clear c8
 by_cases c9 : (l0_6.length : Int) ≤ 8
 rotate_left
 ·rw [if_neg c9] at H
  have c9b0 : decide ((l0_6.length : Int) ≤ 8) = false := decide_eq_false c9
  have c9b1 : decide (l0_6.length ≤ 8) = false := decide_eq_false (by omega)
  clear c9
  obtain rfl := Option.some.inj H
  go_enter Try.func8, Try.ntmps8
  go_wp2_with (first | ((with_reducible refine gd_ (N := 1) rfl ?_); (try (refine gate_guard (by rfl) ?_; dsimp only)); refine by_ 1 (cs := #[.int .i64 a0_0, .slice A0_1 l0_1.length c0_1, .int .i64 a0_2, .int .i64 a0_3, .slice A0_4 l0_4.length c0_4, .slice A0_5 l0_5.length c0_5, .slice A0_6 l0_6.length c0_6]) (t := 34) ?_; intro gb195 hg w17 hbox hb; have n0_ := A_.mk (bt_ (beY HB.out) hb); have n1_ := A_.mk (hbox); have n2_ := A_.mk ((by rw [hg]; exact (bz_ (beY HB.out)) : w.heap.size ≤ gb195)); have n3_ := A_.mk ((by rw [hg]; exact (bz_ (beY HB.out)) : w.heap.size ≤ gb195)); clear HB; have HB := n0_; have BK195 := n1_; have GW195 := n2_; have GE195 := n3_; clear n0_ n1_ n2_ n3_ hb hbox hg; have hcz18_0 : w17.cell? ⟨gb195, 0, none⟩ = some (.int .i64 a0_0) := (bc_ BK195.out 0).trans rfl; have hcz18_1 : w17.cell? ⟨gb195, 1, none⟩ = some (.slice A0_1 l0_1.length c0_1) := (bc_ BK195.out 1).trans rfl; have hcz18_2 : w17.cell? ⟨gb195, 2, none⟩ = some (.int .i64 a0_2) := (bc_ BK195.out 2).trans rfl; have hcz18_3 : w17.cell? ⟨gb195, 3, none⟩ = some (.int .i64 a0_3) := (bc_ BK195.out 3).trans rfl; have hcz18_4 : w17.cell? ⟨gb195, 4, none⟩ = some (.slice A0_4 l0_4.length c0_4) := (bc_ BK195.out 4).trans rfl; have hcz18_5 : w17.cell? ⟨gb195, 5, none⟩ = some (.slice A0_5 l0_5.length c0_5) := (bc_ BK195.out 5).trans rfl; have hcz18_6 : w17.cell? ⟨gb195, 6, none⟩ = some (.slice A0_6 l0_6.length c0_6) := (bc_ BK195.out 6).trans rfl; have hfz18_0 := bf_ BK195.out 0; have hfz18_1 := bf_ BK195.out 1; have hfz18_2 := bf_ BK195.out 2; have hfz18_3 := bf_ BK195.out 3; have hfz18_4 := bf_ BK195.out 4; have hfz18_5 := bf_ BK195.out 5; have hfz18_6 := bf_ BK195.out 6) | ((with_reducible refine gc_ (f := 14) rfl ?_); refine gl_ (some 5) Try.func14 #[.agg #[.int .i64 a0_0, .slice A0_1 l0_1.length c0_1, .int .i64 a0_2]] ?_; (with_reducible refine (impl_SenderOk.calls k a0_0 _ _ l0_1 a0_2 true _ ?side1 ?side2 A2.out).mono ?_); (case side1 => exact cY ((Kd.C_below HR0_1.out HB.out))); (case side2 => exact HC0_1.out); rintro e w19 ⟨rfl, hb⟩; refine ⟨_, rfl, ?_⟩; have n0_ := A_.mk (bb_ (bY BK195.out) hb); have n1_ := A_.mk (bt_ (by repeat (first | (with_reducible first | exact HB.out | apply ba_ | apply bd_ | apply be_ | refine bs_ ?_ GE195.out) | exact HB.out)) hb); clear BK195 HB; have BK195 := n0_; have HB := n1_; clear n0_ n1_; (try clear hb); (try clear hb2); (try clear hk); (try clear hi); have hcz20_0 : w19.cell? ⟨gb195, 0, none⟩ = some (.int .i64 a0_0) := (bc_ BK195.out 0).trans rfl; have hcz20_1 : w19.cell? ⟨gb195, 1, none⟩ = some (.slice A0_1 l0_1.length c0_1) := (bc_ BK195.out 1).trans rfl; have hcz20_2 : w19.cell? ⟨gb195, 2, none⟩ = some (.int .i64 a0_2) := (bc_ BK195.out 2).trans rfl; have hcz20_3 : w19.cell? ⟨gb195, 3, none⟩ = some (.int .i64 a0_3) := (bc_ BK195.out 3).trans rfl; have hcz20_4 : w19.cell? ⟨gb195, 4, none⟩ = some (.slice A0_4 l0_4.length c0_4) := (bc_ BK195.out 4).trans rfl; have hcz20_5 : w19.cell? ⟨gb195, 5, none⟩ = some (.slice A0_5 l0_5.length c0_5) := (bc_ BK195.out 5).trans rfl; have hcz20_6 : w19.cell? ⟨gb195, 6, none⟩ = some (.slice A0_6 l0_6.length c0_6) := (bc_ BK195.out 6).trans rfl; have hfz20_0 := bf_ BK195.out 0; have hfz20_1 := bf_ BK195.out 1; have hfz20_2 := bf_ BK195.out 2; have hfz20_3 := bf_ BK195.out 3; have hfz20_4 := bf_ BK195.out 4; have hfz20_5 := bf_ BK195.out 5; have hfz20_6 := bf_ BK195.out 6) | (go_at_call 15; (with_reducible refine (impl_ReceiverOk.calls k a0_3 _ _ l0_4 true _ ?side1 ?side2 A4.out).mono ?_); (case side1 => exact cY ((Kd.C_below HR0_4.out HB.out))); (case side2 => exact HC0_4.out); rintro e w21 ⟨rfl, hb⟩; have n0_ := A_.mk (bb_ (bY BK195.out) hb); have n1_ := A_.mk (bt_ (by repeat (first | (with_reducible first | exact HB.out | apply ba_ | apply bd_ | apply be_ | refine bs_ ?_ GE195.out) | exact HB.out)) hb); clear BK195 HB; have BK195 := n0_; have HB := n1_; clear n0_ n1_; (try clear hb); (try clear hb2); (try clear hk); (try clear hi); have hcz22_0 : w21.cell? ⟨gb195, 0, none⟩ = some (.int .i64 a0_0) := (bc_ BK195.out 0).trans rfl; have hcz22_1 : w21.cell? ⟨gb195, 1, none⟩ = some (.slice A0_1 l0_1.length c0_1) := (bc_ BK195.out 1).trans rfl; have hcz22_2 : w21.cell? ⟨gb195, 2, none⟩ = some (.int .i64 a0_2) := (bc_ BK195.out 2).trans rfl; have hcz22_3 : w21.cell? ⟨gb195, 3, none⟩ = some (.int .i64 a0_3) := (bc_ BK195.out 3).trans rfl; have hcz22_4 : w21.cell? ⟨gb195, 4, none⟩ = some (.slice A0_4 l0_4.length c0_4) := (bc_ BK195.out 4).trans rfl; have hcz22_5 : w21.cell? ⟨gb195, 5, none⟩ = some (.slice A0_5 l0_5.length c0_5) := (bc_ BK195.out 5).trans rfl; have hcz22_6 : w21.cell? ⟨gb195, 6, none⟩ = some (.slice A0_6 l0_6.length c0_6) := (bc_ BK195.out 6).trans rfl; have hfz22_0 := bf_ BK195.out 0; have hfz22_1 := bf_ BK195.out 1; have hfz22_2 := bf_ BK195.out 2; have hfz22_3 := bf_ BK195.out 3; have hfz22_4 := bf_ BK195.out 4; have hfz22_5 := bf_ BK195.out 5; have hfz22_6 := bf_ BK195.out 6) | (go_at_call 16; (with_reducible refine (impl_areLists.calls k _ _ l0_5 true _ ?side1 ?side2 A6.out).mono ?_); (case side1 => exact cY ((Kd.C_below HR0_5.out HB.out))); (case side2 => exact HC0_5.out); rintro e w' ⟨rfl, ⟨nd, rfl⟩⟩))
  go_ret
  exact ⟨by first | rfl | (simp [errW_none, errW_some] <;> rfl) | (simp [*, errW_none, errW_some] <;> rfl), by repeat (first | (with_reducible first | exact HB.out | apply ba_ | apply bd_ | apply be_ | refine bs_ ?_ GE195.out) | exact HB.out)⟩
 rw [if_pos c9] at H
 have c9b0 : decide ((l0_6.length : Int) ≤ 8) = true := decide_eq_true c9
 have c9b1 : decide (l0_6.length ≤ 8) = true := decide_eq_true (by omega)
 clear c9
 replace H := ob_ H
 obtain ⟨t199, A100, H⟩ := H
 have A10 := A_.mk A100
 clear A100
 obtain rfl := Option.some.inj H
 go_enter Try.func8, Try.ntmps8
 go_wp2_with (first | ((with_reducible refine gd_ (N := 1) rfl ?_); (try (refine gate_guard (by rfl) ?_; dsimp only)); refine by_ 1 (cs := #[.int .i64 a0_0, .slice A0_1 l0_1.length c0_1, .int .i64 a0_2, .int .i64 a0_3, .slice A0_4 l0_4.length c0_4, .slice A0_5 l0_5.length c0_5, .slice A0_6 l0_6.length c0_6]) (t := 34) ?_; intro gb195 hg w11 hbox hb; have n0_ := A_.mk (bt_ (beY HB.out) hb); have n1_ := A_.mk (hbox); have n2_ := A_.mk ((by rw [hg]; exact (bz_ (beY HB.out)) : w.heap.size ≤ gb195)); have n3_ := A_.mk ((by rw [hg]; exact (bz_ (beY HB.out)) : w.heap.size ≤ gb195)); clear HB; have HB := n0_; have BK195 := n1_; have GW195 := n2_; have GE195 := n3_; clear n0_ n1_ n2_ n3_ hb hbox hg; have hcz12_0 : w11.cell? ⟨gb195, 0, none⟩ = some (.int .i64 a0_0) := (bc_ BK195.out 0).trans rfl; have hcz12_1 : w11.cell? ⟨gb195, 1, none⟩ = some (.slice A0_1 l0_1.length c0_1) := (bc_ BK195.out 1).trans rfl; have hcz12_2 : w11.cell? ⟨gb195, 2, none⟩ = some (.int .i64 a0_2) := (bc_ BK195.out 2).trans rfl; have hcz12_3 : w11.cell? ⟨gb195, 3, none⟩ = some (.int .i64 a0_3) := (bc_ BK195.out 3).trans rfl; have hcz12_4 : w11.cell? ⟨gb195, 4, none⟩ = some (.slice A0_4 l0_4.length c0_4) := (bc_ BK195.out 4).trans rfl; have hcz12_5 : w11.cell? ⟨gb195, 5, none⟩ = some (.slice A0_5 l0_5.length c0_5) := (bc_ BK195.out 5).trans rfl; have hcz12_6 : w11.cell? ⟨gb195, 6, none⟩ = some (.slice A0_6 l0_6.length c0_6) := (bc_ BK195.out 6).trans rfl; have hfz12_0 := bf_ BK195.out 0; have hfz12_1 := bf_ BK195.out 1; have hfz12_2 := bf_ BK195.out 2; have hfz12_3 := bf_ BK195.out 3; have hfz12_4 := bf_ BK195.out 4; have hfz12_5 := bf_ BK195.out 5; have hfz12_6 := bf_ BK195.out 6) | ((with_reducible refine gc_ (f := 14) rfl ?_); refine gl_ (some 5) Try.func14 #[.agg #[.int .i64 a0_0, .slice A0_1 l0_1.length c0_1, .int .i64 a0_2]] ?_; (with_reducible refine (impl_SenderOk.calls k a0_0 _ _ l0_1 a0_2 true _ ?side1 ?side2 A2.out).mono ?_); (case side1 => exact cY ((Kd.C_below HR0_1.out HB.out))); (case side2 => exact HC0_1.out); rintro e w13 ⟨rfl, hb⟩; refine ⟨_, rfl, ?_⟩; have n0_ := A_.mk (bb_ (bY BK195.out) hb); have n1_ := A_.mk (bt_ (by repeat (first | (with_reducible first | exact HB.out | apply ba_ | apply bd_ | apply be_ | refine bs_ ?_ GE195.out) | exact HB.out)) hb); clear BK195 HB; have BK195 := n0_; have HB := n1_; clear n0_ n1_; (try clear hb); (try clear hb2); (try clear hk); (try clear hi); have hcz14_0 : w13.cell? ⟨gb195, 0, none⟩ = some (.int .i64 a0_0) := (bc_ BK195.out 0).trans rfl; have hcz14_1 : w13.cell? ⟨gb195, 1, none⟩ = some (.slice A0_1 l0_1.length c0_1) := (bc_ BK195.out 1).trans rfl; have hcz14_2 : w13.cell? ⟨gb195, 2, none⟩ = some (.int .i64 a0_2) := (bc_ BK195.out 2).trans rfl; have hcz14_3 : w13.cell? ⟨gb195, 3, none⟩ = some (.int .i64 a0_3) := (bc_ BK195.out 3).trans rfl; have hcz14_4 : w13.cell? ⟨gb195, 4, none⟩ = some (.slice A0_4 l0_4.length c0_4) := (bc_ BK195.out 4).trans rfl; have hcz14_5 : w13.cell? ⟨gb195, 5, none⟩ = some (.slice A0_5 l0_5.length c0_5) := (bc_ BK195.out 5).trans rfl; have hcz14_6 : w13.cell? ⟨gb195, 6, none⟩ = some (.slice A0_6 l0_6.length c0_6) := (bc_ BK195.out 6).trans rfl; have hfz14_0 := bf_ BK195.out 0; have hfz14_1 := bf_ BK195.out 1; have hfz14_2 := bf_ BK195.out 2; have hfz14_3 := bf_ BK195.out 3; have hfz14_4 := bf_ BK195.out 4; have hfz14_5 := bf_ BK195.out 5; have hfz14_6 := bf_ BK195.out 6) | (go_at_call 15; (with_reducible refine (impl_ReceiverOk.calls k a0_3 _ _ l0_4 true _ ?side1 ?side2 A4.out).mono ?_); (case side1 => exact cY ((Kd.C_below HR0_4.out HB.out))); (case side2 => exact HC0_4.out); rintro e w15 ⟨rfl, hb⟩; have n0_ := A_.mk (bb_ (bY BK195.out) hb); have n1_ := A_.mk (bt_ (by repeat (first | (with_reducible first | exact HB.out | apply ba_ | apply bd_ | apply be_ | refine bs_ ?_ GE195.out) | exact HB.out)) hb); clear BK195 HB; have BK195 := n0_; have HB := n1_; clear n0_ n1_; (try clear hb); (try clear hb2); (try clear hk); (try clear hi); have hcz16_0 : w15.cell? ⟨gb195, 0, none⟩ = some (.int .i64 a0_0) := (bc_ BK195.out 0).trans rfl; have hcz16_1 : w15.cell? ⟨gb195, 1, none⟩ = some (.slice A0_1 l0_1.length c0_1) := (bc_ BK195.out 1).trans rfl; have hcz16_2 : w15.cell? ⟨gb195, 2, none⟩ = some (.int .i64 a0_2) := (bc_ BK195.out 2).trans rfl; have hcz16_3 : w15.cell? ⟨gb195, 3, none⟩ = some (.int .i64 a0_3) := (bc_ BK195.out 3).trans rfl; have hcz16_4 : w15.cell? ⟨gb195, 4, none⟩ = some (.slice A0_4 l0_4.length c0_4) := (bc_ BK195.out 4).trans rfl; have hcz16_5 : w15.cell? ⟨gb195, 5, none⟩ = some (.slice A0_5 l0_5.length c0_5) := (bc_ BK195.out 5).trans rfl; have hcz16_6 : w15.cell? ⟨gb195, 6, none⟩ = some (.slice A0_6 l0_6.length c0_6) := (bc_ BK195.out 6).trans rfl; have hfz16_0 := bf_ BK195.out 0; have hfz16_1 := bf_ BK195.out 1; have hfz16_2 := bf_ BK195.out 2; have hfz16_3 := bf_ BK195.out 3; have hfz16_4 := bf_ BK195.out 4; have hfz16_5 := bf_ BK195.out 5; have hfz16_6 := bf_ BK195.out 6) | (go_at_call 16; (with_reducible refine (impl_areLists.calls k _ _ l0_5 true _ ?side1 ?side2 A6.out).mono ?_); (case side1 => exact cY ((Kd.C_below HR0_5.out HB.out))); (case side2 => exact HC0_5.out); rintro e w' ⟨rfl, ⟨nd, rfl⟩⟩) | (go_at_call 17; (with_reducible refine (slices_ContainsFunc_int_int__impl_LinkOk_1.calls k _ _ l0_6  t199 _ ?side1 ?side2 A10.out).mono ?_); (case side1 => repeat (first | exact (Kd.C_below HR0_6.out (by repeat (first | (with_reducible first | exact HB.out | apply ba_ | apply bd_ | apply be_ | refine bs_ ?_ GE195.out) | exact HB.out))) | (with_reducible refine Kd.C_alloc ?_ _) | (with_reducible refine Kd.C_drewN ?_ _) | (with_reducible refine Kd.C_drew ?_))); (case side2 => exact HC0_6.out); rintro e w' ⟨rfl, ⟨nd, rfl⟩⟩))
 go_ret
 exact ⟨by first | rfl | (simp [errW_none, errW_some] <;> rfl) | (simp [*, errW_none, errW_some] <;> rfl), by repeat (first | (with_reducible first | exact HB.out | apply ba_ | apply bd_ | apply be_ | refine bs_ ?_ GE195.out) | exact HB.out)⟩
/-! ### slices_Clone_int_int: function 29 -/
def slices_Clone_int_int.f (l0 : List Int) : Option (List Int) := (some (([] : List Int) : List Int)).bind fun y200 => (if y200.length + l0.length < 17592186044416 then (some (y200 ++ l0)) else (none))
set_option maxHeartbeats 8000000 in
set_option maxRecDepth 100000 in
theorem slices_Clone_int_int.calls_some (A0 : Addr) (c0 : Nat) (l0 : List Int) (r : List Int) (w : World) (hr0 : Kd.C (Kd.int .i64) w (some A0) l0.length l0) (hc0 : l0.length ≤ c0) (h : slices_Clone_int_int.f l0 = some r) :
  Calls Try.prog 29 #[.slice (some A0) l0.length c0] w fun e w' => ∃ v0_ : Value, e = .returned (v0_) ∧ Kd.R (Kd.int .i64) 3 w' w.heap.size (fun _ => True) v0_ r ∧ Below w.heap.size w w' := by
 have HR0 := A_.mk hr0
 have HC0 := A_.mk hc0
 clear hr0 hc0
 have HB := A_.mk (Below.refl w.heap.size w)
 have H : ((some (([] : List Int) : List Int)).bind fun y200 => (if y200.length + l0.length < 17592186044416 then (some (y200 ++ l0)) else (none))) = some r := h
 clear h
 obtain ⟨y200, hy200⟩ : ∃ y_ : List Int, y_ = (([] : List Int)) := ⟨_, rfl⟩
 replace H : (if y200.length + l0.length < 17592186044416 then (some (y200 ++ l0)) else (none)) = some r := by first | (rw [hy200]; with_reducible exact H) | (have H2_ := (Option.bind_some _ _).symm.trans H; rw [hy200]; with_reducible exact H2_) | (have H2_ := (Option.bind_some _ _).symm.trans H; with_reducible exact H2_) | with_reducible exact H | (rw [hy200]; exact H) | exact H
 have Ny200 := A_.mk hy200
 clear hy200
 by_cases c2 : y200.length + l0.length < 17592186044416
 rotate_left
 ·rw [if_neg c2] at H
  exact absurd H (by simp)
 rw [if_pos c2] at H
 have LMc2 := A_.mk c2
 clear c2
 obtain ⟨y203, hy203⟩ : ∃ y_ : List Int, y_ = (y200 ++ l0) := ⟨_, rfl⟩
 replace H : (some y203) = some r := by first | (rw [hy203]; with_reducible exact H) | (have H2_ := (Option.bind_some _ _).symm.trans H; rw [hy203]; with_reducible exact H2_) | (have H2_ := (Option.bind_some _ _).symm.trans H; with_reducible exact H2_) | with_reducible exact H | (rw [hy203]; exact H) | exact H
 have Ny203 := A_.mk hy203
 clear hy203
 obtain rfl := Option.some.inj H
 have hb_ : ∀ w, (binOp .eql 32 (.slice (some A0) l0.length c0) (.slice none 0 0)).run Try.prog w = .ok (.bool false) w := fun _ => by kernel_rfl
 go_enter Try.func29, Try.ntmps29
 go_wp2_with (first | ((with_reducible refine gd_ (N := 5) rfl ?_); refine Kd.R_lit (Kd.int .i64) _ 3 ?hg (N := 5) ?hd (xs := ([] : List Int)) (inner := []) (ok := fun _ => True) (okp := fun _ => True) ?hr ?hp (fun _ hk => hk) trivial (Below.refl _ _) (Nat.le_refl _) (by simp) ?_; (case hd => rfl); (case hg => rfl); (case hr => first | (go_simp; done) | (go_simp; rfl)); (case hp => exact (Reps.none _ _)); intro v201 w3 ho4 hb hg_ hnew_; clear hg_ hnew_; (first | rw [← Ny200.out] at ho4 | (simp only [Int.reduceToNat] at ho4; rw [← Ny200.out] at ho4)); have n0_ := A_.mk (Kd.R_lower ho4 (bz_ (beY HB.out))); have n1_ := A_.mk (bt_ (beY HB.out) hb); clear HB; have HO202 := n0_; have HB := n1_; clear n0_ n1_ hb ho4) | ((with_reducible refine gate_builtin (b := .append) (xs := #[.tmp 5, .tmp 6]) rfl ?_); at_builtin; refine Kd.R_append_rows (Kd.int .i64) (w0 := w) w.heap.size rfl (.tmp 5) (.tmp 6) 32 3 (.int .i64 0) 8 rfl Try.underlying32 info3 rfl (by decide) (by omega) v201 y200 l0 _ _ _ (fun _ => True) (fun _ => False) rfl rfl ?aO ?aR (fun _ _ h => h) (fun _ h => h.elim) ?aF ?aB ?aS ?aL ?_; (case aR => repeat (first | exact (Kd.C_below HR0.out HB.out) | (with_reducible refine Kd.C_alloc ?_ _) | (with_reducible refine Kd.C_drewN ?_ _) | (with_reducible refine Kd.C_drew ?_))); (case aB => exact (beY HB.out)); (case aF => exact (fun _ _ => trivial)); (case aO => exact (rY HO202.out)); (case aS => exact (bz_ (beY HB.out))); (case aL => have := LMc2.out; omega); intro v204 w5 ho hb hg hat; rw [← Ny203.out] at ho; have n0_ := A_.mk (hb); have n1_ := A_.mk (ho); clear HB HO202; have HB := n0_; have HO205 := n1_; clear n0_ n1_ ho hb hg hat))
 go_ret
 exact ⟨_, by first | rfl | (simp [errW_none, errW_some] <;> rfl) | (simp [*, errW_none, errW_some] <;> rfl), by (repeat apply rX); exact HO205.out, beY HB.out⟩
set_option maxHeartbeats 8000000 in
set_option maxRecDepth 100000 in
theorem slices_Clone_int_int.calls (A0 : Option Addr) (c0 : Nat) (l0 : List Int) (r : List Int) (w : World) (hr0 : Kd.C (Kd.int .i64) w A0 l0.length l0) (hc0 : l0.length ≤ c0) (h : slices_Clone_int_int.f l0 = some r) :
  Calls Try.prog 29 #[.slice A0 l0.length c0] w fun e w' => ∃ v0_ : Value, e = .returned (v0_) ∧ Kd.R (Kd.int .i64) 3 w' w.heap.size (fun _ => True) v0_ r ∧ Below w.heap.size w w' := by
 cases A0 with
 | some A0 => exact slices_Clone_int_int.calls_some A0 c0 l0 r w hr0 hc0 h
 | none =>
  have hz : l0.length = 0 := by
   rcases Nat.eq_zero_or_pos l0.length with h0 | h0
   ·exact h0
   ·obtain ⟨_, hn_, _⟩ := hr0.2.2 h0; cases hn_
  obtain rfl := List.length_eq_zero_iff.mp hz
  have hr_ : r = [] := by unfold slices_Clone_int_int.f at h; simp at h; exact h
  subst hr_
  clear h hz hr0
  have HB := A_.mk (Below.refl w.heap.size w)
  have hb_ : ∀ w, (binOp .eql 32 (.slice none 0 c0) (.slice none 0 0)).run Try.prog w = .ok (.bool true) w := fun _ => by kernel_rfl
  go_enter Try.func29, Try.ntmps29
  go_wp2
  go_ret
  exact ⟨_, by first | rfl | (simp [errW_none, errW_some] <;> rfl) | (simp [*, errW_none, errW_some] <;> rfl), by first | exact Kd.R_nil _ _ _ _ _ | exact Kd.N_nil _ _ _ _ _ | exact Kd.V_nil _ _ _ _ _ | exact Kd.Q_nil _ _ _ _ _ | exact Kd.S_nil _ _ _ _ _, beY HB.out⟩

/-! ### impl_copyFrame: function 48 -/
def impl_copyFrame.f (a0_0 : Int) (l0_1 : List Int) : Option (Int × List Int) := (slices_Clone_int_int.f l0_1).bind fun t208 => (some (a0_0, t208))
set_option maxHeartbeats 8000000 in
set_option maxRecDepth 100000 in
theorem impl_copyFrame.calls (a0_0 : Int) (A0_1 : Option Addr) (c0_1 : Nat) (l0_1 : List Int) (r1 : Int) (r2 : List Int) (w : World) (hr0_1 : Kd.C (Kd.int .i64) w A0_1 l0_1.length l0_1) (hc0_1 : l0_1.length ≤ c0_1) (h : impl_copyFrame.f a0_0 l0_1 = some (r1, r2)) :
  Calls Try.prog 48 #[.agg #[.int .i64 a0_0, .slice A0_1 l0_1.length c0_1]] w fun e w' => ∃ v1_ : Value, e = .returned (.agg #[.int .i64 r1, v1_]) ∧ Kd.R (Kd.int .i64) 3 w' w.heap.size (fun _ => True) v1_ r2 ∧ Below w.heap.size w w' := by
 have hu66 := Try.underlying66
 have HR0_1 := A_.mk hr0_1
 have HC0_1 := A_.mk hc0_1
 clear hr0_1 hc0_1
 have HB := A_.mk (Below.refl w.heap.size w)
 have H : ((slices_Clone_int_int.f l0_1).bind fun t208 => (some (a0_0, t208))) = some (r1, r2) := h
 clear h
 replace H := ob_ H
 obtain ⟨t208, A20, H⟩ := H
 have A2 := A_.mk A20
 clear A20
 simp only [Option.some.injEq, Prod.mk.injEq] at H
 obtain ⟨rfl, rfl⟩ := H
 go_enter Try.func48, Try.ntmps48
 try go_wp2_with (first | ((with_reducible refine gd_ (N := 1) rfl ?_); refine by_ 1 (cs := #[.int .i64 a0_0, .slice A0_1 l0_1.length c0_1]) (t := 66) ?_; intro gb206 hg w3 hbox hb; have n0_ := A_.mk (bt_ (beY HB.out) hb); have n1_ := A_.mk (hbox); have n2_ := A_.mk ((by rw [hg]; exact (bz_ (beY HB.out)) : w.heap.size ≤ gb206)); have n3_ := A_.mk ((by rw [hg]; exact (bz_ (beY HB.out)) : w.heap.size ≤ gb206)); clear HB; have HB := n0_; have BK206 := n1_; have GW206 := n2_; have GE206 := n3_; clear n0_ n1_ n2_ n3_ hb hbox hg) | ((with_reducible refine gd_ (N := 2) rfl ?_); refine by_ 2 (cs := #[.int .i64 0, .slice none 0 0]) (t := 66) ?_; intro gb207 hg w4 hbox hb; have n0_ := A_.mk (bb_ (bY BK206.out) hb); have n1_ := A_.mk (bt_ (by repeat (first | (with_reducible first | exact HB.out | apply ba_ | apply bd_ | apply be_ | refine bs_ ?_ GE206.out) | exact HB.out)) hb); have n2_ := A_.mk (hbox); have n3_ := A_.mk ((by rw [hg]; exact (bz_ (by repeat (first | (with_reducible first | exact HB.out | apply ba_ | apply bd_ | apply be_ | refine bs_ ?_ GE206.out) | exact HB.out))) : w.heap.size ≤ gb207)); have n4_ := A_.mk ((by rw [hg]; exact (bz_ (by repeat (first | (with_reducible first | exact HB.out | apply ba_ | apply bd_ | apply be_ | refine bs_ ?_ GE206.out) | exact HB.out))) : w.heap.size ≤ gb207)); have n5_ := A_.mk ((by rw [hg]; exact Nat.ne_of_lt (blk_lt (bY BK206.out)) : gb206 ≠ gb207)); have n6_ := A_.mk ((by rw [hg]; exact Nat.ne_of_gt (blk_lt (bY BK206.out)) : gb207 ≠ gb206)); clear BK206 HB; have BK206 := n0_; have HB := n1_; have BK207 := n2_; have GW207 := n3_; have GE207 := n4_; have NB206_207 := n5_; have NB207_206 := n6_; clear n0_ n1_ n2_ n3_ n4_ n5_ n6_ hb hbox hg))
 have n0_ := A_.mk (bw_ BK206.out)
 have n1_ := A_.mk (bw_ BK207.out)
 have n2_ := A_.mk (be_ HB.out)
 clear BK206 BK207 HB
 have BK206 := n0_
 have BK207 := n1_
 have HB := n2_
 clear n0_ n1_ n2_
 refine start_ (n := 7) (S := fun w' => w'.cell? ⟨gb206, 0, none⟩ = some (.int .i64 a0_0) ∧ w'.cell? ⟨gb206, 1, none⟩ = some (.slice A0_1 l0_1.length c0_1)) (ds := []) #[F, F, F, F, F, F, F] (by kernel_rfl) rfl rfl ⟨(bc_ BK206.out 0).trans rfl, (bc_ BK206.out 1).trans rfl⟩ (fun hHeld => ?_)
 generalize w4.drew = w5 at BK206 BK207 HB hHeld ⊢
 refine pd_ (i := 0) (N := some 3) #[T, F, F, F, F, F, F] rfl ?_
 refine pd_ (i := 2) (N := some 5) #[T, F, T, F, F, F, F] rfl ?_
 refine tl_ (i := 1) (N := some 4) #[T, T, T, F, F, F, F] rfl hHeld ?_
 refine tl_ (i := 3) (N := some 6) #[T, T, T, T, F, F, F] rfl hHeld ?_
 refine on_ (i := 4) (N := some 7) #[T, T, T, T, T, F, F] rfl (fun K hK => ?_)
 refine gz_ Try.func29 #[.slice A0_1 l0_1.length c0_1] ?_
 with_reducible refine (slices_Clone_int_int.calls _ _ l0_1 t208 _ ?side1 ?side2 A2.out).mono ?_
 (case side1 => exact cY ((Kd.C_below HR0_1.out HB.out)))
 (case side2 => exact HC0_1.out)
 rintro e w6 ⟨v209, rfl, ho0, hb⟩
 refine ⟨_, rfl, ?_⟩
 have n0_ := A_.mk (Kd.R_lower ho0 (bz_ (by repeat (first | (with_reducible first | exact HB.out | apply ba_ | apply bd_ | apply be_ | refine bs_ ?_ GE206.out | refine bs_ ?_ GE207.out) | exact HB.out))))
 have n1_ := A_.mk (bb_ (bY BK206.out) hb)
 have n2_ := A_.mk (bb_ (bY BK207.out) hb)
 have n3_ := A_.mk (bt_ (by repeat (first | (with_reducible first | exact HB.out | apply ba_ | apply bd_ | apply be_ | refine bs_ ?_ GE206.out | refine bs_ ?_ GE207.out) | exact HB.out)) hb)
 clear BK206 BK207 HB
 have HO210 := n0_
 have BK206 := n1_
 have BK207 := n2_
 have HB := n3_
 clear n0_ n1_ n2_ n3_
 obtain ⟨Ao7, co7, eo7⟩ := Kd.R_slice HO210.out
 (first | subst eo7 | (injection eo7 with f1_ f2_ f3_; have f4_ := f1_.symm; have f5_ := f3_.symm; clear f1_ f2_ f3_; subst f4_; subst f5_))
 refine hK.out _ _ ⟨(bc_ BK206.out 0).trans rfl, (bc_ BK206.out 1).trans rfl⟩ (fun hHeld => ?_)
 clear hK K
 refine nm_ ?_
 refine pd_ (i := 5) (N := some 8) #[T, T, T, T, T, T, F] rfl ?_
 refine on_ (i := 6) (N := none) #[T, T, T, T, T, T, T] rfl (fun K hK => ?_)
 have hs8 : w6.cell? ⟨gb207, 0, none⟩ = some (.int .i64 0) := (bc_ BK207.out 0).trans rfl
 have hfs8 := bf_ BK207.out 0
 have hns8_0 := NB206_207.out
 have hms8_0 := NB207_206.out
 have hs9 : w6.cell? ⟨gb207, 1, none⟩ = some (.slice none 0 0) := (bc_ BK207.out 1).trans rfl
 have hfs9 := bf_ BK207.out 1
 have hns9_0 := NB206_207.out
 have hms9_0 := NB207_206.out
 refine skip_ (w1 := ?_) (by rfl) rfl ?_ ?_
 rotate_left
 ·go_simp
  rfl
 refine hK.out _ _ ⟨((cell_far (p := ⟨gb207, _, none⟩) NB206_207.out _).trans (((cell_far (p := ⟨gb207, _, none⟩) NB206_207.out _).trans (hHeld.1)))), ((cell_far (p := ⟨gb207, _, none⟩) NB206_207.out _).trans (((cell_far (p := ⟨gb207, _, none⟩) NB206_207.out _).trans (hHeld.2))))⟩ (fun hHeld => ?_)
 clear hK K
 refine done_ (by kernel_rfl) ?_
 try go_wp2
 refine bodyPost_ret (results_cell_row rfl _ _ gb207 66 #[.int .i64 a0_0, .slice Ao7 t208.length co7] (0, 0) _ rfl (by (repeat apply bX); refine bp_ (cs := #[.int .i64 a0_0, .slice none 0 0]) ?_ 1 _ rfl; (repeat apply bX); refine bp_ (cs := #[.int .i64 0, .slice none 0 0]) ?_ 0 _ rfl; (repeat apply bX); exact BK207.out) Try.underlying66 rfl (by kernel_rfl)) rfl ?_
 exact ⟨_, by first | rfl | (simp [errW_none, errW_some] <;> rfl) | (simp [*, errW_none, errW_some] <;> rfl), by (repeat apply rX); exact Kd.R_mono (Kd.R_far (p := ⟨gb207, 1, none⟩) (Kd.R_far (p := ⟨gb207, 0, none⟩) (Kd.R_types HO210.out BK207.out (by decide)) (fun _ hk => hk.2) (.int .i64 a0_0)) (fun _ hk => hk.2) (.slice Ao7 t208.length co7)) (fun _ hk => trivial), by repeat (first | (with_reducible first | exact HB.out | apply ba_ | apply bd_ | apply be_ | refine bs_ ?_ GE206.out | refine bs_ ?_ GE207.out) | exact HB.out)⟩
/-! ### impl_copySender: function 26 -/
def impl_copySender.l0 : Nat → List (S66) → Int → Int → Int → List (S66) → Int → Option (Int × (List (S66)) × Int)
 | 0, _, _, _, _, _, _ => none
 | k + 1, x12, x13, x14, x214000, x214001, x214002 => if x14 < x13 then (if 0 ≤ x14 then (if x14 < (x12.length : Int) then ((impl_copyFrame.f ((rd_T66 x12 x14).f0) ((rd_T66 x12 x14).f1)).bind fun bt216 => (if x214001.length < 4398046511104 then (impl_copySender.l0 k x12 x13 (wrap64 (x14 + 1)) x214000 (x214001 ++ [(⟨bt216.1, bt216.2⟩ : S66)]) x214002) else (none))) else (none)) else (none)) else (some (x214000, x214001, x214002))
def impl_copySender.f (k : Nat) (a0_0 : Int) (l0_1 : List (S66)) (a0_2 : Int) : Option (Int × (List (S66)) × Int) := impl_copySender.l0 k l0_1 (l0_1.length : Int) 0 a0_0 ([] : List (S66)) a0_2
def impl_copySender.T5 : Bool × List (List Nat × List Nat) := (true, [([], []), ([0], [0]), ([], []), ([2], [2]), ([3], [3]), ([1, 4, 3], [1, 4]), ([0, 1, 2, 3, 4, 5], []), ([6, 5, 5, 0, 1, 2, 3, 4, 5], [5, 6])])
def impl_copySender.B5 : List Nat := [0, 1, 0, 4, 12, 31, 63, 127]
theorem impl_copySender.tab5 : rtab .any (opsOf Try.f26 5) = impl_copySender.T5 := by kernel_rfl
theorem impl_copySender.bits5 : waitsOk impl_copySender.T5.2 impl_copySender.B5 = true := by kernel_rfl
set_option maxHeartbeats 8000000 in
set_option maxRecDepth 100000 in
theorem impl_copySender.calls (k : Nat) (a0_0 : Int) (A0_1 : Option Addr) (c0_1 : Nat) (l0_1 : List (S66)) (a0_2 : Int) (r1 : Int) (r2 : List (S66)) (r3 : Int) (w : World) (hr0_1 : Kd.C k66 w A0_1 l0_1.length l0_1) (hc0_1 : l0_1.length ≤ c0_1) (h : impl_copySender.f k a0_0 l0_1 a0_2 = some (r1, r2, r3)) :
  Calls Try.prog 26 #[.agg #[.int .i64 a0_0, .slice A0_1 l0_1.length c0_1, .int .i64 a0_2]] w fun e w' => ∃ v1_ : Value, e = .returned (.agg #[.int .i64 r1, v1_, .int .i64 r3]) ∧ Kd.S k66 66 w' w.heap.size (fun _ => True) v1_ r2 ∧ Below w.heap.size w w' := by
 have hu28 := Try.underlying28
 have hu66 := Try.underlying66
 have HR0_1 := A_.mk hr0_1
 have HC0_1 := A_.mk hc0_1
 clear hr0_1 hc0_1
 have HB := A_.mk (Below.refl w.heap.size w)
 have H : (impl_copySender.l0 k l0_1 (l0_1.length : Int) 0 a0_0 ([] : List (S66)) a0_2) = some (r1, r2, r3) := h
 clear h
 have H' := A_.mk H
 clear H
 go_enter Try.func26, Try.ntmps26
 go_wp2_with (first | ((with_reducible refine gd_ (N := 1) rfl ?_); refine by_ 1 (cs := #[.int .i64 a0_0, .slice A0_1 l0_1.length c0_1, .int .i64 a0_2]) (t := 28) ?_; intro gb211 hg w2 hbox hb; have n0_ := A_.mk (bt_ (beY HB.out) hb); have n1_ := A_.mk (hbox); have n2_ := A_.mk ((by rw [hg]; exact (bz_ (beY HB.out)) : w.heap.size ≤ gb211)); have n3_ := A_.mk ((by rw [hg]; exact (bz_ (beY HB.out)) : w.heap.size ≤ gb211)); clear HB; have HB := n0_; have BK211 := n1_; have GW211 := n2_; have GE211 := n3_; clear n0_ n1_ n2_ n3_ hb hbox hg) | ((with_reducible refine gd_ (N := 2) rfl ?_); refine by_ 2 (cs := #[.int .i64 0, .slice none 0 0, .int .i64 0]) (t := 28) ?_; intro gb212 hg w3 hbox hb; have n0_ := A_.mk (bb_ (bY BK211.out) hb); have n1_ := A_.mk (bt_ (by repeat (first | (with_reducible first | exact HB.out | apply ba_ | apply bd_ | apply be_ | refine bs_ ?_ GE211.out) | exact HB.out)) hb); have n2_ := A_.mk (hbox); have n3_ := A_.mk ((by rw [hg]; exact (bz_ (by repeat (first | (with_reducible first | exact HB.out | apply ba_ | apply bd_ | apply be_ | refine bs_ ?_ GE211.out) | exact HB.out))) : w.heap.size ≤ gb212)); have n4_ := A_.mk ((by rw [hg]; exact (bz_ (by repeat (first | (with_reducible first | exact HB.out | apply ba_ | apply bd_ | apply be_ | refine bs_ ?_ GE211.out) | exact HB.out))) : w.heap.size ≤ gb212)); have n5_ := A_.mk ((by rw [hg]; exact Nat.ne_of_lt (blk_lt (bY BK211.out)) : gb211 ≠ gb212)); have n6_ := A_.mk ((by rw [hg]; exact Nat.ne_of_gt (blk_lt (bY BK211.out)) : gb212 ≠ gb211)); clear BK211 HB; have BK211 := n0_; have HB := n1_; have BK212 := n2_; have GW212 := n3_; have GE212 := n4_; have NB211_212 := n5_; have NB212_211 := n6_; clear n0_ n1_ n2_ n3_ n4_ n5_ n6_ hb hbox hg; have hnb4 := NB211_212.out; have hnc4 := NB212_211.out; have hcz5_0 : w3.cell? ⟨gb211, 0, none⟩ = some (.int .i64 a0_0) := (bc_ BK211.out 0).trans rfl; have hcz5_1 : w3.cell? ⟨gb211, 1, none⟩ = some (.slice A0_1 l0_1.length c0_1) := (bc_ BK211.out 1).trans rfl; have hcz5_2 : w3.cell? ⟨gb211, 2, none⟩ = some (.int .i64 a0_2) := (bc_ BK211.out 2).trans rfl; have hfz5_0 := bf_ BK211.out 0; have hfz5_1 := bf_ BK211.out 1; have hfz5_2 := bf_ BK211.out 2) | ((with_reducible refine gd_ (N := 3) rfl ?_); refine by_ 3 (cs := #[.int .i64 0, .slice none 0 0, .int .i64 0]) (t := 28) ?_; intro gb213 hg w6 hbox hb; have n0_ := A_.mk (bb_ (bY BK211.out) hb); have n1_ := A_.mk (bb_ (bY BK212.out) hb); have n2_ := A_.mk (bt_ (by repeat (first | (with_reducible first | exact HB.out | apply ba_ | apply bd_ | apply be_ | refine bs_ ?_ GE211.out | refine bs_ ?_ GE212.out) | exact HB.out)) hb); have n3_ := A_.mk (hbox); have n4_ := A_.mk ((by rw [hg]; exact (bz_ (by repeat (first | (with_reducible first | exact HB.out | apply ba_ | apply bd_ | apply be_ | refine bs_ ?_ GE211.out | refine bs_ ?_ GE212.out) | exact HB.out))) : w.heap.size ≤ gb213)); have n5_ := A_.mk ((by rw [hg]; exact (bz_ (by repeat (first | (with_reducible first | exact HB.out | apply ba_ | apply bd_ | apply be_ | refine bs_ ?_ GE211.out | refine bs_ ?_ GE212.out) | exact HB.out))) : w.heap.size ≤ gb213)); have n6_ := A_.mk ((by rw [hg]; exact Nat.ne_of_lt (blk_lt (bY BK211.out)) : gb211 ≠ gb213)); have n7_ := A_.mk ((by rw [hg]; exact Nat.ne_of_gt (blk_lt (bY BK211.out)) : gb213 ≠ gb211)); have n8_ := A_.mk ((by rw [hg]; exact Nat.ne_of_lt (blk_lt (bY BK212.out)) : gb212 ≠ gb213)); have n9_ := A_.mk ((by rw [hg]; exact Nat.ne_of_gt (blk_lt (bY BK212.out)) : gb213 ≠ gb212)); clear BK211 BK212 HB; have BK211 := n0_; have BK212 := n1_; have HB := n2_; have BK213 := n3_; have GW213 := n4_; have GE213 := n5_; have NB211_213 := n6_; have NB213_211 := n7_; have NB212_213 := n8_; have NB213_212 := n9_; clear n0_ n1_ n2_ n3_ n4_ n5_ n6_ n7_ n8_ n9_ hb hbox hg; have hnb7 := NB213_211.out; have hnc7 := NB211_213.out; have hnb8 := NB213_212.out; have hnc8 := NB212_213.out; have hcz9_0 : w6.cell? ⟨gb213, 0, none⟩ = some (.int .i64 0) := (bc_ BK213.out 0).trans rfl; have hcz9_1 : w6.cell? ⟨gb213, 1, none⟩ = some (.slice none 0 0) := (bc_ BK213.out 1).trans rfl; have hcz9_2 : w6.cell? ⟨gb213, 2, none⟩ = some (.int .i64 0) := (bc_ BK213.out 2).trans rfl; have hfz9_0 := bf_ BK213.out 0; have hfz9_1 := bf_ BK213.out 1; have hfz9_2 := bf_ BK213.out 2; have hcz10_0 : w6.cell? ⟨gb211, 0, none⟩ = some (.int .i64 a0_0) := (bc_ BK211.out 0).trans rfl; have hcz10_1 : w6.cell? ⟨gb211, 1, none⟩ = some (.slice A0_1 l0_1.length c0_1) := (bc_ BK211.out 1).trans rfl; have hcz10_2 : w6.cell? ⟨gb211, 2, none⟩ = some (.int .i64 a0_2) := (bc_ BK211.out 2).trans rfl; have hfz10_0 := bf_ BK211.out 0; have hfz10_1 := bf_ BK211.out 1; have hfz10_2 := bf_ BK211.out 2))
 go_loopg [14] k (fun kq v14 w' => ∃ (x14_1 : Int) (x214001_1 : List (S66)) (u214001 : Value), v14 = .int .i64 x14_1 ∧ A_ (impl_copySender.l0 kq l0_1 (l0_1.length : Int) x14_1 a0_0 x214001_1 a0_2 = some (r1, r2, r3)) ∧ A_ (kq ≤ k) ∧ A_ (Kd.S k66 66 w' w.heap.size (fun _ => True) u214001 x214001_1) ∧ A_ (w'.heap[gb211]? = some (.cells #[.int .i64 a0_0, (.slice A0_1 l0_1.length c0_1), .int .i64 a0_2] 28 (0, 0))) ∧ A_ (w'.heap[gb212]? = some (.cells #[.int .i64 0, (.slice none 0 0), .int .i64 0] 28 (0, 0))) ∧ A_ (w'.heap[gb213]? = some (.cells #[.int .i64 a0_0, u214001, .int .i64 a0_2] 28 (0, 0))) ∧ A_ (Below w.heap.size w w'))
 case atStart => exact ⟨(0), (([] : List (S66))), (.slice none 0 0), (by first | rfl | (simp; done) | (simp [*]; done)), H', ⟨Nat.le_refl _⟩, ⟨by first | exact Kd.S_nil _ _ _ _ _ | exact Kd.N_nil _ _ _ _ _ | exact Kd.V_nil _ _ _ _ _ | exact Kd.Q_nil _ _ _ _ _ | exact Kd.R_nil _ _ _ _ _⟩, ⟨by (repeat apply bX); refine blk_far ?_ NB211_213.out _; (repeat apply bX); refine blk_far ?_ NB211_213.out _; (repeat apply bX); refine blk_far ?_ NB211_213.out _; (repeat apply bX); exact BK211.out⟩, ⟨by (repeat apply bX); refine blk_far ?_ NB212_213.out _; (repeat apply bX); refine blk_far ?_ NB212_213.out _; (repeat apply bX); refine blk_far ?_ NB212_213.out _; (repeat apply bX); exact BK212.out⟩, ⟨by (repeat apply bX); refine bp_ (cs := #[.int .i64 a0_0, .slice none 0 0, .int .i64 0]) ?_ 2 _ rfl; (repeat apply bX); refine bp_ (cs := #[.int .i64 a0_0, .slice none 0 0, .int .i64 0]) ?_ 1 _ rfl; (repeat apply bX); refine bp_ (cs := #[.int .i64 0, .slice none 0 0, .int .i64 0]) ?_ 0 _ rfl; (repeat apply bX); exact BK213.out⟩, ⟨by repeat (first | (with_reducible first | exact HB.out | apply ba_ | apply bd_ | apply be_ | refine bs_ ?_ GE211.out | refine bs_ ?_ GE212.out | refine bs_ ?_ GE213.out) | exact HB.out)⟩⟩
 case round =>
  clear H'
  obtain ⟨x14_1, x214001_1, u214001, rfl, HA, HK1, HO_214001, BK211, BK212, BK213, HB⟩ := hrel
  cases gk with
  | zero => exact absurd HA.out (by simp [impl_copySender.l0])
  | succ k1 =>
   have H := HA.out
   clear HA
   simp only [impl_copySender.l0] at H
   by_cases c11 : x14_1 < (l0_1.length : Int)
   rotate_left
   ·rw [if_neg c11] at H
    have c11b0 : decide (x14_1 < (l0_1.length : Int)) = false := decide_eq_false c11
    clear c11
    simp only [Option.some.injEq, Prod.mk.injEq] at H
    obtain ⟨rfl, rfl, rfl⟩ := H
    have hnb28 := NB213_211.out
    have hnc28 := NB211_213.out
    have hnb29 := NB213_212.out
    have hnc29 := NB212_213.out
    obtain ⟨hcz30_0, hcz30_1, hcz30_2, hfz30_0, hfz30_1, hfz30_2⟩ := b3 BK213.out
    have hnb31 := NB212_211.out
    have hnc31 := NB211_212.out
    obtain ⟨hcz32_0, hcz32_1, hcz32_2, hfz32_0, hfz32_1, hfz32_2⟩ := b3 BK212.out
    obtain ⟨Ao33, co33, eo33⟩ := Kd.S_slice HO_214001.out
    subst eo33
    go_wp2
    refine bodyPost_ret (results_cell_row rfl _ _ gb212 28 #[.int .i64 a0_0, .slice Ao33 x214001_1.length co33, .int .i64 a0_2] (0, 0) _ rfl (by (repeat apply bX); refine bp_ (cs := #[.int .i64 a0_0, .slice Ao33 x214001_1.length co33, .int .i64 0]) ?_ 2 _ rfl; (repeat apply bX); refine bp_ (cs := #[.int .i64 a0_0, .slice none 0 0, .int .i64 0]) ?_ 1 _ rfl; (repeat apply bX); refine bp_ (cs := #[.int .i64 0, .slice none 0 0, .int .i64 0]) ?_ 0 _ rfl; (repeat apply bX); exact BK212.out) Try.underlying28 rfl (by kernel_rfl)) rfl ?_
    exact ⟨_, by first | rfl | (simp [errW_none, errW_some] <;> rfl) | (simp [*, errW_none, errW_some] <;> rfl), by (with_reducible repeat (first | apply Kd.S_alloc | apply Kd.S_drewN | apply Kd.S_drew)); exact Kd.S_mono (Kd.S_far (p := ⟨gb212, 2, none⟩) (Kd.S_far (p := ⟨gb212, 1, none⟩) (Kd.S_far (p := ⟨gb212, 0, none⟩) (Kd.S_types HO_214001.out BK212.out (by decide)) (fun _ hk => hk.2) (.int .i64 a0_0)) (fun _ hk => hk.2) (.slice Ao33 x214001_1.length co33)) (fun _ hk => hk.2) (.int .i64 a0_2)) (fun _ hk => trivial), by repeat (first | (with_reducible first | exact HB.out | apply ba_ | apply bd_ | apply be_ | refine bs_ ?_ GE211.out | refine bs_ ?_ GE212.out | refine bs_ ?_ GE213.out) | exact HB.out)⟩
   rw [if_pos c11] at H
   have c11b0 : decide (x14_1 < (l0_1.length : Int)) = true := decide_eq_true c11
   clear c11
   by_cases c12 : 0 ≤ x14_1
   rotate_left
   ·rw [if_neg c12] at H
    exact absurd H (by simp)
   rw [if_pos c12] at H
   have c12b0 : decide (0 ≤ x14_1) = true := decide_eq_true c12
   clear c12
   by_cases c13 : x14_1 < (l0_1.length : Int)
   rotate_left
   ·rw [if_neg c13] at H
    exact absurd H (by simp)
   rw [if_pos c13] at H
   have c13b0 : decide (x14_1 < (l0_1.length : Int)) = true := decide_eq_true c13
   clear c13
   replace H := ob_ H
   obtain ⟨⟨t216, t217⟩, A140, H⟩ := H
   replace H : (if x214001_1.length < 4398046511104 then (impl_copySender.l0 k1 l0_1 (l0_1.length : Int) (wrap64 (x14_1 + 1)) a0_0 (x214001_1 ++ [(⟨t216, t217⟩ : S66)]) a0_2) else (none)) = some (r1, r2, r3) := H
   have A14 := A_.mk A140
   clear A140
   by_cases c15 : x214001_1.length < 4398046511104
   rotate_left
   ·rw [if_neg c15] at H
    exact absurd H (by simp)
   rw [if_pos c15] at H
   have LMc15 := A_.mk c15
   clear c15
   obtain ⟨y220, hy220⟩ : ∃ y_ : List (S66), y_ = (x214001_1 ++ [(⟨t216, t217⟩ : S66)]) := ⟨_, rfl⟩
   replace H : (impl_copySender.l0 k1 l0_1 (l0_1.length : Int) (wrap64 (x14_1 + 1)) a0_0 y220 a0_2) = some (r1, r2, r3) := by first | (rw [hy220]; with_reducible exact H) | (have H2_ := (Option.bind_some _ _).symm.trans H; rw [hy220]; with_reducible exact H2_) | (have H2_ := (Option.bind_some _ _).symm.trans H; with_reducible exact H2_) | with_reducible exact H | (rw [hy220]; exact H) | exact H
   have Ny220 := A_.mk hy220
   clear hy220
   have H' := A_.mk H
   clear H
   have p214 : 0 ≤ (x14_1 : Int) := od_
   have q214 : x14_1 < (l0_1.length : Int) := od_
   obtain ⟨ad214, A214_1, c214_1, e214, hx214_0, hx214_1, hl214_1, hi214_1⟩ := at_T66 HR0_1.out x14_1 p214 q214
   cases e214
   replace hx214_0 := (HB.out.cell (wl_ w _ hx214_0)).trans hx214_0
   replace hx214_1 := (HB.out.cell (wl_ w _ hx214_1)).trans hx214_1
   have HR214_1 := A_.mk hi214_1
   have HC214_1 := A_.mk hl214_1
   clear hi214_1 hl214_1
   replace p214 := eq_true p214
   replace q214 := eq_true q214
   try go_wp2_with (first | ((with_reducible refine gd_ (N := 5) rfl ?_); refine by_ 5 (cs := #[.int .i64 0, .slice none 0 0]) (t := 66) ?_; intro gb215 hg w16 hbox hb; have n0_ := A_.mk (Kd.S_below (Kd.S_elderB (by (with_reducible repeat (first | apply Kd.S_alloc | apply Kd.S_drewN | apply Kd.S_drew)); exact HO_214001.out) gb215 (Nat.le_of_eq hg.symm)) hb); have n1_ := A_.mk (bb_ (bY BK211.out) hb); have n2_ := A_.mk (bb_ (bY BK212.out) hb); have n3_ := A_.mk (bb_ (bY BK213.out) hb); have n4_ := A_.mk (bt_ (by repeat (first | (with_reducible first | exact HB.out | apply ba_ | apply bd_ | apply be_ | refine bs_ ?_ GE211.out | refine bs_ ?_ GE212.out | refine bs_ ?_ GE213.out) | exact HB.out)) hb); have n5_ := A_.mk (hbox); have n6_ := A_.mk ((by rw [hg]; exact (bz_ (by repeat (first | (with_reducible first | exact HB.out | apply ba_ | apply bd_ | apply be_ | refine bs_ ?_ GE211.out | refine bs_ ?_ GE212.out | refine bs_ ?_ GE213.out) | exact HB.out))) : w.heap.size ≤ gb215)); have n7_ := A_.mk ((by rw [hg]; exact (bz_ (by repeat (first | (with_reducible first | exact HB.out | apply ba_ | apply bd_ | apply be_ | refine bs_ ?_ GE211.out | refine bs_ ?_ GE212.out | refine bs_ ?_ GE213.out) | exact HB.out))) : w.heap.size ≤ gb215)); have n8_ := A_.mk ((by rw [hg]; exact Nat.ne_of_lt (blk_lt (bY BK211.out)) : gb211 ≠ gb215)); have n9_ := A_.mk ((by rw [hg]; exact Nat.ne_of_gt (blk_lt (bY BK211.out)) : gb215 ≠ gb211)); have n10_ := A_.mk ((by rw [hg]; exact Nat.ne_of_lt (blk_lt (bY BK212.out)) : gb212 ≠ gb215)); have n11_ := A_.mk ((by rw [hg]; exact Nat.ne_of_gt (blk_lt (bY BK212.out)) : gb215 ≠ gb212)); have n12_ := A_.mk ((by rw [hg]; exact Nat.ne_of_lt (blk_lt (bY BK213.out)) : gb213 ≠ gb215)); have n13_ := A_.mk ((by rw [hg]; exact Nat.ne_of_gt (blk_lt (bY BK213.out)) : gb215 ≠ gb213)); clear HO_214001 BK211 BK212 BK213 HB; have HO_214001 := n0_; have BK211 := n1_; have BK212 := n2_; have BK213 := n3_; have HB := n4_; have BK215 := n5_; have GW215 := n6_; have GE215 := n7_; have NB211_215 := n8_; have NB215_211 := n9_; have NB212_215 := n10_; have NB215_212 := n11_; have NB213_215 := n12_; have NB215_213 := n13_; clear n0_ n1_ n2_ n3_ n4_ n5_ n6_ n7_ n8_ n9_ n10_ n11_ n12_ n13_ hb hbox hg; have hnb17 := NB215_211.out; have hnc17 := NB211_215.out; have hnb18 := NB215_212.out; have hnc18 := NB212_215.out; have hnb19 := NB215_213.out; have hnc19 := NB213_215.out; have hcz20_0 : w16.cell? ⟨gb215, 0, none⟩ = some (.int .i64 0) := (bc_ BK215.out 0).trans rfl; have hcz20_1 : w16.cell? ⟨gb215, 1, none⟩ = some (.slice none 0 0) := (bc_ BK215.out 1).trans rfl; have hfz20_0 := bf_ BK215.out 0; have hfz20_1 := bf_ BK215.out 1))
   have n0_ : A_ (Kd.S k66 66 ((w16.setCell ⟨gb215, 0, none⟩ (.int .i64 ((rd_T66 l0_1 x14_1).f0))).setCell ⟨gb215, 1, none⟩ (.slice A214_1 ((rd_T66 l0_1 x14_1).f1).length c214_1)) w.heap.size (fun k_ => k_ ≠ gb215) u214001 x214001_1) := ⟨by (with_reducible repeat (first | apply Kd.S_alloc | apply Kd.S_drewN | apply Kd.S_drew)); exact Kd.S_mono (Kd.S_far (p := ⟨gb215, 1, none⟩) (Kd.S_far (p := ⟨gb215, 0, none⟩) (Kd.S_mono HO_214001.out (fun k_ hk => (⟨hk, hk.2⟩ : _ ∧ k_ ≠ gb215))) (fun _ hk => hk.2) (.int .i64 ((rd_T66 l0_1 x14_1).f0))) (fun _ hk => hk.2) (.slice A214_1 ((rd_T66 l0_1 x14_1).f1).length c214_1)) (fun _ hk => hk.1.2)⟩
   have n1_ : A_ (((w16.setCell ⟨gb215, 0, none⟩ (.int .i64 ((rd_T66 l0_1 x14_1).f0))).setCell ⟨gb215, 1, none⟩ (.slice A214_1 ((rd_T66 l0_1 x14_1).f1).length c214_1)).heap[gb211]? = some (.cells #[.int .i64 a0_0, .slice (some ad214) l0_1.length c0_1, .int .i64 a0_2] 28 (0, 0))) := ⟨by (repeat apply bX); refine blk_far ?_ NB211_215.out _; (repeat apply bX); refine blk_far ?_ NB211_215.out _; (repeat apply bX); exact BK211.out⟩
   have n2_ : A_ (((w16.setCell ⟨gb215, 0, none⟩ (.int .i64 ((rd_T66 l0_1 x14_1).f0))).setCell ⟨gb215, 1, none⟩ (.slice A214_1 ((rd_T66 l0_1 x14_1).f1).length c214_1)).heap[gb212]? = some (.cells #[.int .i64 0, .slice none 0 0, .int .i64 0] 28 (0, 0))) := ⟨by (repeat apply bX); refine blk_far ?_ NB212_215.out _; (repeat apply bX); refine blk_far ?_ NB212_215.out _; (repeat apply bX); exact BK212.out⟩
   have n3_ : A_ (((w16.setCell ⟨gb215, 0, none⟩ (.int .i64 ((rd_T66 l0_1 x14_1).f0))).setCell ⟨gb215, 1, none⟩ (.slice A214_1 ((rd_T66 l0_1 x14_1).f1).length c214_1)).heap[gb213]? = some (.cells #[.int .i64 a0_0, u214001, .int .i64 a0_2] 28 (0, 0))) := ⟨by (repeat apply bX); refine blk_far ?_ NB213_215.out _; (repeat apply bX); refine blk_far ?_ NB213_215.out _; (repeat apply bX); exact BK213.out⟩
   have n4_ : A_ (((w16.setCell ⟨gb215, 0, none⟩ (.int .i64 ((rd_T66 l0_1 x14_1).f0))).setCell ⟨gb215, 1, none⟩ (.slice A214_1 ((rd_T66 l0_1 x14_1).f1).length c214_1)).heap[gb215]? = some (.cells #[.int .i64 ((rd_T66 l0_1 x14_1).f0), .slice A214_1 ((rd_T66 l0_1 x14_1).f1).length c214_1] 66 (0, 0))) := ⟨by (repeat apply bX); refine bp_ (cs := #[.int .i64 ((rd_T66 l0_1 x14_1).f0), .slice none 0 0]) ?_ 1 _ rfl; (repeat apply bX); refine bp_ (cs := #[.int .i64 0, .slice none 0 0]) ?_ 0 _ rfl; (repeat apply bX); exact BK215.out⟩
   have n5_ : A_ (Below w.heap.size w ((w16.setCell ⟨gb215, 0, none⟩ (.int .i64 ((rd_T66 l0_1 x14_1).f0))).setCell ⟨gb215, 1, none⟩ (.slice A214_1 ((rd_T66 l0_1 x14_1).f1).length c214_1))) := ⟨by repeat (first | (with_reducible first | exact HB.out | apply ba_ | apply bd_ | apply be_ | refine bs_ ?_ GE211.out | refine bs_ ?_ GE212.out | refine bs_ ?_ GE213.out | refine bs_ ?_ GE215.out) | exact HB.out)⟩
   generalize ((w16.setCell ⟨gb215, 0, none⟩ (.int .i64 ((rd_T66 l0_1 x14_1).f0))).setCell ⟨gb215, 1, none⟩ (.slice A214_1 ((rd_T66 l0_1 x14_1).f1).length c214_1)) = w21 at n0_ n1_ n2_ n3_ n4_ n5_ ⊢
   have HO_214001 := n0_
   have BK211 := n1_
   have BK212 := n2_
   have BK213 := n3_
   have BK215 := n4_
   have HB := n5_
   clear n0_ n1_ n2_ n3_ n4_ n5_
   have n0_ := A_.mk (Kd.S_drew HO_214001.out)
   have n1_ := A_.mk (bw_ BK211.out)
   have n2_ := A_.mk (bw_ BK212.out)
   have n3_ := A_.mk (bw_ BK213.out)
   have n4_ := A_.mk (bw_ BK215.out)
   have n5_ := A_.mk (be_ HB.out)
   clear HO_214001 BK211 BK212 BK213 BK215 HB
   have HO_214001 := n0_
   have BK211 := n1_
   have BK212 := n2_
   have BK213 := n3_
   have BK215 := n4_
   have HB := n5_
   clear n0_ n1_ n2_ n3_ n4_ n5_
   refine start_ (n := 8) (S := fun w' => w'.cell? ⟨gb213, 0, none⟩ = some (.int .i64 a0_0) ∧ w'.cell? ⟨gb213, 1, none⟩ = some (u214001) ∧ w'.cell? ⟨gb213, 2, none⟩ = some (.int .i64 a0_2) ∧ w'.cell? ⟨gb215, 0, none⟩ = some (.int .i64 ((rd_T66 l0_1 x14_1).f0)) ∧ w'.cell? ⟨gb215, 1, none⟩ = some (.slice A214_1 ((rd_T66 l0_1 x14_1).f1).length c214_1)) (ds := [7]) #[F, F, F, F, F, F, F, F] (by kernel_rfl) rfl rfl ⟨(bc_ BK213.out 0).trans rfl, (bc_ BK213.out 1).trans rfl, (bc_ BK213.out 2).trans rfl, (bc_ BK215.out 0).trans rfl, (bc_ BK215.out 1).trans rfl⟩ (fun hHeld => ?_); refine with_tabW impl_copySender.tab5 impl_copySender.bits5 (fun HT_ HW_ => ?_)
   generalize w21.drew = w22 at HO_214001 BK211 BK212 BK213 BK215 HB hHeld ⊢
   refine pr_ (i := 0) (N := some 18) #[T, F, F, F, F, F, F, F] rfl HT_.out ?_
   refine tk_ (i := 1) (N := some 19) #[T, T, F, F, F, F, F, F] rfl HT_.out HW_.out hHeld ?_
   refine tk_ (i := 2) (N := some 20) #[T, T, T, F, F, F, F, F] rfl HT_.out HW_.out hHeld ?_
   refine ot_ (i := 3) (N := some 21) #[T, T, T, T, F, F, F, F] rfl HT_.out (fun K hK => ?_)
   refine gz_ Try.func48 #[.agg #[.int .i64 ((rd_T66 l0_1 x14_1).f0), .slice A214_1 ((rd_T66 l0_1 x14_1).f1).length c214_1]] ?_
   with_reducible refine (impl_copyFrame.calls ((rd_T66 l0_1 x14_1).f0) _ _ ((rd_T66 l0_1 x14_1).f1) t216 t217 _ ?side1 ?side2 A14.out).mono ?_
   (case side1 => exact cY ((Kd.C_below HR214_1.out HB.out)))
   (case side2 => exact HC214_1.out)
   rintro e w23 ⟨v218, rfl, ho0, hb⟩
   refine ⟨_, rfl, ?_⟩
   have n0_ := A_.mk (Kd.S_elder' (by (with_reducible repeat (first | apply Kd.S_alloc | apply Kd.S_drewN | apply Kd.S_drew)); exact HO_214001.out) (Kd.R_base ho0) hb)
   have n1_ := A_.mk (Kd.R_lower ho0 (bz_ (by repeat (first | (with_reducible first | exact HB.out | apply ba_ | apply bd_ | apply be_ | refine bs_ ?_ GE211.out | refine bs_ ?_ GE212.out | refine bs_ ?_ GE213.out | refine bs_ ?_ GE215.out) | exact HB.out))))
   have n2_ := A_.mk (bb_ (bY BK211.out) hb)
   have n3_ := A_.mk (bb_ (bY BK212.out) hb)
   have n4_ := A_.mk (bb_ (bY BK213.out) hb)
   have n5_ := A_.mk (bb_ (bY BK215.out) hb)
   have n6_ := A_.mk (bt_ (by repeat (first | (with_reducible first | exact HB.out | apply ba_ | apply bd_ | apply be_ | refine bs_ ?_ GE211.out | refine bs_ ?_ GE212.out | refine bs_ ?_ GE213.out | refine bs_ ?_ GE215.out) | exact HB.out)) hb)
   clear HO_214001 BK211 BK212 BK213 BK215 HB
   have HO_214001 := n0_
   have HO219 := n1_
   have BK211 := n2_
   have BK212 := n3_
   have BK213 := n4_
   have BK215 := n5_
   have HB := n6_
   clear n0_ n1_ n2_ n3_ n4_ n5_ n6_
   obtain ⟨Ao25, co25, eo25⟩ := Kd.R_slice HO219.out
   (first | subst eo25 | (injection eo25 with f1_ f2_ f3_; have f4_ := f1_.symm; have f5_ := f3_.symm; clear f1_ f2_ f3_; subst f4_; subst f5_))
   refine hK.out _ _ ⟨(bc_ BK213.out 0).trans rfl, (bc_ BK213.out 1).trans rfl, (bc_ BK213.out 2).trans rfl, (bc_ BK215.out 0).trans rfl, (bc_ BK215.out 1).trans rfl⟩ (fun hHeld => ?_)
   clear hK K
   refine nm_ ?_
   refine ot_ (i := 4) (N := some 22) #[T, T, T, T, T, F, F, F] rfl HT_.out (fun K hK => ?_)
   refine value_ (w1 := ?_) (v := ?_) (by rfl) rfl ?_ ?_
   rotate_left 2
   ·go_simp
    constructor
    ·rfl
    ·rfl
   refine hK.out _ _ ⟨(bc_ (bl_ BK213.out _) 0).trans rfl, (bc_ (bl_ BK213.out _) 1).trans rfl, (bc_ (bl_ BK213.out _) 2).trans rfl, (bc_ (bl_ BK215.out _) 0).trans rfl, (bc_ (bl_ BK215.out _) 1).trans rfl⟩ (fun hHeld => ?_)
   clear hK K
   refine nm_ ?_
   refine ot_ (i := 5) (N := some 23) #[T, T, T, T, T, T, F, F] rfl HT_.out (fun K hK => ?_)
   refine Kd.S_append_step k66 (w0 := w) w.heap.size (by rfl) (.tmp 19) (.tmp 22) 26 66 (.agg #[(.int .i64 0), (.slice none 0 0)]) 32 rfl Try.underlying26 info66 rfl (by decide) (by omega) u214001 x214001_1 (⟨t216, t217⟩ : S66) [.int .i64 t216, .slice Ao25 t217.length co25] (fun k_ => k_ ≠ gb215) (fun k_ => some k_ = (.slice Ao25 t217.length co25 : Value).ownBlock) rfl rfl ?aP (fun k_ hk_ => ((Kd.R_mono (ok' := fun k_ => ((fun k_ => k_ ≠ gb215)) k_ ∧ some k_ ≠ (u214001 : Value).ownBlock) (Kd.R_types (Kd.R_apart' (HO219.out) (Kd.S_typed HO_214001.out) (by decide)) BK215.out (by decide)) (fun k_ hk => ⟨hk.2, hk.1.2⟩))).1 k_ hk_.symm) ?aF ?aO ?aB ?aS ?aL ?_
   (case aP => exact k66_mkM _ _ _ (⟨t216, t217⟩ : S66) (Kd.R_mono (Kd.R_tight rfl (Kd.R_mono (ok' := fun k_ => ((fun k_ => k_ ≠ gb215)) k_ ∧ some k_ ≠ (u214001 : Value).ownBlock) (Kd.R_types (Kd.R_apart' (HO219.out) (Kd.S_typed HO_214001.out) (by decide)) BK215.out (by decide)) (fun k_ hk => ⟨hk.2, hk.1.2⟩))) (fun _ h_ => h_)))
   (case aB => exact (by repeat (first | (with_reducible first | exact HB.out | apply ba_ | apply bd_ | apply be_ | refine bs_ ?_ GE211.out | refine bs_ ?_ GE212.out | refine bs_ ?_ GE213.out | refine bs_ ?_ GE215.out) | exact HB.out)))
   (case aF => exact (fun k_ hk => Kd.freshB (g := gb215) (o := .cells #[.int .i64 ((rd_T66 l0_1 x14_1).f0), .slice A214_1 ((rd_T66 l0_1 x14_1).f1).length c214_1] 66 (0, 0)) (bY BK215.out) k_ hk))
   (case aO => exact (by (with_reducible repeat (first | apply Kd.S_alloc | apply Kd.S_drewN | apply Kd.S_drew)); exact Kd.S_mono HO_214001.out (fun k_ hk => ⟨hk.1, fun e_ => hk.2 e_⟩)))
   (case aS => exact (bz_ (by repeat (first | (with_reducible first | exact HB.out | apply ba_ | apply bd_ | apply be_ | refine bs_ ?_ GE211.out | refine bs_ ?_ GE212.out | refine bs_ ?_ GE213.out | refine bs_ ?_ GE215.out) | exact HB.out))))
   (case aL => have := LMc15.out; omega)
   intro v221 w24 ho hb hg hat
   rw [← Ny220.out] at ho
   have n0_ := A_.mk (blk_grown (g := gb211) (o := .cells #[.int .i64 a0_0, .slice (some ad214) l0_1.length c0_1, .int .i64 a0_2] 28 (0, 0)) (bY BK211.out) hg (Kd.S_ne HO_214001.out BK211.out (by decide)))
   have n1_ := A_.mk (blk_grown (g := gb212) (o := .cells #[.int .i64 0, .slice none 0 0, .int .i64 0] 28 (0, 0)) (bY BK212.out) hg (Kd.S_ne HO_214001.out BK212.out (by decide)))
   have n2_ := A_.mk (blk_grown (g := gb213) (o := .cells #[.int .i64 a0_0, u214001, .int .i64 a0_2] 28 (0, 0)) (bY BK213.out) hg (Kd.S_ne HO_214001.out BK213.out (by decide)))
   have n3_ := A_.mk (blk_grown (g := gb215) (o := .cells #[.int .i64 ((rd_T66 l0_1 x14_1).f0), .slice A214_1 ((rd_T66 l0_1 x14_1).f1).length c214_1] 66 (0, 0)) (bY BK215.out) hg (Kd.S_away HO_214001.out (fun _ hk => hk.1)))
   have n4_ := A_.mk (hb)
   have n5_ := A_.mk (ho)
   clear BK211 BK212 BK213 BK215 HB HO_214001 HO219
   have BK211 := n0_
   have BK212 := n1_
   have BK213 := n2_
   have BK215 := n3_
   have HB := n4_
   have HO222 := n5_
   clear n0_ n1_ n2_ n3_ n4_ n5_ ho hb hg hat
   obtain ⟨Ao26, co26, eo26⟩ := Kd.S_slice HO222.out
   (first | subst eo26 | (injection eo26 with f1_ f2_ f3_; have f4_ := f1_.symm; have f5_ := f3_.symm; clear f1_ f2_ f3_; subst f4_; subst f5_))
   refine hK.out _ _ ⟨(bc_ BK213.out 0).trans rfl, (bc_ BK213.out 1).trans rfl, (bc_ BK213.out 2).trans rfl, (bc_ BK215.out 0).trans rfl, (bc_ BK215.out 1).trans rfl⟩ (fun hHeld => ?_)
   clear hK K
   refine nm_ ?_
   refine pr_ (i := 6) (N := some 24) #[T, T, T, T, T, T, T, F] rfl HT_.out ?_
   refine last_ (i := 7) (N := none) #[T, T, T, T, T, T, T, T] rfl rfl (one_of HT_.out (by kernel_rfl)) (by decide) (fun K hK => ?_)
   have hs27 : w24.cell? ⟨gb213, 1, none⟩ = some (u214001) := (bc_ BK213.out 1).trans rfl
   have hfs27 := bf_ BK213.out 1
   have hns27_0 := NB211_213.out
   have hns27_1 := NB212_213.out
   have hns27_3 := NB215_213.out
   have hms27_0 := NB213_211.out
   have hms27_1 := NB213_212.out
   have hms27_3 := NB213_215.out
   refine skip_ (w1 := ?_) (by rfl) rfl ?_ ?_
   rotate_left
   ·go_simp
    rfl
   refine hK.out _ _ ?_
   clear hK K
   refine done_ (done_of HT_.out (by kernel_rfl)) ?_
   try go_wp2
   go_roundg k1
   case measure => have := HK1.out; omega
   case rel => exact ⟨(wrap64 (x14_1 + 1)), (y220), (.slice Ao26 y220.length co26), (by first | rfl | (simp; done) | (simp [*]; done)), H', ⟨by have := HK1.out; omega⟩, ⟨by (with_reducible repeat (first | apply Kd.S_alloc | apply Kd.S_drewN | apply Kd.S_drew)); exact Kd.S_mono (Kd.S_far (p := ⟨gb213, 1, none⟩) (Kd.S_types HO222.out BK213.out (by decide)) (fun _ hk => hk.2) (.slice Ao26 y220.length co26)) (fun _ hk => trivial)⟩, ⟨by (repeat apply bX); refine blk_far ?_ NB211_213.out _; (repeat apply bX); exact BK211.out⟩, ⟨by (repeat apply bX); refine blk_far ?_ NB212_213.out _; (repeat apply bX); exact BK212.out⟩, ⟨by (repeat apply bX); refine bp_ (cs := #[.int .i64 a0_0, u214001, .int .i64 a0_2]) ?_ 1 _ rfl; (repeat apply bX); exact BK213.out⟩, ⟨by repeat (first | (with_reducible first | exact HB.out | apply ba_ | apply bd_ | apply be_ | refine bs_ ?_ GE211.out | refine bs_ ?_ GE212.out | refine bs_ ?_ GE213.out | refine bs_ ?_ GE215.out) | exact HB.out)⟩⟩
end Go.Proofs.Ytmdehehgmnihpaa.PFnLinkSteps
