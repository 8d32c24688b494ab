-- Written by a program of this session (wip/xp): not trusted, Lean checks it.
import Derived.Test.YtbdehpmfemgooaaPFnQueuesx0
import Derived.Test.YtbdehpmfemgooaaPFnQueuesx3
import Derived.Test.YtbdehpmfemgooaaPFnQueuesx8
namespace Go.Proofs.Ytbdehpmfemgooaa.PFnQueues
open Go.RowKit Go.Proofs.YtbdehpmfemgooaaW.PrintWords Go.Proofs.YtbdehpmfemgooaaW.PrintLast Go.Proofs.YtbdehpmfemgooaaW.PrintMore
attribute [local go_sem] max2_int min2_int max_two min_two max_three min_three max_four min_four   -- for this text's walks alone
set_option linter.unusedVariables false
set_option linter.unusedSimpArgs false

/-! ### slices_IndexFunc_int_int__impl_areCredits_1: function 100 -/
def slices_IndexFunc_int_int__impl_areCredits_1.l0 : Nat → List Int → Int → Int → Option (Int)
 | 0, _, _, _ => none
 | k + 1, x0, x7, x8 => if x8 < x7 then (if 0 ≤ x8 then (if x8 < (x0.length : Int) then ((impl_areCredits_1.f (rd x0 x8)).bind fun t359 => (if t359 = true then (some x8) else (slices_IndexFunc_int_int__impl_areCredits_1.l0 k x0 x7 (wrap64 (x8 + 1))))) else (none)) else (none)) else (some (-1))
def slices_IndexFunc_int_int__impl_areCredits_1.f (k : Nat) (l0 : List Int)  : Option (Int) := slices_IndexFunc_int_int__impl_areCredits_1.l0 k l0 (l0.length : Int) 0
set_option maxHeartbeats 8000000 in
set_option maxRecDepth 100000 in
theorem slices_IndexFunc_int_int__impl_areCredits_1.calls (k : Nat) (A0 : Option Addr) (c0 : Nat) (l0 : List Int)  (r : Int) (w : World) (hr0 : Kd.C (Kd.int .i64) w A0 l0.length l0) (hc0 : l0.length ≤ c0) (h : slices_IndexFunc_int_int__impl_areCredits_1.f k l0 = some r) :
  Calls Try.prog 100 #[.slice A0 l0.length c0, .func (.func 91) #[] #[]] w fun e w' => e = .returned (.int .i64 r) ∧ Drawn0 w w' := by
 have HR0 := A_.mk hr0
 have HC0 := A_.mk hc0
 clear hr0 hc0
 have H : (slices_IndexFunc_int_int__impl_areCredits_1.l0 k l0 (l0.length : Int) 0) = some r := h
 clear h
 have H' := A_.mk H
 clear H
 go_enter Try.func100, Try.ntmps100
 go_wp2
 go_loopg [8] k (fun kq v8 w' => ∃ (x8_1 : Int), v8 = .int .i64 x8_1 ∧ A_ (slices_IndexFunc_int_int__impl_areCredits_1.l0 kq l0 (l0.length : Int) x8_1 = some r) ∧ A_ (kq ≤ k) ∧ Drawn0 w w')
 case atStart => exact ⟨(0), (by first | rfl | (simp; done) | (simp [*]; done)), H', ⟨Nat.le_refl _⟩, by repeat (first | exact Drawn0.refl _ | apply Drawn0.step)⟩
 case round =>
  clear H'
  obtain ⟨x8_1, rfl, HA, HK1, ⟨m1, rfl⟩⟩ := hrel
  cases gk with
  | zero => exact absurd HA.out (by simp [slices_IndexFunc_int_int__impl_areCredits_1.l0])
  | succ k1 =>
   have H := HA.out
   clear HA
   simp only [slices_IndexFunc_int_int__impl_areCredits_1.l0] at H
   by_cases c3 : x8_1 < (l0.length : Int)
   rotate_left
   ·rw [if_neg c3] at H
    have c3b0 : decide (x8_1 < (l0.length : Int)) = false := decide_eq_false c3
    clear c3
    obtain rfl := Option.some.inj H
    go_wp2
    go_ret
    exact ⟨by first | rfl | (simp; done) | (simp [*]; done), by repeat (first | exact Drawn0.refl _ | apply Drawn0.step)⟩
   rw [if_pos c3] at H
   have c3b0 : decide (x8_1 < (l0.length : Int)) = true := decide_eq_true c3
   clear c3
   by_cases c4 : 0 ≤ x8_1
   rotate_left
   ·rw [if_neg c4] at H
    exact absurd H (by simp)
   rw [if_pos c4] at H
   have c4b0 : decide (0 ≤ x8_1) = true := decide_eq_true c4
   clear c4
   by_cases c5 : x8_1 < (l0.length : Int)
   rotate_left
   ·rw [if_neg c5] at H
    exact absurd H (by simp)
   rw [if_pos c5] at H
   have c5b0 : decide (x8_1 < (l0.length : Int)) = true := decide_eq_true c5
   clear c5
   replace H := ob_ H
   obtain ⟨t359, A60, H⟩ := H
   have A6 := A_.mk A60
   clear A60
   by_cases c7 : t359 = true
   ·subst c7
    have H1 : (some x8_1) = some r := by rw [if_pos rfl] at H; exact H
    clear H
    have H := H1
    clear H1
    obtain rfl := Option.some.inj H
    have p358 : 0 ≤ (x8_1 : Int) := od_
    have q358 : x8_1 < (l0.length : Int) := od_
    obtain ⟨ad358, e358, hx358_0⟩ := Kd.at_int HR0.out x8_1 p358 q358
    cases e358
    replace p358 := eq_true p358
    replace q358 := eq_true q358
    go_wp2_with (first | (go_at_call 91; (with_reducible refine (impl_areCredits_1.calls (rd l0 x8_1) true _ A6.out).mono ?_); rintro e w' ⟨rfl, ⟨nd, rfl⟩⟩))
    go_ret
    exact ⟨by first | rfl | (simp; done) | (simp [*]; done), by repeat (first | exact Drawn0.refl _ | apply Drawn0.step)⟩
   replace c7 := Bool.eq_false_iff.mpr c7
   subst c7
   have H1 : (slices_IndexFunc_int_int__impl_areCredits_1.l0 k1 l0 (l0.length : Int) (wrap64 (x8_1 + 1))) = some r := by rw [if_neg (show ¬ (false = true) by decide)] at H; exact H
   clear H
   have H := H1
   clear H1
   have H' := A_.mk H
   clear H
   have p358 : 0 ≤ (x8_1 : Int) := od_
   have q358 : x8_1 < (l0.length : Int) := od_
   obtain ⟨ad358, e358, hx358_0⟩ := Kd.at_int HR0.out x8_1 p358 q358
   cases e358
   replace p358 := eq_true p358
   replace q358 := eq_true q358
   go_wp2_with (first | (go_at_call 91; (with_reducible refine (impl_areCredits_1.calls (rd l0 x8_1) false _ A6.out).mono ?_); rintro e w' ⟨rfl, ⟨nd, rfl⟩⟩))
   go_roundg k1
   case measure => have := HK1.out; omega
   case rel => exact ⟨(wrap64 (x8_1 + 1)), (by first | rfl | (simp; done) | (simp [*]; done)), H', ⟨by have := HK1.out; omega⟩, by repeat (first | exact Drawn0.refl _ | apply Drawn0.step)⟩
/-! ### slices_ContainsFunc_int_int__impl_areCredits_1: function 90 -/
def slices_ContainsFunc_int_int__impl_areCredits_1.f (k : Nat) (l0 : List Int)  : Option (Bool) := (slices_IndexFunc_int_int__impl_areCredits_1.f k l0).bind fun t360 => (some (decide (t360 ≥ 0)))
set_option maxHeartbeats 8000000 in
set_option maxRecDepth 100000 in
theorem slices_ContainsFunc_int_int__impl_areCredits_1.calls (k : Nat) (A0 : Option Addr) (c0 : Nat) (l0 : List Int)  (r : Bool) (w : World) (hr0 : Kd.C (Kd.int .i64) w A0 l0.length l0) (hc0 : l0.length ≤ c0) (h : slices_ContainsFunc_int_int__impl_areCredits_1.f k l0 = some r) :
  Calls Try.prog 90 #[.slice A0 l0.length c0, .func (.func 91) #[] #[]] w fun e w' => e = .returned (.bool r) ∧ Drawn0 w w' := by
 have HR0 := A_.mk hr0
 have HC0 := A_.mk hc0
 clear hr0 hc0
 have H : ((slices_IndexFunc_int_int__impl_areCredits_1.f k l0).bind fun t360 => (some (decide (t360 ≥ 0)))) = some r := h
 clear h
 replace H := ob_ H
 obtain ⟨t360, A30, H⟩ := H
 have A3 := A_.mk A30
 clear A30
 obtain rfl := Option.some.inj H
 go_enter Try.func90, Try.ntmps90
 go_wp2_with (first | ((with_reducible refine gc_ (f := 100) rfl ?_); refine gl_ (some 7) Try.func100 #[.slice A0 l0.length c0, .func (.func 91) #[] #[]] ?_; (with_reducible refine (slices_IndexFunc_int_int__impl_areCredits_1.calls k _ _ l0  t360 _ ?side1 ?side2 A3.out).mono ?_); (case side1 => exact cY (HR0.out)); (case side2 => exact HC0.out); rintro e w' ⟨rfl, ⟨nd, rfl⟩⟩; refine ⟨_, rfl, ?_⟩))
 go_ret
 exact ⟨by first | rfl | (simp; done) | (simp [*]; done), by repeat (first | exact Drawn0.refl _ | apply Drawn0.step)⟩

/-! ### impl_areCredits: function 68 -/
def impl_areCredits.f (k : Nat) (l0 : List Int) : Option (Bool) := if (l0.length : Int) = 3 then ((slices_ContainsFunc_int_int__impl_areCredits_1.f k l0).bind fun t361 => (some (!t361))) else (some false)
set_option maxHeartbeats 8000000 in
set_option maxRecDepth 100000 in
theorem impl_areCredits.calls (k : Nat) (A0 : Option Addr) (c0 : Nat) (l0 : List Int) (r : Bool) (w : World) (hr0 : Kd.C (Kd.int .i64) w A0 l0.length l0) (hc0 : l0.length ≤ c0) (h : impl_areCredits.f k l0 = some r) :
  Calls Try.prog 68 #[.slice A0 l0.length c0] w fun e w' => e = .returned (.bool r) ∧ Drawn0 w w' := by
 have HR0 := A_.mk hr0
 have HC0 := A_.mk hc0
 clear hr0 hc0
 have H : (if (l0.length : Int) = 3 then ((slices_ContainsFunc_int_int__impl_areCredits_1.f k l0).bind fun t361 => (some (!t361))) else (some false)) = some r := h
 clear h
 by_cases c2 : (l0.length : Int) = 3
 ·rw [if_pos c2] at H
  have c2b0 : ((l0.length : Int) == 3) = true := beq_iff_eq.mpr c2
  have c2b1 : ((l0.length : Int) != 3) = false := bne_eq_false_iff_eq.mpr c2
  clear c2
  replace H := ob_ H
  obtain ⟨t361, A30, H⟩ := H
  have A3 := A_.mk A30
  clear A30
  obtain rfl := Option.some.inj H
  go_enter Try.func68, Try.ntmps68
  go_wp2_with (first | (go_at_call 90; (with_reducible refine (slices_ContainsFunc_int_int__impl_areCredits_1.calls k _ _ l0  t361 _ ?side1 ?side2 A3.out).mono ?_); (case side1 => exact cY (HR0.out)); (case side2 => exact HC0.out); rintro e w' ⟨rfl, ⟨nd, rfl⟩⟩))
  go_ret
  exact ⟨by first | rfl | (simp; done) | (simp [*]; done), by repeat (first | exact Drawn0.refl _ | apply Drawn0.step)⟩
 ·rw [if_neg c2] at H
  have c2b0 : ((l0.length : Int) == 3) = false := beq_eq_false_iff_ne.mpr c2
  have c2b1 : ((l0.length : Int) != 3) = true := bne_iff_ne.mpr c2
  obtain rfl := Option.some.inj H
  go_enter Try.func68, Try.ntmps68
  go_wp2
  go_ret
  exact ⟨by first | rfl | (simp; done) | (simp [*]; done), by repeat (first | exact Drawn0.refl _ | apply Drawn0.step)⟩

/-! ### impl_CreditsOk: function 43 -/
def impl_CreditsOk.f (k : Nat) (l0_0 : List Int) (l0_1 : List Int) : Option (Bool) := (impl_areCredits.f k l0_0).bind fun t363 => (if t363 = true then ((impl_areCredits.f k l0_1).bind fun t364 => (some t364)) else (some false))
set_option maxHeartbeats 8000000 in
set_option maxRecDepth 100000 in
theorem impl_CreditsOk.calls (k : Nat) (A0_0 : Option Addr) (c0_0 : Nat) (l0_0 : List Int) (A0_1 : Option Addr) (c0_1 : Nat) (l0_1 : List Int) (r : Bool) (w : World) (hr0_0 : Kd.C (Kd.int .i64) w A0_0 l0_0.length l0_0) (hc0_0 : l0_0.length ≤ c0_0) (hr0_1 : Kd.C (Kd.int .i64) w A0_1 l0_1.length l0_1) (hc0_1 : l0_1.length ≤ c0_1) (h : impl_CreditsOk.f k l0_0 l0_1 = some r) :
  Calls Try.prog 43 #[.agg #[.slice A0_0 l0_0.length c0_0, .slice A0_1 l0_1.length c0_1]] w fun e w' => e = .returned (.bool r) ∧ Below w.heap.size w w' := by
 have hu26 := Try.underlying26
 have HR0_0 := A_.mk hr0_0
 have HC0_0 := A_.mk hc0_0
 clear hr0_0 hc0_0
 have HR0_1 := A_.mk hr0_1
 have HC0_1 := A_.mk hc0_1
 clear hr0_1 hc0_1
 have HB := A_.mk (Below.refl w.heap.size w)
 have H : ((impl_areCredits.f k l0_0).bind fun t363 => (if t363 = true then ((impl_areCredits.f k l0_1).bind fun t364 => (some t364)) else (some false))) = some r := h
 clear h
 replace H := ob_ H
 obtain ⟨t363, A20, H⟩ := H
 have A2 := A_.mk A20
 clear A20
 by_cases c3 : t363 = true
 rotate_left
 ·replace c3 := Bool.eq_false_iff.mpr c3
  subst c3
  have H1 : (some false) = some r := by rw [if_neg (show ¬ (false = true) by decide)] at H; exact H
  clear H
  have H := H1
  clear H1
  obtain rfl := Option.some.inj H
  go_enter Try.func43, Try.ntmps43
  go_wp2_with (first | ((with_reducible refine gd_ (N := 1) rfl ?_); refine by_ 1 (cs := #[.slice A0_0 l0_0.length c0_0, .slice A0_1 l0_1.length c0_1]) (t := 26) ?_; intro gb362 hg w7 hbox hb; have n0_ := A_.mk (bt_ (beY HB.out) hb); have n1_ := A_.mk (hbox); have n2_ := A_.mk ((by rw [hg]; exact (bz_ (beY HB.out)) : w.heap.size ≤ gb362)); have n3_ := A_.mk ((by rw [hg]; exact (bz_ (beY HB.out)) : w.heap.size ≤ gb362)); clear HB; have HB := n0_; have BK362 := n1_; have GW362 := n2_; have GE362 := n3_; clear n0_ n1_ n2_ n3_ hb hbox hg; have hcz8_0 : w7.cell? ⟨gb362, 0, none⟩ = some (.slice A0_0 l0_0.length c0_0) := (bc_ BK362.out 0).trans rfl; have hcz8_1 : w7.cell? ⟨gb362, 1, none⟩ = some (.slice A0_1 l0_1.length c0_1) := (bc_ BK362.out 1).trans rfl; have hfz8_0 := bf_ BK362.out 0; have hfz8_1 := bf_ BK362.out 1) | ((with_reducible refine gc_ (f := 68) rfl ?_); refine gl_ (some 5) Try.func68 #[.slice A0_0 l0_0.length c0_0] ?_; (with_reducible refine (impl_areCredits.calls k _ _ l0_0 false _ ?side1 ?side2 A2.out).mono ?_); (case side1 => exact cY ((Kd.C_below HR0_0.out HB.out))); (case side2 => exact HC0_0.out); rintro e w' ⟨rfl, ⟨nd, rfl⟩⟩; refine ⟨_, rfl, ?_⟩))
  go_ret
  exact ⟨by first | rfl | (simp [errW_none, errW_some] <;> rfl) | (simp [*, errW_none, errW_some] <;> rfl), by repeat (first | (with_reducible first | exact HB.out | apply ba_ | apply bd_ | apply be_ | refine bs_ ?_ GE362.out) | exact HB.out)⟩
 subst c3
 have H1 : ((impl_areCredits.f k l0_1).bind fun t364 => (some t364)) = some r := by rw [if_pos rfl] at H; exact H
 clear H
 have H := H1
 clear H1
 replace H := ob_ H
 obtain ⟨t364, A40, H⟩ := H
 have A4 := A_.mk A40
 clear A40
 obtain rfl := Option.some.inj H
 go_enter Try.func43, Try.ntmps43
 go_wp2_with (first | ((with_reducible refine gd_ (N := 1) rfl ?_); refine by_ 1 (cs := #[.slice A0_0 l0_0.length c0_0, .slice A0_1 l0_1.length c0_1]) (t := 26) ?_; intro gb362 hg w5 hbox hb; have n0_ := A_.mk (bt_ (beY HB.out) hb); have n1_ := A_.mk (hbox); have n2_ := A_.mk ((by rw [hg]; exact (bz_ (beY HB.out)) : w.heap.size ≤ gb362)); have n3_ := A_.mk ((by rw [hg]; exact (bz_ (beY HB.out)) : w.heap.size ≤ gb362)); clear HB; have HB := n0_; have BK362 := n1_; have GW362 := n2_; have GE362 := n3_; clear n0_ n1_ n2_ n3_ hb hbox hg; have hcz6_0 : w5.cell? ⟨gb362, 0, none⟩ = some (.slice A0_0 l0_0.length c0_0) := (bc_ BK362.out 0).trans rfl; have hcz6_1 : w5.cell? ⟨gb362, 1, none⟩ = some (.slice A0_1 l0_1.length c0_1) := (bc_ BK362.out 1).trans rfl; have hfz6_0 := bf_ BK362.out 0; have hfz6_1 := bf_ BK362.out 1) | ((with_reducible refine gc_ (f := 68) rfl ?_); refine gl_ (some 5) Try.func68 #[.slice A0_0 l0_0.length c0_0] ?_; (with_reducible refine (impl_areCredits.calls k _ _ l0_0 true _ ?side1 ?side2 A2.out).mono ?_); (case side1 => exact cY ((Kd.C_below HR0_0.out HB.out))); (case side2 => exact HC0_0.out); rintro e w' ⟨rfl, ⟨nd, rfl⟩⟩; refine ⟨_, rfl, ?_⟩) | (go_at_call 68; (with_reducible refine (impl_areCredits.calls k _ _ l0_1 t364 _ ?side1 ?side2 A4.out).mono ?_); (case side1 => repeat (first | exact (Kd.C_below HR0_1.out (by repeat (first | (with_reducible first | exact HB.out | apply ba_ | apply bd_ | apply be_ | refine bs_ ?_ GE362.out) | exact HB.out))) | (with_reducible refine Kd.C_alloc ?_ _) | (with_reducible refine Kd.C_drewN ?_ _) | (with_reducible refine Kd.C_drew ?_))); (case side2 => exact HC0_1.out); rintro e w' ⟨rfl, ⟨nd, rfl⟩⟩))
 go_ret
 exact ⟨by first | rfl | (simp [errW_none, errW_some] <;> rfl) | (simp [*, errW_none, errW_some] <;> rfl), by repeat (first | (with_reducible first | exact HB.out | apply ba_ | apply bd_ | apply be_ | refine bs_ ?_ GE362.out) | exact HB.out)⟩
/-! ### impl_arePackets_1: function 84 -/
def impl_arePackets_1.f (k : Nat) (a0_0 : Int) (a0_1 : Int) (a0_2 : Int) (a0_3 : Int) (a0_4 : Int) (a0_5 : Int) (a0_6 : Int) (l0_7 : List Int) : Option (Bool) := (impl_IsPacket.f k a0_0 a0_1 a0_2 a0_3 a0_4 a0_5 a0_6 l0_7).bind fun t366 => (some (!t366))
set_option maxHeartbeats 8000000 in
set_option maxRecDepth 100000 in
theorem impl_arePackets_1.calls (k : Nat) (a0_0 : Int) (a0_1 : Int) (a0_2 : Int) (a0_3 : Int) (a0_4 : Int) (a0_5 : Int) (a0_6 : Int) (A0_7 : Option Addr) (c0_7 : Nat) (l0_7 : List Int) (r : Bool) (w : World) (hr0_7 : Kd.C (Kd.int .i64) w A0_7 l0_7.length l0_7) (hc0_7 : l0_7.length ≤ c0_7) (h : impl_arePackets_1.f k a0_0 a0_1 a0_2 a0_3 a0_4 a0_5 a0_6 l0_7 = some r) :
  Calls Try.prog 84 #[.agg #[.int .i64 a0_0, .int .i64 a0_1, .int .i64 a0_2, .int .i64 a0_3, .int .i64 a0_4, .int .i64 a0_5, .int .i64 a0_6, .slice A0_7 l0_7.length c0_7]] w fun e w' => e = .returned (.bool r) ∧ Below w.heap.size w w' := by
 have hu60 := Try.underlying60
 have HR0_7 := A_.mk hr0_7
 have HC0_7 := A_.mk hc0_7
 clear hr0_7 hc0_7
 have HB := A_.mk (Below.refl w.heap.size w)
 have H : ((impl_IsPacket.f k a0_0 a0_1 a0_2 a0_3 a0_4 a0_5 a0_6 l0_7).bind fun t366 => (some (!t366))) = some r := h
 clear h
 replace H := ob_ H
 obtain ⟨t366, A20, H⟩ := H
 have A2 := A_.mk A20
 clear A20
 obtain rfl := Option.some.inj H
 go_enter Try.func84, Try.ntmps84
 go_wp2_with (first | ((with_reducible refine gd_ (N := 1) rfl ?_); refine by_ 1 (cs := #[.int .i64 a0_0, .int .i64 a0_1, .int .i64 a0_2, .int .i64 a0_3, .int .i64 a0_4, .int .i64 a0_5, .int .i64 a0_6, .slice A0_7 l0_7.length c0_7]) (t := 60) ?_; intro gb365 hg w3 hbox hb; have n0_ := A_.mk (bt_ (beY HB.out) hb); have n1_ := A_.mk (hbox); have n2_ := A_.mk ((by rw [hg]; exact (bz_ (beY HB.out)) : w.heap.size ≤ gb365)); have n3_ := A_.mk ((by rw [hg]; exact (bz_ (beY HB.out)) : w.heap.size ≤ gb365)); clear HB; have HB := n0_; have BK365 := n1_; have GW365 := n2_; have GE365 := n3_; clear n0_ n1_ n2_ n3_ hb hbox hg; have hcz4_0 : w3.cell? ⟨gb365, 0, none⟩ = some (.int .i64 a0_0) := (bc_ BK365.out 0).trans rfl; have hcz4_1 : w3.cell? ⟨gb365, 1, none⟩ = some (.int .i64 a0_1) := (bc_ BK365.out 1).trans rfl; have hcz4_2 : w3.cell? ⟨gb365, 2, none⟩ = some (.int .i64 a0_2) := (bc_ BK365.out 2).trans rfl; have hcz4_3 : w3.cell? ⟨gb365, 3, none⟩ = some (.int .i64 a0_3) := (bc_ BK365.out 3).trans rfl; have hcz4_4 : w3.cell? ⟨gb365, 4, none⟩ = some (.int .i64 a0_4) := (bc_ BK365.out 4).trans rfl; have hcz4_5 : w3.cell? ⟨gb365, 5, none⟩ = some (.int .i64 a0_5) := (bc_ BK365.out 5).trans rfl; have hcz4_6 : w3.cell? ⟨gb365, 6, none⟩ = some (.int .i64 a0_6) := (bc_ BK365.out 6).trans rfl; have hcz4_7 : w3.cell? ⟨gb365, 7, none⟩ = some (.slice A0_7 l0_7.length c0_7) := (bc_ BK365.out 7).trans rfl; have hfz4_0 := bf_ BK365.out 0; have hfz4_1 := bf_ BK365.out 1; have hfz4_2 := bf_ BK365.out 2; have hfz4_3 := bf_ BK365.out 3; have hfz4_4 := bf_ BK365.out 4; have hfz4_5 := bf_ BK365.out 5; have hfz4_6 := bf_ BK365.out 6; have hfz4_7 := bf_ BK365.out 7) | ((with_reducible refine gc_ (f := 65) rfl ?_); refine gl_ (some 4) Try.func65 #[.agg #[.int .i64 a0_0, .int .i64 a0_1, .int .i64 a0_2, .int .i64 a0_3, .int .i64 a0_4, .int .i64 a0_5, .int .i64 a0_6, .slice A0_7 l0_7.length c0_7]] ?_; (with_reducible refine (impl_IsPacket.calls k a0_0 a0_1 a0_2 a0_3 a0_4 a0_5 a0_6 _ _ l0_7 t366 _ ?side1 ?side2 A2.out).mono ?_); (case side1 => exact cY ((Kd.C_below HR0_7.out HB.out))); (case side2 => exact HC0_7.out); rintro e w5 ⟨rfl, hb⟩; refine ⟨_, rfl, ?_⟩; have n0_ := A_.mk (bb_ (bY BK365.out) hb); have n1_ := A_.mk (bt_ (by repeat (first | (with_reducible first | exact HB.out | apply ba_ | apply bd_ | apply be_ | refine bs_ ?_ GE365.out) | exact HB.out)) hb); clear BK365 HB; have BK365 := n0_; have HB := n1_; clear n0_ n1_; (try clear hb); (try clear hb2); (try clear hk); (try clear hi)))
 go_ret
 exact ⟨by first | rfl | (simp [errW_none, errW_some] <;> rfl) | (simp [*, errW_none, errW_some] <;> rfl), by repeat (first | (with_reducible first | exact HB.out | apply ba_ | apply bd_ | apply be_ | refine bs_ ?_ GE365.out) | exact HB.out)⟩
/-! ### slices_IndexFunc_impl_Packet_impl_Packet__impl_arePackets_1: function 92 -/
def slices_IndexFunc_impl_Packet_impl_Packet__impl_arePackets_1.l0 : Nat → List (S60) → Int → Int → Option (Int)
 | 0, _, _, _ => none
 | k + 1, x0, x7, x8 => if x8 < x7 then (if 0 ≤ x8 then (if x8 < (x0.length : Int) then ((impl_arePackets_1.f k ((rd_T60 x0 x8).f0) ((rd_T60 x0 x8).f1) ((rd_T60 x0 x8).f2) ((rd_T60 x0 x8).f3) ((rd_T60 x0 x8).f4) ((rd_T60 x0 x8).f5) ((rd_T60 x0 x8).f6) ((rd_T60 x0 x8).f7)).bind fun t368 => (if t368 = true then (some x8) else (slices_IndexFunc_impl_Packet_impl_Packet__impl_arePackets_1.l0 k x0 x7 (wrap64 (x8 + 1))))) else (none)) else (none)) else (some (-1))
def slices_IndexFunc_impl_Packet_impl_Packet__impl_arePackets_1.f (k : Nat) (l0 : List (S60))  : Option (Int) := slices_IndexFunc_impl_Packet_impl_Packet__impl_arePackets_1.l0 k l0 (l0.length : Int) 0
set_option maxHeartbeats 8000000 in
set_option maxRecDepth 100000 in
theorem slices_IndexFunc_impl_Packet_impl_Packet__impl_arePackets_1.calls (k : Nat) (A0 : Option Addr) (c0 : Nat) (l0 : List (S60))  (r : Int) (w : World) (hr0 : Kd.C k60 w A0 l0.length l0) (hc0 : l0.length ≤ c0) (h : slices_IndexFunc_impl_Packet_impl_Packet__impl_arePackets_1.f k l0 = some r) :
  Calls Try.prog 92 #[.slice A0 l0.length c0, .func (.func 84) #[] #[]] w fun e w' => e = .returned (.int .i64 r) ∧ Below w.heap.size w w' := by
 have hu60 := Try.underlying60
 have HR0 := A_.mk hr0
 have HC0 := A_.mk hc0
 clear hr0 hc0
 have HB := A_.mk (Below.refl w.heap.size w)
 have H : (slices_IndexFunc_impl_Packet_impl_Packet__impl_arePackets_1.l0 k l0 (l0.length : Int) 0) = some r := h
 clear h
 have H' := A_.mk H
 clear H
 go_enter Try.func92, Try.ntmps92
 go_wp2
 go_loopg [8] k (fun kq v8 w' => ∃ (x8_1 : Int), v8 = .int .i64 x8_1 ∧ A_ (slices_IndexFunc_impl_Packet_impl_Packet__impl_arePackets_1.l0 kq l0 (l0.length : Int) x8_1 = some r) ∧ A_ (kq ≤ k) ∧ A_ (Below w.heap.size w w'))
 case atStart => exact ⟨(0), (by first | rfl | (simp; done) | (simp [*]; done)), H', ⟨Nat.le_refl _⟩, ⟨beY HB.out⟩⟩
 case round =>
  clear H'
  obtain ⟨x8_1, rfl, HA, HK1, HB⟩ := hrel
  cases gk with
  | zero => exact absurd HA.out (by simp [slices_IndexFunc_impl_Packet_impl_Packet__impl_arePackets_1.l0])
  | succ k1 =>
   have H := HA.out
   clear HA
   simp only [slices_IndexFunc_impl_Packet_impl_Packet__impl_arePackets_1.l0] at H
   by_cases c3 : x8_1 < (l0.length : Int)
   rotate_left
   ·rw [if_neg c3] at H
    have c3b0 : decide (x8_1 < (l0.length : Int)) = false := decide_eq_false c3
    clear c3
    obtain rfl := Option.some.inj H
    go_wp2
    go_ret
    exact ⟨by first | rfl | (simp [errW_none, errW_some] <;> rfl) | (simp [*, errW_none, errW_some] <;> rfl), beY HB.out⟩
   rw [if_pos c3] at H
   have c3b0 : decide (x8_1 < (l0.length : Int)) = true := decide_eq_true c3
   clear c3
   by_cases c4 : 0 ≤ x8_1
   rotate_left
   ·rw [if_neg c4] at H
    exact absurd H (by simp)
   rw [if_pos c4] at H
   have c4b0 : decide (0 ≤ x8_1) = true := decide_eq_true c4
   clear c4
   by_cases c5 : x8_1 < (l0.length : Int)
   rotate_left
   ·rw [if_neg c5] at H
    exact absurd H (by simp)
   rw [if_pos c5] at H
   have c5b0 : decide (x8_1 < (l0.length : Int)) = true := decide_eq_true c5
   clear c5
   replace H := ob_ H
   obtain ⟨t368, A60, H⟩ := H
   have A6 := A_.mk A60
   clear A60
   by_cases c7 : t368 = true
   ·subst c7
    have H1 : (some x8_1) = some r := by rw [if_pos rfl] at H; exact H
    clear H
    have H := H1
    clear H1
    obtain rfl := Option.some.inj H
    have p367 : 0 ≤ (x8_1 : Int) := od_
    have q367 : x8_1 < (l0.length : Int) := od_
    obtain ⟨ad367, A367_7, c367_7, e367, hx367_0, hx367_1, hx367_2, hx367_3, hx367_4, hx367_5, hx367_6, hx367_7, hl367_7, hi367_7⟩ := at_T60 HR0.out x8_1 p367 q367
    cases e367
    replace hx367_0 := (HB.out.cell (wl_ w _ hx367_0)).trans hx367_0
    replace hx367_1 := (HB.out.cell (wl_ w _ hx367_1)).trans hx367_1
    replace hx367_2 := (HB.out.cell (wl_ w _ hx367_2)).trans hx367_2
    replace hx367_3 := (HB.out.cell (wl_ w _ hx367_3)).trans hx367_3
    replace hx367_4 := (HB.out.cell (wl_ w _ hx367_4)).trans hx367_4
    replace hx367_5 := (HB.out.cell (wl_ w _ hx367_5)).trans hx367_5
    replace hx367_6 := (HB.out.cell (wl_ w _ hx367_6)).trans hx367_6
    replace hx367_7 := (HB.out.cell (wl_ w _ hx367_7)).trans hx367_7
    have HR367_7 := A_.mk hi367_7
    have HC367_7 := A_.mk hl367_7
    clear hi367_7 hl367_7
    replace p367 := eq_true p367
    replace q367 := eq_true q367
    go_wp2_with (first | (go_at_call 84; (with_reducible refine (impl_arePackets_1.calls k1 ((rd_T60 l0 x8_1).f0) ((rd_T60 l0 x8_1).f1) ((rd_T60 l0 x8_1).f2) ((rd_T60 l0 x8_1).f3) ((rd_T60 l0 x8_1).f4) ((rd_T60 l0 x8_1).f5) ((rd_T60 l0 x8_1).f6) _ _ ((rd_T60 l0 x8_1).f7) true _ ?side1 ?side2 A6.out).mono ?_); (case side1 => exact cY ((Kd.C_below HR367_7.out HB.out))); (case side2 => exact HC367_7.out); rintro e w8 ⟨rfl, hb⟩; have n0_ := A_.mk (bt_ (beY HB.out) hb); clear HB; have HB := n0_; clear n0_; (try clear hb); (try clear hb2); (try clear hk); (try clear hi)))
    go_ret
    exact ⟨by first | rfl | (simp [errW_none, errW_some] <;> rfl) | (simp [*, errW_none, errW_some] <;> rfl), beY HB.out⟩
   replace c7 := Bool.eq_false_iff.mpr c7
   subst c7
   have H1 : (slices_IndexFunc_impl_Packet_impl_Packet__impl_arePackets_1.l0 k1 l0 (l0.length : Int) (wrap64 (x8_1 + 1))) = some r := by rw [if_neg (show ¬ (false = true) by decide)] at H; exact H
   clear H
   have H := H1
   clear H1
   have H' := A_.mk H
   clear H
   have p367 : 0 ≤ (x8_1 : Int) := od_
   have q367 : x8_1 < (l0.length : Int) := od_
   obtain ⟨ad367, A367_7, c367_7, e367, hx367_0, hx367_1, hx367_2, hx367_3, hx367_4, hx367_5, hx367_6, hx367_7, hl367_7, hi367_7⟩ := at_T60 HR0.out x8_1 p367 q367
   cases e367
   replace hx367_0 := (HB.out.cell (wl_ w _ hx367_0)).trans hx367_0
   replace hx367_1 := (HB.out.cell (wl_ w _ hx367_1)).trans hx367_1
   replace hx367_2 := (HB.out.cell (wl_ w _ hx367_2)).trans hx367_2
   replace hx367_3 := (HB.out.cell (wl_ w _ hx367_3)).trans hx367_3
   replace hx367_4 := (HB.out.cell (wl_ w _ hx367_4)).trans hx367_4
   replace hx367_5 := (HB.out.cell (wl_ w _ hx367_5)).trans hx367_5
   replace hx367_6 := (HB.out.cell (wl_ w _ hx367_6)).trans hx367_6
   replace hx367_7 := (HB.out.cell (wl_ w _ hx367_7)).trans hx367_7
   have HR367_7 := A_.mk hi367_7
   have HC367_7 := A_.mk hl367_7
   clear hi367_7 hl367_7
   replace p367 := eq_true p367
   replace q367 := eq_true q367
   go_wp2_with (first | (go_at_call 84; (with_reducible refine (impl_arePackets_1.calls k1 ((rd_T60 l0 x8_1).f0) ((rd_T60 l0 x8_1).f1) ((rd_T60 l0 x8_1).f2) ((rd_T60 l0 x8_1).f3) ((rd_T60 l0 x8_1).f4) ((rd_T60 l0 x8_1).f5) ((rd_T60 l0 x8_1).f6) _ _ ((rd_T60 l0 x8_1).f7) false _ ?side1 ?side2 A6.out).mono ?_); (case side1 => exact cY ((Kd.C_below HR367_7.out HB.out))); (case side2 => exact HC367_7.out); rintro e w9 ⟨rfl, hb⟩; have n0_ := A_.mk (bt_ (beY HB.out) hb); clear HB; have HB := n0_; clear n0_; (try clear hb); (try clear hb2); (try clear hk); (try clear hi)))
   go_roundg k1
   case measure => have := HK1.out; omega
   case rel => exact ⟨(wrap64 (x8_1 + 1)), (by first | rfl | (simp; done) | (simp [*]; done)), H', ⟨by have := HK1.out; omega⟩, ⟨beY HB.out⟩⟩
/-! ### slices_ContainsFunc_impl_Packet_impl_Packet__impl_arePackets_1: function 74 -/
def slices_ContainsFunc_impl_Packet_impl_Packet__impl_arePackets_1.f (k : Nat) (l0 : List (S60))  : Option (Bool) := (slices_IndexFunc_impl_Packet_impl_Packet__impl_arePackets_1.f k l0).bind fun t369 => (some (decide (t369 ≥ 0)))
set_option maxHeartbeats 8000000 in
set_option maxRecDepth 100000 in
theorem slices_ContainsFunc_impl_Packet_impl_Packet__impl_arePackets_1.calls (k : Nat) (A0 : Option Addr) (c0 : Nat) (l0 : List (S60))  (r : Bool) (w : World) (hr0 : Kd.C k60 w A0 l0.length l0) (hc0 : l0.length ≤ c0) (h : slices_ContainsFunc_impl_Packet_impl_Packet__impl_arePackets_1.f k l0 = some r) :
  Calls Try.prog 74 #[.slice A0 l0.length c0, .func (.func 84) #[] #[]] w fun e w' => e = .returned (.bool r) ∧ Below w.heap.size w w' := by
 have HR0 := A_.mk hr0
 have HC0 := A_.mk hc0
 clear hr0 hc0
 have HB := A_.mk (Below.refl w.heap.size w)
 have H : ((slices_IndexFunc_impl_Packet_impl_Packet__impl_arePackets_1.f k l0).bind fun t369 => (some (decide (t369 ≥ 0)))) = some r := h
 clear h
 replace H := ob_ H
 obtain ⟨t369, A30, H⟩ := H
 have A3 := A_.mk A30
 clear A30
 obtain rfl := Option.some.inj H
 go_enter Try.func74, Try.ntmps74
 go_wp2_with (first | ((with_reducible refine gc_ (f := 92) rfl ?_); refine gl_ (some 7) Try.func92 #[.slice A0 l0.length c0, .func (.func 84) #[] #[]] ?_; (with_reducible refine (slices_IndexFunc_impl_Packet_impl_Packet__impl_arePackets_1.calls k _ _ l0  t369 _ ?side1 ?side2 A3.out).mono ?_); (case side1 => exact cY (HR0.out)); (case side2 => exact HC0.out); rintro e w4 ⟨rfl, hb⟩; refine ⟨_, rfl, ?_⟩; have n0_ := A_.mk (bt_ (beY HB.out) hb); clear HB; have HB := n0_; clear n0_; (try clear hb); (try clear hb2); (try clear hk); (try clear hi)))
 go_ret
 exact ⟨by first | rfl | (simp [errW_none, errW_some] <;> rfl) | (simp [*, errW_none, errW_some] <;> rfl), beY HB.out⟩

/-! ### impl_arePackets: function 63 -/
def impl_arePackets.f (k : Nat) (l0 : List (S60)) : Option (Bool) := (slices_ContainsFunc_impl_Packet_impl_Packet__impl_arePackets_1.f k l0).bind fun t370 => (some (!t370))
set_option maxHeartbeats 8000000 in
set_option maxRecDepth 100000 in
theorem impl_arePackets.calls (k : Nat) (A0 : Option Addr) (c0 : Nat) (l0 : List (S60)) (r : Bool) (w : World) (hr0 : Kd.C k60 w A0 l0.length l0) (hc0 : l0.length ≤ c0) (h : impl_arePackets.f k l0 = some r) :
  Calls Try.prog 63 #[.slice A0 l0.length c0] w fun e w' => e = .returned (.bool r) ∧ Below w.heap.size w w' := by
 have HR0 := A_.mk hr0
 have HC0 := A_.mk hc0
 clear hr0 hc0
 have HB := A_.mk (Below.refl w.heap.size w)
 have H : ((slices_ContainsFunc_impl_Packet_impl_Packet__impl_arePackets_1.f k l0).bind fun t370 => (some (!t370))) = some r := h
 clear h
 replace H := ob_ H
 obtain ⟨t370, A20, H⟩ := H
 have A2 := A_.mk A20
 clear A20
 obtain rfl := Option.some.inj H
 go_enter Try.func63, Try.ntmps63
 go_wp2_with (first | ((with_reducible refine gc_ (f := 74) rfl ?_); refine gl_ (some 4) Try.func74 #[.slice A0 l0.length c0, .func (.func 84) #[] #[]] ?_; (with_reducible refine (slices_ContainsFunc_impl_Packet_impl_Packet__impl_arePackets_1.calls k _ _ l0  t370 _ ?side1 ?side2 A2.out).mono ?_); (case side1 => exact cY (HR0.out)); (case side2 => exact HC0.out); rintro e w3 ⟨rfl, hb⟩; refine ⟨_, rfl, ?_⟩; have n0_ := A_.mk (bt_ (beY HB.out) hb); clear HB; have HB := n0_; clear n0_; (try clear hb); (try clear hb2); (try clear hk); (try clear hi)))
 go_ret
 exact ⟨by first | rfl | (simp [errW_none, errW_some] <;> rfl) | (simp [*, errW_none, errW_some] <;> rfl), beY HB.out⟩

/-! ### impl_QueueOk: function 34 -/
def impl_QueueOk.f (k : Nat) (l0_0 : List (S60)) (l0_1 : List Int) (l0_2 : List Int) (l0_3 : List (S60)) : Option (Bool) := if (l0_0.length : Int) ≤ 12 then (if (l0_3.length : Int) ≤ 1000 then ((impl_arePackets.f k l0_0).bind fun t372 => (if t372 = true then ((impl_arePackets.f k l0_3).bind fun t373 => (if t373 = true then ((impl_CreditsOk.f k l0_1 l0_2).bind fun t374 => (some t374)) else (some false))) else (some false))) else (some false)) else (some false)
set_option maxHeartbeats 8000000 in
set_option maxRecDepth 100000 in
theorem impl_QueueOk.calls (k : Nat) (A0_0 : Option Addr) (c0_0 : Nat) (l0_0 : List (S60)) (A0_1 : Option Addr) (c0_1 : Nat) (l0_1 : List Int) (A0_2 : Option Addr) (c0_2 : Nat) (l0_2 : List Int) (A0_3 : Option Addr) (c0_3 : Nat) (l0_3 : List (S60)) (r : Bool) (w : World) (hr0_0 : Kd.C k60 w A0_0 l0_0.length l0_0) (hc0_0 : l0_0.length ≤ c0_0) (hr0_1 : Kd.C (Kd.int .i64) w A0_1 l0_1.length l0_1) (hc0_1 : l0_1.length ≤ c0_1) (hr0_2 : Kd.C (Kd.int .i64) w A0_2 l0_2.length l0_2) (hc0_2 : l0_2.length ≤ c0_2) (hr0_3 : Kd.C k60 w A0_3 l0_3.length l0_3) (hc0_3 : l0_3.length ≤ c0_3) (h : impl_QueueOk.f k l0_0 l0_1 l0_2 l0_3 = some r) :
  Calls Try.prog 34 #[.agg #[.slice A0_0 l0_0.length c0_0, .slice A0_1 l0_1.length c0_1, .slice A0_2 l0_2.length c0_2, .slice A0_3 l0_3.length c0_3]] w fun e w' => e = .returned (.bool r) ∧ Below w.heap.size w w' := by
 have hu53 := Try.underlying53
 have hu26 := Try.underlying26
 have HR0_0 := A_.mk hr0_0
 have HC0_0 := A_.mk hc0_0
 clear hr0_0 hc0_0
 have HR0_1 := A_.mk hr0_1
 have HC0_1 := A_.mk hc0_1
 clear hr0_1 hc0_1
 have HR0_2 := A_.mk hr0_2
 have HC0_2 := A_.mk hc0_2
 clear hr0_2 hc0_2
 have HR0_3 := A_.mk hr0_3
 have HC0_3 := A_.mk hc0_3
 clear hr0_3 hc0_3
 have HB := A_.mk (Below.refl w.heap.size w)
 have H : (if (l0_0.length : Int) ≤ 12 then (if (l0_3.length : Int) ≤ 1000 then ((impl_arePackets.f k l0_0).bind fun t372 => (if t372 = true then ((impl_arePackets.f k l0_3).bind fun t373 => (if t373 = true then ((impl_CreditsOk.f k l0_1 l0_2).bind fun t374 => (some t374)) else (some false))) else (some false))) else (some false)) else (some false)) = some r := h
 clear h
 by_cases c2 : (l0_0.length : Int) ≤ 12
 rotate_left
 ·rw [if_neg c2] at H
  have c2b0 : decide ((l0_0.length : Int) ≤ 12) = false := decide_eq_false c2
  have c2b1 : decide (l0_0.length ≤ 12) = false := decide_eq_false (by omega)
  clear c2
  obtain rfl := Option.some.inj H
  go_enter Try.func34, Try.ntmps34
  go_wp2_with (first | ((with_reducible refine gd_ (N := 1) rfl ?_); (try (refine gate_guard (by rfl) ?_; dsimp only)); refine by_ 1 (cs := #[.slice A0_0 l0_0.length c0_0, .slice A0_1 l0_1.length c0_1, .slice A0_2 l0_2.length c0_2, .slice A0_3 l0_3.length c0_3]) (t := 53) ?_; intro gb371 hg w26 hbox hb; have n0_ := A_.mk (bt_ (beY HB.out) hb); have n1_ := A_.mk (hbox); have n2_ := A_.mk ((by rw [hg]; exact (bz_ (beY HB.out)) : w.heap.size ≤ gb371)); have n3_ := A_.mk ((by rw [hg]; exact (bz_ (beY HB.out)) : w.heap.size ≤ gb371)); clear HB; have HB := n0_; have BK371 := n1_; have GW371 := n2_; have GE371 := n3_; clear n0_ n1_ n2_ n3_ hb hbox hg; have hcz27_0 : w26.cell? ⟨gb371, 0, none⟩ = some (.slice A0_0 l0_0.length c0_0) := (bc_ BK371.out 0).trans rfl; have hcz27_1 : w26.cell? ⟨gb371, 1, none⟩ = some (.slice A0_1 l0_1.length c0_1) := (bc_ BK371.out 1).trans rfl; have hcz27_2 : w26.cell? ⟨gb371, 2, none⟩ = some (.slice A0_2 l0_2.length c0_2) := (bc_ BK371.out 2).trans rfl; have hcz27_3 : w26.cell? ⟨gb371, 3, none⟩ = some (.slice A0_3 l0_3.length c0_3) := (bc_ BK371.out 3).trans rfl; have hfz27_0 := bf_ BK371.out 0; have hfz27_1 := bf_ BK371.out 1; have hfz27_2 := bf_ BK371.out 2; have hfz27_3 := bf_ BK371.out 3))
  go_ret
  exact ⟨by first | rfl | (simp [errW_none, errW_some] <;> rfl) | (simp [*, errW_none, errW_some] <;> rfl), by repeat (first | (with_reducible first | exact HB.out | apply ba_ | apply bd_ | apply be_ | refine bs_ ?_ GE371.out) | exact HB.out)⟩
 rw [if_pos c2] at H
 have c2b0 : decide ((l0_0.length : Int) ≤ 12) = true := decide_eq_true c2
 have c2b1 : decide (l0_0.length ≤ 12) = true := decide_eq_true (by omega)
 clear c2
 by_cases c3 : (l0_3.length : Int) ≤ 1000
 rotate_left
 ·rw [if_neg c3] at H
  have c3b0 : decide ((l0_3.length : Int) ≤ 1000) = false := decide_eq_false c3
  have c3b1 : decide (l0_3.length ≤ 1000) = false := decide_eq_false (by omega)
  clear c3
  obtain rfl := Option.some.inj H
  go_enter Try.func34, Try.ntmps34
  go_wp2_with (first | ((with_reducible refine gd_ (N := 1) rfl ?_); (try (refine gate_guard (by rfl) ?_; dsimp only)); refine by_ 1 (cs := #[.slice A0_0 l0_0.length c0_0, .slice A0_1 l0_1.length c0_1, .slice A0_2 l0_2.length c0_2, .slice A0_3 l0_3.length c0_3]) (t := 53) ?_; intro gb371 hg w24 hbox hb; have n0_ := A_.mk (bt_ (beY HB.out) hb); have n1_ := A_.mk (hbox); have n2_ := A_.mk ((by rw [hg]; exact (bz_ (beY HB.out)) : w.heap.size ≤ gb371)); have n3_ := A_.mk ((by rw [hg]; exact (bz_ (beY HB.out)) : w.heap.size ≤ gb371)); clear HB; have HB := n0_; have BK371 := n1_; have GW371 := n2_; have GE371 := n3_; clear n0_ n1_ n2_ n3_ hb hbox hg; have hcz25_0 : w24.cell? ⟨gb371, 0, none⟩ = some (.slice A0_0 l0_0.length c0_0) := (bc_ BK371.out 0).trans rfl; have hcz25_1 : w24.cell? ⟨gb371, 1, none⟩ = some (.slice A0_1 l0_1.length c0_1) := (bc_ BK371.out 1).trans rfl; have hcz25_2 : w24.cell? ⟨gb371, 2, none⟩ = some (.slice A0_2 l0_2.length c0_2) := (bc_ BK371.out 2).trans rfl; have hcz25_3 : w24.cell? ⟨gb371, 3, none⟩ = some (.slice A0_3 l0_3.length c0_3) := (bc_ BK371.out 3).trans rfl; have hfz25_0 := bf_ BK371.out 0; have hfz25_1 := bf_ BK371.out 1; have hfz25_2 := bf_ BK371.out 2; have hfz25_3 := bf_ BK371.out 3))
  go_ret
  exact ⟨by first | rfl | (simp [errW_none, errW_some] <;> rfl) | (simp [*, errW_none, errW_some] <;> rfl), by repeat (first | (with_reducible first | exact HB.out | apply ba_ | apply bd_ | apply be_ | refine bs_ ?_ GE371.out) | exact HB.out)⟩
 rw [if_pos c3] at H
 have c3b0 : decide ((l0_3.length : Int) ≤ 1000) = true := decide_eq_true c3
 have c3b1 : decide (l0_3.length ≤ 1000) = true := decide_eq_true (by omega)
 clear c3
 replace H := ob_ H
 obtain ⟨t372, A40, H⟩ := H
 have A4 := A_.mk A40
 clear A40
 by_cases c5 : t372 = true
 rotate_left
 ·replace c5 := Bool.eq_false_iff.mpr c5
  subst c5
  have H1 : (some false) = some r := by rw [if_neg (show ¬ (false = true) by decide)] at H; exact H
  clear H
  have H := H1
  clear H1
  obtain rfl := Option.some.inj H
  go_enter Try.func34, Try.ntmps34
  go_wp2_with (first | ((with_reducible refine gd_ (N := 1) rfl ?_); (try (refine gate_guard (by rfl) ?_; dsimp only)); refine by_ 1 (cs := #[.slice A0_0 l0_0.length c0_0, .slice A0_1 l0_1.length c0_1, .slice A0_2 l0_2.length c0_2, .slice A0_3 l0_3.length c0_3]) (t := 53) ?_; intro gb371 hg w21 hbox hb; have n0_ := A_.mk (bt_ (beY HB.out) hb); have n1_ := A_.mk (hbox); have n2_ := A_.mk ((by rw [hg]; exact (bz_ (beY HB.out)) : w.heap.size ≤ gb371)); have n3_ := A_.mk ((by rw [hg]; exact (bz_ (beY HB.out)) : w.heap.size ≤ gb371)); clear HB; have HB := n0_; have BK371 := n1_; have GW371 := n2_; have GE371 := n3_; clear n0_ n1_ n2_ n3_ hb hbox hg; have hcz22_0 : w21.cell? ⟨gb371, 0, none⟩ = some (.slice A0_0 l0_0.length c0_0) := (bc_ BK371.out 0).trans rfl; have hcz22_1 : w21.cell? ⟨gb371, 1, none⟩ = some (.slice A0_1 l0_1.length c0_1) := (bc_ BK371.out 1).trans rfl; have hcz22_2 : w21.cell? ⟨gb371, 2, none⟩ = some (.slice A0_2 l0_2.length c0_2) := (bc_ BK371.out 2).trans rfl; have hcz22_3 : w21.cell? ⟨gb371, 3, none⟩ = some (.slice A0_3 l0_3.length c0_3) := (bc_ BK371.out 3).trans rfl; have hfz22_0 := bf_ BK371.out 0; have hfz22_1 := bf_ BK371.out 1; have hfz22_2 := bf_ BK371.out 2; have hfz22_3 := bf_ BK371.out 3) | (go_at_call 63; (with_reducible refine (impl_arePackets.calls k _ _ l0_0 false _ ?side1 ?side2 A4.out).mono ?_); (case side1 => exact cY ((Kd.C_below HR0_0.out HB.out))); (case side2 => exact HC0_0.out); rintro e w23 ⟨rfl, hb⟩; have n0_ := A_.mk (bb_ (bY BK371.out) hb); have n1_ := A_.mk (bt_ (by repeat (first | (with_reducible first | exact HB.out | apply ba_ | apply bd_ | apply be_ | refine bs_ ?_ GE371.out) | exact HB.out)) hb); clear BK371 HB; have BK371 := n0_; have HB := n1_; clear n0_ n1_; (try clear hb); (try clear hb2); (try clear hk); (try clear hi)))
  go_ret
  exact ⟨by first | rfl | (simp [errW_none, errW_some] <;> rfl) | (simp [*, errW_none, errW_some] <;> rfl), by repeat (first | (with_reducible first | exact HB.out | apply ba_ | apply bd_ | apply be_ | refine bs_ ?_ GE371.out) | exact HB.out)⟩
 subst c5
 have H1 : ((impl_arePackets.f k l0_3).bind fun t373 => (if t373 = true then ((impl_CreditsOk.f k l0_1 l0_2).bind fun t374 => (some t374)) else (some false))) = some r := by rw [if_pos rfl] at H; exact H
 clear H
 have H := H1
 clear H1
 replace H := ob_ H
 obtain ⟨t373, A60, H⟩ := H
 have A6 := A_.mk A60
 clear A60
 by_cases c7 : t373 = true
 rotate_left
 ·replace c7 := Bool.eq_false_iff.mpr c7
  subst c7
  have H1 : (some false) = some r := by rw [if_neg (show ¬ (false = true) by decide)] at H; exact H
  clear H
  have H := H1
  clear H1
  obtain rfl := Option.some.inj H
  go_enter Try.func34, Try.ntmps34
  go_wp2_with (first | ((with_reducible refine gd_ (N := 1) rfl ?_); (try (refine gate_guard (by rfl) ?_; dsimp only)); refine by_ 1 (cs := #[.slice A0_0 l0_0.length c0_0, .slice A0_1 l0_1.length c0_1, .slice A0_2 l0_2.length c0_2, .slice A0_3 l0_3.length c0_3]) (t := 53) ?_; intro gb371 hg w16 hbox hb; have n0_ := A_.mk (bt_ (beY HB.out) hb); have n1_ := A_.mk (hbox); have n2_ := A_.mk ((by rw [hg]; exact (bz_ (beY HB.out)) : w.heap.size ≤ gb371)); have n3_ := A_.mk ((by rw [hg]; exact (bz_ (beY HB.out)) : w.heap.size ≤ gb371)); clear HB; have HB := n0_; have BK371 := n1_; have GW371 := n2_; have GE371 := n3_; clear n0_ n1_ n2_ n3_ hb hbox hg; have hcz17_0 : w16.cell? ⟨gb371, 0, none⟩ = some (.slice A0_0 l0_0.length c0_0) := (bc_ BK371.out 0).trans rfl; have hcz17_1 : w16.cell? ⟨gb371, 1, none⟩ = some (.slice A0_1 l0_1.length c0_1) := (bc_ BK371.out 1).trans rfl; have hcz17_2 : w16.cell? ⟨gb371, 2, none⟩ = some (.slice A0_2 l0_2.length c0_2) := (bc_ BK371.out 2).trans rfl; have hcz17_3 : w16.cell? ⟨gb371, 3, none⟩ = some (.slice A0_3 l0_3.length c0_3) := (bc_ BK371.out 3).trans rfl; have hfz17_0 := bf_ BK371.out 0; have hfz17_1 := bf_ BK371.out 1; have hfz17_2 := bf_ BK371.out 2; have hfz17_3 := bf_ BK371.out 3) | (go_at_call 63; (with_reducible refine (impl_arePackets.calls k _ _ l0_0 true _ ?side1 ?side2 A4.out).mono ?_); (case side1 => exact cY ((Kd.C_below HR0_0.out HB.out))); (case side2 => exact HC0_0.out); rintro e w18 ⟨rfl, hb⟩; have n0_ := A_.mk (bb_ (bY BK371.out) hb); have n1_ := A_.mk (bt_ (by repeat (first | (with_reducible first | exact HB.out | apply ba_ | apply bd_ | apply be_ | refine bs_ ?_ GE371.out) | exact HB.out)) hb); clear BK371 HB; have BK371 := n0_; have HB := n1_; clear n0_ n1_; (try clear hb); (try clear hb2); (try clear hk); (try clear hi); have hcz19_0 : w18.cell? ⟨gb371, 0, none⟩ = some (.slice A0_0 l0_0.length c0_0) := (bc_ BK371.out 0).trans rfl; have hcz19_1 : w18.cell? ⟨gb371, 1, none⟩ = some (.slice A0_1 l0_1.length c0_1) := (bc_ BK371.out 1).trans rfl; have hcz19_2 : w18.cell? ⟨gb371, 2, none⟩ = some (.slice A0_2 l0_2.length c0_2) := (bc_ BK371.out 2).trans rfl; have hcz19_3 : w18.cell? ⟨gb371, 3, none⟩ = some (.slice A0_3 l0_3.length c0_3) := (bc_ BK371.out 3).trans rfl; have hfz19_0 := bf_ BK371.out 0; have hfz19_1 := bf_ BK371.out 1; have hfz19_2 := bf_ BK371.out 2; have hfz19_3 := bf_ BK371.out 3) | (go_at_call 63; (with_reducible refine (impl_arePackets.calls k _ _ l0_3 false _ ?side1 ?side2 A6.out).mono ?_); (case side1 => exact cY ((Kd.C_below HR0_3.out HB.out))); (case side2 => exact HC0_3.out); rintro e w20 ⟨rfl, hb⟩; have n0_ := A_.mk (bb_ (bY BK371.out) hb); have n1_ := A_.mk (bt_ (by repeat (first | (with_reducible first | exact HB.out | apply ba_ | apply bd_ | apply be_ | refine bs_ ?_ GE371.out) | exact HB.out)) hb); clear BK371 HB; have BK371 := n0_; have HB := n1_; clear n0_ n1_; (try clear hb); (try clear hb2); (try clear hk); (try clear hi)))
  go_ret
  exact ⟨by first | rfl | (simp [errW_none, errW_some] <;> rfl) | (simp [*, errW_none, errW_some] <;> rfl), by repeat (first | (with_reducible first | exact HB.out | apply ba_ | apply bd_ | apply be_ | refine bs_ ?_ GE371.out) | exact HB.out)⟩
 subst c7
 have H1 : ((impl_CreditsOk.f k l0_1 l0_2).bind fun t374 => (some t374)) = some r := by rw [if_pos rfl] at H; exact H
 clear H
 have H := H1
 clear H1
 replace H := ob_ H
 obtain ⟨t374, A80, H⟩ := H
 have A8 := A_.mk A80
 clear A80
 obtain rfl := Option.some.inj H
 go_enter Try.func34, Try.ntmps34
 go_wp2_with (first | ((with_reducible refine gd_ (N := 1) rfl ?_); (try (refine gate_guard (by rfl) ?_; dsimp only)); refine by_ 1 (cs := #[.slice A0_0 l0_0.length c0_0, .slice A0_1 l0_1.length c0_1, .slice A0_2 l0_2.length c0_2, .slice A0_3 l0_3.length c0_3]) (t := 53) ?_; intro gb371 hg w9 hbox hb; have n0_ := A_.mk (bt_ (beY HB.out) hb); have n1_ := A_.mk (hbox); have n2_ := A_.mk ((by rw [hg]; exact (bz_ (beY HB.out)) : w.heap.size ≤ gb371)); have n3_ := A_.mk ((by rw [hg]; exact (bz_ (beY HB.out)) : w.heap.size ≤ gb371)); clear HB; have HB := n0_; have BK371 := n1_; have GW371 := n2_; have GE371 := n3_; clear n0_ n1_ n2_ n3_ hb hbox hg; have hcz10_0 : w9.cell? ⟨gb371, 0, none⟩ = some (.slice A0_0 l0_0.length c0_0) := (bc_ BK371.out 0).trans rfl; have hcz10_1 : w9.cell? ⟨gb371, 1, none⟩ = some (.slice A0_1 l0_1.length c0_1) := (bc_ BK371.out 1).trans rfl; have hcz10_2 : w9.cell? ⟨gb371, 2, none⟩ = some (.slice A0_2 l0_2.length c0_2) := (bc_ BK371.out 2).trans rfl; have hcz10_3 : w9.cell? ⟨gb371, 3, none⟩ = some (.slice A0_3 l0_3.length c0_3) := (bc_ BK371.out 3).trans rfl; have hfz10_0 := bf_ BK371.out 0; have hfz10_1 := bf_ BK371.out 1; have hfz10_2 := bf_ BK371.out 2; have hfz10_3 := bf_ BK371.out 3) | (go_at_call 63; (with_reducible refine (impl_arePackets.calls k _ _ l0_0 true _ ?side1 ?side2 A4.out).mono ?_); (case side1 => exact cY ((Kd.C_below HR0_0.out HB.out))); (case side2 => exact HC0_0.out); rintro e w11 ⟨rfl, hb⟩; have n0_ := A_.mk (bb_ (bY BK371.out) hb); have n1_ := A_.mk (bt_ (by repeat (first | (with_reducible first | exact HB.out | apply ba_ | apply bd_ | apply be_ | refine bs_ ?_ GE371.out) | exact HB.out)) hb); clear BK371 HB; have BK371 := n0_; have HB := n1_; clear n0_ n1_; (try clear hb); (try clear hb2); (try clear hk); (try clear hi); have hcz12_0 : w11.cell? ⟨gb371, 0, none⟩ = some (.slice A0_0 l0_0.length c0_0) := (bc_ BK371.out 0).trans rfl; have hcz12_1 : w11.cell? ⟨gb371, 1, none⟩ = some (.slice A0_1 l0_1.length c0_1) := (bc_ BK371.out 1).trans rfl; have hcz12_2 : w11.cell? ⟨gb371, 2, none⟩ = some (.slice A0_2 l0_2.length c0_2) := (bc_ BK371.out 2).trans rfl; have hcz12_3 : w11.cell? ⟨gb371, 3, none⟩ = some (.slice A0_3 l0_3.length c0_3) := (bc_ BK371.out 3).trans rfl; have hfz12_0 := bf_ BK371.out 0; have hfz12_1 := bf_ BK371.out 1; have hfz12_2 := bf_ BK371.out 2; have hfz12_3 := bf_ BK371.out 3) | (go_at_call 63; (with_reducible refine (impl_arePackets.calls k _ _ l0_3 true _ ?side1 ?side2 A6.out).mono ?_); (case side1 => exact cY ((Kd.C_below HR0_3.out HB.out))); (case side2 => exact HC0_3.out); rintro e w13 ⟨rfl, hb⟩; have n0_ := A_.mk (bb_ (bY BK371.out) hb); have n1_ := A_.mk (bt_ (by repeat (first | (with_reducible first | exact HB.out | apply ba_ | apply bd_ | apply be_ | refine bs_ ?_ GE371.out) | exact HB.out)) hb); clear BK371 HB; have BK371 := n0_; have HB := n1_; clear n0_ n1_; (try clear hb); (try clear hb2); (try clear hk); (try clear hi); have hcz14_0 : w13.cell? ⟨gb371, 0, none⟩ = some (.slice A0_0 l0_0.length c0_0) := (bc_ BK371.out 0).trans rfl; have hcz14_1 : w13.cell? ⟨gb371, 1, none⟩ = some (.slice A0_1 l0_1.length c0_1) := (bc_ BK371.out 1).trans rfl; have hcz14_2 : w13.cell? ⟨gb371, 2, none⟩ = some (.slice A0_2 l0_2.length c0_2) := (bc_ BK371.out 2).trans rfl; have hcz14_3 : w13.cell? ⟨gb371, 3, none⟩ = some (.slice A0_3 l0_3.length c0_3) := (bc_ BK371.out 3).trans rfl; have hfz14_0 := bf_ BK371.out 0; have hfz14_1 := bf_ BK371.out 1; have hfz14_2 := bf_ BK371.out 2; have hfz14_3 := bf_ BK371.out 3) | (go_at_call 43; (with_reducible refine (impl_CreditsOk.calls k _ _ l0_1 _ _ l0_2 t374 _ ?side1 ?side2 ?side3 ?side4 A8.out).mono ?_); (case side1 => exact cY ((Kd.C_below HR0_1.out HB.out))); (case side2 => exact HC0_1.out); (case side3 => exact cY ((Kd.C_below HR0_2.out HB.out))); (case side4 => exact HC0_2.out); rintro e w15 ⟨rfl, hb⟩; have n0_ := A_.mk (bb_ (bY BK371.out) hb); have n1_ := A_.mk (bt_ (by repeat (first | (with_reducible first | exact HB.out | apply ba_ | apply bd_ | apply be_ | refine bs_ ?_ GE371.out) | exact HB.out)) hb); clear BK371 HB; have BK371 := n0_; have HB := n1_; clear n0_ n1_; (try clear hb); (try clear hb2); (try clear hk); (try clear hi)))
 go_ret
 exact ⟨by first | rfl | (simp [errW_none, errW_some] <;> rfl) | (simp [*, errW_none, errW_some] <;> rfl), by repeat (first | (with_reducible first | exact HB.out | apply ba_ | apply bd_ | apply be_ | refine bs_ ?_ GE371.out) | exact HB.out)⟩
-- NOT PRINTED: function 75 (impl_passes_1)

end Go.Proofs.Ytbdehpmfemgooaa.PFnQueues
