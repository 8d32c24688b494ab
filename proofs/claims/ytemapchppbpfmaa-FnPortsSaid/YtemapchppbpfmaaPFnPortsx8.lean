-- Written by a program of this session (wip/xp): not trusted, Lean checks it.
import Derived.Test.YtemapchppbpfmaaPFnPortsx0
import Derived.Test.YtemapchppbpfmaaPFnPortsx1
import Derived.Test.YtemapchppbpfmaaPFnPortsx2
import Derived.Test.YtemapchppbpfmaaPFnPortsx5
import Derived.Test.YtemapchppbpfmaaPFnPortsx6
import Derived.Test.YtemapchppbpfmaaPFnPortsx7
namespace Go.Proofs.Ytemapchppbpfmaa.PFnPorts
open Go.RowKit Go.Proofs.YtemapchppbpfmaaW.PrintWords Go.Proofs.YtemapchppbpfmaaW.PrintLast Go.Proofs.YtemapchppbpfmaaW.PrintMore
attribute [local go_sem] max2_int min2_int max_two min_two max_three min_three max_four min_four   -- for this text's walks alone
set_option linter.unusedVariables false
set_option linter.unusedSimpArgs false

attribute [local go_sem high] eqA46
/-! ### laws_FnPorts: function 6 -/
def laws_FnPorts.f (k : Nat) (l0 : List Int) : Option (Bool) := (laws_big.f l0).bind fun t233 => (if t233 = true then (some true) else ((spec_DrawPort.f k l0).bind fun bt234 => ((spec_DrawPlaces.f k l0).bind fun t239 => (if 0 < (t239.length : Int) then ((some (([1, 2, 4] : List Int) : List Int)).bind fun y243 => (if 1 < (t239.length : Int) then (if 0 ≤ (Int.tmod (rd t239 1) 3) then (if (Int.tmod (rd t239 1) 3) < (y243.length : Int) then ((impl_PortStep.f k bt234.1 bt234.2.1 bt234.2.2.1 bt234.2.2.2 (Int.tmod (rd t239 0) 7) (rd y243 (Int.tmod (rd t239 1) 3))).bind fun bt248 => ((impl_PortStep.f k bt234.1 bt234.2.1 bt234.2.2.1 bt234.2.2.2 4 1).bind fun bt254 => ((impl_PortOk.f k bt234.1 bt234.2.1 bt234.2.2.1 bt234.2.2.2).bind fun t260 => (if t260 = true then ((impl_PortOk.f k bt248.1 bt248.2.1 bt248.2.2.1 bt248.2.2.2.1).bind fun t261 => (if t261 = true then (if bt248.2.2.2.2 = true then (if bt248.2.2.1 = bt234.2.2.1 then (if (bt254.2.2.2.2 == (bt234.1 != 5)) = true then (if bt254.2.2.2.2 = true then (if bt254.1 = 0 then (if bt254.2.1 = 0 then ((impl_StateName.f bt234.1).bind fun t262 => (some (t262.toList != ([] : List UInt8)))) else (some false)) else (some false)) else ((impl_StateName.f bt234.1).bind fun t263 => (some (t263.toList != ([] : List UInt8))))) else (some false)) else (some false)) else (if (bt248.1 == bt234.1 && (bt248.2.1 == bt234.2.1 && (bt248.2.2.1 == bt234.2.2.1 && (bt248.2.2.2.1 == bt234.2.2.2)))) = true then (if bt248.2.2.1 = bt234.2.2.1 then (if (bt254.2.2.2.2 == (bt234.1 != 5)) = true then (if bt254.2.2.2.2 = true then (if bt254.1 = 0 then (if bt254.2.1 = 0 then ((impl_StateName.f bt234.1).bind fun t264 => (some (t264.toList != ([] : List UInt8)))) else (some false)) else (some false)) else ((impl_StateName.f bt234.1).bind fun t265 => (some (t265.toList != ([] : List UInt8))))) else (some false)) else (some false)) else (some false))) else (some false))) else (some false))))) else (none)) else (none)) else (none))) else (none)))))
theorem laws_FnPorts.mono : ∀ a0 k, LeO (laws_FnPorts.f k a0) (laws_FnPorts.f (k + 1) a0) := by
 intro a0 k
 unfold laws_FnPorts.f
 repeat' first
   | (with_reducible exact impl_PortOk.mono _ _ _ _ _)
   | (with_reducible exact impl_PortStep.mono _ _ _ _ _ _ _)
   | (with_reducible exact spec_DrawPlaces.mono _ _)
   | (with_reducible exact spec_DrawPort.mono _ _)
   | (with_reducible exact LeO.refl _)
   | (with_reducible exact LeO.none _)
   | (with_reducible refine LeO.ite ?_ ?_)
   | (with_reducible refine LeO.bind ?_ (fun _ => ?_))
   | exact impl_PortOk.mono _ _ _ _ _
   | exact impl_PortStep.mono _ _ _ _ _ _ _
   | exact spec_DrawPlaces.mono _ _
   | exact spec_DrawPort.mono _ _
   | exact LeO.none _
   | refine LeO.ite ?_ ?_
   | refine LeO.bind ?_ (fun _ => ?_)
def laws_FnPorts.T5 : Bool × List (List Nat × List Nat) := (true, [([], []), ([], []), ([1], [1]), ([2], [2]), ([3], [3]), ([], []), ([], []), ([6], [6]), ([7], [7]), ([8], [8]), ([5, 9], [5, 9]), ([10], [10]), ([0, 4, 11], [0, 4, 11]), ([12], [12]), ([13], [13]), ([13], [13]), ([], []), ([16, 14, 12, 0, 1, 2, 3, 4, 5, 6, 7, 8, 9, 10, 11, 12, 13, 14, 16], [14, 16]), ([15, 17, 0, 1, 2, 3, 4, 5, 6, 7, 8, 9, 10, 11, 12, 13, 14, 15, 16, 17], [15])])
def laws_FnPorts.B5 : List Nat := [0, 0, 2, 6, 14, 0, 0, 64, 192, 448, 992, 2016, 4095, 8191, 16383, 16383, 0, 98303, 262143]
theorem laws_FnPorts.tab5 : rtab .any (opsOf Try.f6 5) = laws_FnPorts.T5 := by kernel_rfl
theorem laws_FnPorts.bits5 : waitsOk laws_FnPorts.T5.2 laws_FnPorts.B5 = true := by kernel_rfl
set_option maxHeartbeats 8000000 in
set_option maxRecDepth 100000 in
theorem laws_FnPorts.calls (k : Nat) (A0 : Option Addr) (c0 : Nat) (l0 : List Int) (r : Bool) (w : World) (hr0 : Kd.C (Kd.int .u8) w A0 l0.length l0) (hc0 : l0.length ≤ c0) (hrt : Aside0 (r = true)) (h : laws_FnPorts.f k l0 = some r) :
  Calls Try.prog 6 #[.slice A0 l0.length c0] w fun e w' => e = .returned (.bool r) ∧ Below w.heap.size w w' := by
 have hu46 := Try.underlying46
 have HR0 := Aside0.mk hr0
 have HC0 := Aside0.mk hc0
 clear hr0 hc0
 have HB := Aside0.mk (Below.refl w.heap.size w)
 have H : ((laws_big.f l0).bind fun t233 => (if t233 = true then (some true) else ((spec_DrawPort.f k l0).bind fun bt234 => ((spec_DrawPlaces.f k l0).bind fun t239 => (if 0 < (t239.length : Int) then ((some (([1, 2, 4] : List Int) : List Int)).bind fun y243 => (if 1 < (t239.length : Int) then (if 0 ≤ (Int.tmod (rd t239 1) 3) then (if (Int.tmod (rd t239 1) 3) < (y243.length : Int) then ((impl_PortStep.f k bt234.1 bt234.2.1 bt234.2.2.1 bt234.2.2.2 (Int.tmod (rd t239 0) 7) (rd y243 (Int.tmod (rd t239 1) 3))).bind fun bt248 => ((impl_PortStep.f k bt234.1 bt234.2.1 bt234.2.2.1 bt234.2.2.2 4 1).bind fun bt254 => ((impl_PortOk.f k bt234.1 bt234.2.1 bt234.2.2.1 bt234.2.2.2).bind fun t260 => (if t260 = true then ((impl_PortOk.f k bt248.1 bt248.2.1 bt248.2.2.1 bt248.2.2.2.1).bind fun t261 => (if t261 = true then (if bt248.2.2.2.2 = true then (if bt248.2.2.1 = bt234.2.2.1 then (if (bt254.2.2.2.2 == (bt234.1 != 5)) = true then (if bt254.2.2.2.2 = true then (if bt254.1 = 0 then (if bt254.2.1 = 0 then ((impl_StateName.f bt234.1).bind fun t262 => (some (t262.toList != ([] : List UInt8)))) else (some false)) else (some false)) else ((impl_StateName.f bt234.1).bind fun t263 => (some (t263.toList != ([] : List UInt8))))) else (some false)) else (some false)) else (if (bt248.1 == bt234.1 && (bt248.2.1 == bt234.2.1 && (bt248.2.2.1 == bt234.2.2.1 && (bt248.2.2.2.1 == bt234.2.2.2)))) = true then (if bt248.2.2.1 = bt234.2.2.1 then (if (bt254.2.2.2.2 == (bt234.1 != 5)) = true then (if bt254.2.2.2.2 = true then (if bt254.1 = 0 then (if bt254.2.1 = 0 then ((impl_StateName.f bt234.1).bind fun t264 => (some (t264.toList != ([] : List UInt8)))) else (some false)) else (some false)) else ((impl_StateName.f bt234.1).bind fun t265 => (some (t265.toList != ([] : List UInt8))))) else (some false)) else (some false)) else (some false))) else (some false))) else (some false))))) else (none)) else (none)) else (none))) else (none)))))) = some r := h
 clear h
 replace H := Option.bind_eq_some_iff.mp H
 obtain ⟨t233, A20, H⟩ := H
 have A2 := Aside0.mk A20
 clear A20
 by_cases c3 : t233 = true
 ·subst c3
  have H1 : (some true) = some r := by rw [if_pos rfl] at H; exact H
  clear H
  have H := H1
  clear H1
  obtain rfl := Option.some.inj H
  go_enter Try.func6, Try.ntmps6
  go_wp2_with (first | ((with_reducible refine gate_callee (f := 7) rfl ?_); refine goesL_ (some 10) rfl rfl Try.func7 (by kernel_rfl) rfl #[.slice A0 l0.length c0] rfl (by (try simp only [List.map_toArray, List.map_cons, List.map_nil]); first | done | rfl) ?_; (with_reducible refine (laws_big.calls _ _ l0 true _ ?side1 ?side2 A2.out).mono ?_); (case side1 => repeat (first | exact HR0.out | (with_reducible refine Kd.C_alloc ?_ _) | (with_reducible refine Kd.C_drewN ?_ _) | (with_reducible refine Kd.C_drew ?_))); (case side2 => exact HC0.out); rintro e w' ⟨rfl, ⟨nd, rfl⟩⟩; refine ⟨_, rfl, ?_⟩))
  go_ret
  exact ⟨by first | rfl | (simp [errW_none, errW_some] <;> rfl) | (simp [*, errW_none, errW_some] <;> rfl), by repeat (first | (with_reducible first | exact HB.out | apply below_alloc | apply pw_below_drewN | apply below_drew1) | exact HB.out)⟩
 replace c3 := Bool.eq_false_iff.mpr c3
 subst c3
 have H1 : ((spec_DrawPort.f k l0).bind fun bt234 => ((spec_DrawPlaces.f k l0).bind fun t239 => (if 0 < (t239.length : Int) then ((some (([1, 2, 4] : List Int) : List Int)).bind fun y243 => (if 1 < (t239.length : Int) then (if 0 ≤ (Int.tmod (rd t239 1) 3) then (if (Int.tmod (rd t239 1) 3) < (y243.length : Int) then ((impl_PortStep.f k bt234.1 bt234.2.1 bt234.2.2.1 bt234.2.2.2 (Int.tmod (rd t239 0) 7) (rd y243 (Int.tmod (rd t239 1) 3))).bind fun bt248 => ((impl_PortStep.f k bt234.1 bt234.2.1 bt234.2.2.1 bt234.2.2.2 4 1).bind fun bt254 => ((impl_PortOk.f k bt234.1 bt234.2.1 bt234.2.2.1 bt234.2.2.2).bind fun t260 => (if t260 = true then ((impl_PortOk.f k bt248.1 bt248.2.1 bt248.2.2.1 bt248.2.2.2.1).bind fun t261 => (if t261 = true then (if bt248.2.2.2.2 = true then (if bt248.2.2.1 = bt234.2.2.1 then (if (bt254.2.2.2.2 == (bt234.1 != 5)) = true then (if bt254.2.2.2.2 = true then (if bt254.1 = 0 then (if bt254.2.1 = 0 then ((impl_StateName.f bt234.1).bind fun t262 => (some (t262.toList != ([] : List UInt8)))) else (some false)) else (some false)) else ((impl_StateName.f bt234.1).bind fun t263 => (some (t263.toList != ([] : List UInt8))))) else (some false)) else (some false)) else (if (bt248.1 == bt234.1 && (bt248.2.1 == bt234.2.1 && (bt248.2.2.1 == bt234.2.2.1 && (bt248.2.2.2.1 == bt234.2.2.2)))) = true then (if bt248.2.2.1 = bt234.2.2.1 then (if (bt254.2.2.2.2 == (bt234.1 != 5)) = true then (if bt254.2.2.2.2 = true then (if bt254.1 = 0 then (if bt254.2.1 = 0 then ((impl_StateName.f bt234.1).bind fun t264 => (some (t264.toList != ([] : List UInt8)))) else (some false)) else (some false)) else ((impl_StateName.f bt234.1).bind fun t265 => (some (t265.toList != ([] : List UInt8))))) else (some false)) else (some false)) else (some false))) else (some false))) else (some false))))) else (none)) else (none)) else (none))) else (none)))) = some r := by rw [if_neg (show ¬ (false = true) by decide)] at H; exact H
 clear H
 have H := H1
 clear H1
 replace H := Option.bind_eq_some_iff.mp H
 obtain ⟨⟨t234, t235, t236, t237⟩, A40, H⟩ := H
 replace H : ((spec_DrawPlaces.f k l0).bind fun t239 => (if 0 < (t239.length : Int) then ((some (([1, 2, 4] : List Int) : List Int)).bind fun y243 => (if 1 < (t239.length : Int) then (if 0 ≤ (Int.tmod (rd t239 1) 3) then (if (Int.tmod (rd t239 1) 3) < (y243.length : Int) then ((impl_PortStep.f k t234 t235 t236 t237 (Int.tmod (rd t239 0) 7) (rd y243 (Int.tmod (rd t239 1) 3))).bind fun bt248 => ((impl_PortStep.f k t234 t235 t236 t237 4 1).bind fun bt254 => ((impl_PortOk.f k t234 t235 t236 t237).bind fun t260 => (if t260 = true then ((impl_PortOk.f k bt248.1 bt248.2.1 bt248.2.2.1 bt248.2.2.2.1).bind fun t261 => (if t261 = true then (if bt248.2.2.2.2 = true then (if bt248.2.2.1 = t236 then (if (bt254.2.2.2.2 == (t234 != 5)) = true then (if bt254.2.2.2.2 = true then (if bt254.1 = 0 then (if bt254.2.1 = 0 then ((impl_StateName.f t234).bind fun t262 => (some (t262.toList != ([] : List UInt8)))) else (some false)) else (some false)) else ((impl_StateName.f t234).bind fun t263 => (some (t263.toList != ([] : List UInt8))))) else (some false)) else (some false)) else (if (bt248.1 == t234 && (bt248.2.1 == t235 && (bt248.2.2.1 == t236 && (bt248.2.2.2.1 == t237)))) = true then (if bt248.2.2.1 = t236 then (if (bt254.2.2.2.2 == (t234 != 5)) = true then (if bt254.2.2.2.2 = true then (if bt254.1 = 0 then (if bt254.2.1 = 0 then ((impl_StateName.f t234).bind fun t264 => (some (t264.toList != ([] : List UInt8)))) else (some false)) else (some false)) else ((impl_StateName.f t234).bind fun t265 => (some (t265.toList != ([] : List UInt8))))) else (some false)) else (some false)) else (some false))) else (some false))) else (some false))))) else (none)) else (none)) else (none))) else (none))) = some r := H
 have A4 := Aside0.mk A40
 clear A40
 replace H := Option.bind_eq_some_iff.mp H
 obtain ⟨t239, A50, H⟩ := H
 have A5 := Aside0.mk A50
 clear A50
 by_cases c6 : 0 < (t239.length : Int)
 rotate_left
 ·rw [if_neg c6] at H
  exact absurd H (by simp)
 rw [if_pos c6] at H
 have c6b0 : decide (0 < (t239.length : Int)) = true := decide_eq_true c6
 have c6b1 : decide (0 < t239.length) = true := decide_eq_true (by omega)
 clear c6
 obtain ⟨y243, hy243⟩ : ∃ y_ : List Int, y_ = (([1, 2, 4] : List Int)) := ⟨_, rfl⟩
 replace H : (if 1 < (t239.length : Int) then (if 0 ≤ (Int.tmod (rd t239 1) 3) then (if (Int.tmod (rd t239 1) 3) < (y243.length : Int) then ((impl_PortStep.f k t234 t235 t236 t237 (Int.tmod (rd t239 0) 7) (rd y243 (Int.tmod (rd t239 1) 3))).bind fun bt248 => ((impl_PortStep.f k t234 t235 t236 t237 4 1).bind fun bt254 => ((impl_PortOk.f k t234 t235 t236 t237).bind fun t260 => (if t260 = true then ((impl_PortOk.f k bt248.1 bt248.2.1 bt248.2.2.1 bt248.2.2.2.1).bind fun t261 => (if t261 = true then (if bt248.2.2.2.2 = true then (if bt248.2.2.1 = t236 then (if (bt254.2.2.2.2 == (t234 != 5)) = true then (if bt254.2.2.2.2 = true then (if bt254.1 = 0 then (if bt254.2.1 = 0 then ((impl_StateName.f t234).bind fun t262 => (some (t262.toList != ([] : List UInt8)))) else (some false)) else (some false)) else ((impl_StateName.f t234).bind fun t263 => (some (t263.toList != ([] : List UInt8))))) else (some false)) else (some false)) else (if (bt248.1 == t234 && (bt248.2.1 == t235 && (bt248.2.2.1 == t236 && (bt248.2.2.2.1 == t237)))) = true then (if bt248.2.2.1 = t236 then (if (bt254.2.2.2.2 == (t234 != 5)) = true then (if bt254.2.2.2.2 = true then (if bt254.1 = 0 then (if bt254.2.1 = 0 then ((impl_StateName.f t234).bind fun t264 => (some (t264.toList != ([] : List UInt8)))) else (some false)) else (some false)) else ((impl_StateName.f t234).bind fun t265 => (some (t265.toList != ([] : List UInt8))))) else (some false)) else (some false)) else (some false))) else (some false))) else (some false))))) else (none)) else (none)) else (none)) = some r := by first | (rw [hy243]; with_reducible exact H) | (have H2_ := (Option.bind_some _ _).symm.trans H; rw [hy243]; with_reducible exact H2_) | (have H2_ := (Option.bind_some _ _).symm.trans H; with_reducible exact H2_) | with_reducible exact H | (rw [hy243]; exact H) | exact H
 have Ny243 := Aside0.mk hy243
 clear hy243
 by_cases c7 : 1 < (t239.length : Int)
 rotate_left
 ·rw [if_neg c7] at H
  exact absurd H (by simp)
 rw [if_pos c7] at H
 have c7b0 : decide (1 < (t239.length : Int)) = true := decide_eq_true c7
 have c7b1 : decide (1 < t239.length) = true := decide_eq_true (by omega)
 clear c7
 obtain ⟨ji8, hji8⟩ : ∃ j_ : Int, (Int.tmod (rd t239 1) 3) = j_ := ⟨_, rfl⟩
 replace H : (if 0 ≤ (ji8) then (if (ji8) < (y243.length : Int) then ((impl_PortStep.f k t234 t235 t236 t237 (Int.tmod (rd t239 0) 7) (rd y243 (ji8))).bind fun bt248 => ((impl_PortStep.f k t234 t235 t236 t237 4 1).bind fun bt254 => ((impl_PortOk.f k t234 t235 t236 t237).bind fun t260 => (if t260 = true then ((impl_PortOk.f k bt248.1 bt248.2.1 bt248.2.2.1 bt248.2.2.2.1).bind fun t261 => (if t261 = true then (if bt248.2.2.2.2 = true then (if bt248.2.2.1 = t236 then (if (bt254.2.2.2.2 == (t234 != 5)) = true then (if bt254.2.2.2.2 = true then (if bt254.1 = 0 then (if bt254.2.1 = 0 then ((impl_StateName.f t234).bind fun t262 => (some (t262.toList != ([] : List UInt8)))) else (some false)) else (some false)) else ((impl_StateName.f t234).bind fun t263 => (some (t263.toList != ([] : List UInt8))))) else (some false)) else (some false)) else (if (bt248.1 == t234 && (bt248.2.1 == t235 && (bt248.2.2.1 == t236 && (bt248.2.2.2.1 == t237)))) = true then (if bt248.2.2.1 = t236 then (if (bt254.2.2.2.2 == (t234 != 5)) = true then (if bt254.2.2.2.2 = true then (if bt254.1 = 0 then (if bt254.2.1 = 0 then ((impl_StateName.f t234).bind fun t264 => (some (t264.toList != ([] : List UInt8)))) else (some false)) else (some false)) else ((impl_StateName.f t234).bind fun t265 => (some (t265.toList != ([] : List UInt8))))) else (some false)) else (some false)) else (some false))) else (some false))) else (some false))))) else (none)) else (none)) = some r := by first | (rw [hji8] at H; exact H) | (simp only [hji8] at H ⊢; exact H)
 (try rw [hji8] at A2)
 (try rw [hji8] at A4)
 (try rw [hji8] at A5)
 by_cases c9 : 0 ≤ (ji8)
 rotate_left
 ·rw [if_neg c9] at H
  exact absurd H (by simp)
 rw [if_pos c9] at H
 have c9b0 : decide (0 ≤ (ji8)) = true := decide_eq_true c9
 clear c9
 by_cases c10 : (ji8) < (y243.length : Int)
 rotate_left
 ·rw [if_neg c10] at H
  exact absurd H (by simp)
 rw [if_pos c10] at H
 have c10b0 : decide ((ji8) < (y243.length : Int)) = true := decide_eq_true c10
 clear c10
 replace H := Option.bind_eq_some_iff.mp H
 obtain ⟨⟨t248, t249, t250, t251, t252⟩, A110, H⟩ := H
 replace H : ((impl_PortStep.f k t234 t235 t236 t237 4 1).bind fun bt254 => ((impl_PortOk.f k t234 t235 t236 t237).bind fun t260 => (if t260 = true then ((impl_PortOk.f k t248 t249 t250 t251).bind fun t261 => (if t261 = true then (if t252 = true then (if t250 = t236 then (if (bt254.2.2.2.2 == (t234 != 5)) = true then (if bt254.2.2.2.2 = true then (if bt254.1 = 0 then (if bt254.2.1 = 0 then ((impl_StateName.f t234).bind fun t262 => (some (t262.toList != ([] : List UInt8)))) else (some false)) else (some false)) else ((impl_StateName.f t234).bind fun t263 => (some (t263.toList != ([] : List UInt8))))) else (some false)) else (some false)) else (if (t248 == t234 && (t249 == t235 && (t250 == t236 && (t251 == t237)))) = true then (if t250 = t236 then (if (bt254.2.2.2.2 == (t234 != 5)) = true then (if bt254.2.2.2.2 = true then (if bt254.1 = 0 then (if bt254.2.1 = 0 then ((impl_StateName.f t234).bind fun t264 => (some (t264.toList != ([] : List UInt8)))) else (some false)) else (some false)) else ((impl_StateName.f t234).bind fun t265 => (some (t265.toList != ([] : List UInt8))))) else (some false)) else (some false)) else (some false))) else (some false))) else (some false)))) = some r := H
 have A11 := Aside0.mk A110
 clear A110
 replace H := Option.bind_eq_some_iff.mp H
 obtain ⟨⟨t254, t255, t256, t257, t258⟩, A120, H⟩ := H
 replace H : ((impl_PortOk.f k t234 t235 t236 t237).bind fun t260 => (if t260 = true then ((impl_PortOk.f k t248 t249 t250 t251).bind fun t261 => (if t261 = true then (if t252 = true then (if t250 = t236 then (if (t258 == (t234 != 5)) = true then (if t258 = true then (if t254 = 0 then (if t255 = 0 then ((impl_StateName.f t234).bind fun t262 => (some (t262.toList != ([] : List UInt8)))) else (some false)) else (some false)) else ((impl_StateName.f t234).bind fun t263 => (some (t263.toList != ([] : List UInt8))))) else (some false)) else (some false)) else (if (t248 == t234 && (t249 == t235 && (t250 == t236 && (t251 == t237)))) = true then (if t250 = t236 then (if (t258 == (t234 != 5)) = true then (if t258 = true then (if t254 = 0 then (if t255 = 0 then ((impl_StateName.f t234).bind fun t264 => (some (t264.toList != ([] : List UInt8)))) else (some false)) else (some false)) else ((impl_StateName.f t234).bind fun t265 => (some (t265.toList != ([] : List UInt8))))) else (some false)) else (some false)) else (some false))) else (some false))) else (some false))) = some r := H
 have A12 := Aside0.mk A120
 clear A120
 replace H := Option.bind_eq_some_iff.mp H
 obtain ⟨t260, A130, H⟩ := H
 have A13 := Aside0.mk A130
 clear A130
 by_cases c14 : t260 = true
 rotate_left
 ·replace c14 := Bool.eq_false_iff.mpr c14
  subst c14
  have H1 : (some false) = some r := by rw [if_neg (show ¬ (false = true) by decide)] at H; exact H
  clear H
  have H := H1
  clear H1
  exact absurd (H.trans (congrArg some hrt.out)) (by simp)
 subst c14
 have H1 : ((impl_PortOk.f k t248 t249 t250 t251).bind fun t261 => (if t261 = true then (if t252 = true then (if t250 = t236 then (if (t258 == (t234 != 5)) = true then (if t258 = true then (if t254 = 0 then (if t255 = 0 then ((impl_StateName.f t234).bind fun t262 => (some (t262.toList != ([] : List UInt8)))) else (some false)) else (some false)) else ((impl_StateName.f t234).bind fun t263 => (some (t263.toList != ([] : List UInt8))))) else (some false)) else (some false)) else (if (t248 == t234 && (t249 == t235 && (t250 == t236 && (t251 == t237)))) = true then (if t250 = t236 then (if (t258 == (t234 != 5)) = true then (if t258 = true then (if t254 = 0 then (if t255 = 0 then ((impl_StateName.f t234).bind fun t264 => (some (t264.toList != ([] : List UInt8)))) else (some false)) else (some false)) else ((impl_StateName.f t234).bind fun t265 => (some (t265.toList != ([] : List UInt8))))) else (some false)) else (some false)) else (some false))) else (some false))) = some r := by rw [if_pos rfl] at H; exact H
 clear H
 have H := H1
 clear H1
 replace H := Option.bind_eq_some_iff.mp H
 obtain ⟨t261, A150, H⟩ := H
 have A15 := Aside0.mk A150
 clear A150
 by_cases c16 : t261 = true
 rotate_left
 ·replace c16 := Bool.eq_false_iff.mpr c16
  subst c16
  have H1 : (some false) = some r := by rw [if_neg (show ¬ (false = true) by decide)] at H; exact H
  clear H
  have H := H1
  clear H1
  exact absurd (H.trans (congrArg some hrt.out)) (by simp)
 subst c16
 have H1 : (if t252 = true then (if t250 = t236 then (if (t258 == (t234 != 5)) = true then (if t258 = true then (if t254 = 0 then (if t255 = 0 then ((impl_StateName.f t234).bind fun t262 => (some (t262.toList != ([] : List UInt8)))) else (some false)) else (some false)) else ((impl_StateName.f t234).bind fun t263 => (some (t263.toList != ([] : List UInt8))))) else (some false)) else (some false)) else (if (t248 == t234 && (t249 == t235 && (t250 == t236 && (t251 == t237)))) = true then (if t250 = t236 then (if (t258 == (t234 != 5)) = true then (if t258 = true then (if t254 = 0 then (if t255 = 0 then ((impl_StateName.f t234).bind fun t264 => (some (t264.toList != ([] : List UInt8)))) else (some false)) else (some false)) else ((impl_StateName.f t234).bind fun t265 => (some (t265.toList != ([] : List UInt8))))) else (some false)) else (some false)) else (some false))) = some r := by rw [if_pos rfl] at H; exact H
 clear H
 have H := H1
 clear H1
 by_cases c17 : t252 = true
 ·subst c17
  have H1 : (if t250 = t236 then (if (t258 == (t234 != 5)) = true then (if t258 = true then (if t254 = 0 then (if t255 = 0 then ((impl_StateName.f t234).bind fun t262 => (some (t262.toList != ([] : List UInt8)))) else (some false)) else (some false)) else ((impl_StateName.f t234).bind fun t263 => (some (t263.toList != ([] : List UInt8))))) else (some false)) else (some false)) = some r := by rw [if_pos rfl] at H; exact H
  clear H
  have H := H1
  clear H1
  by_cases c18 : t250 = t236
  rotate_left
  ·rw [if_neg c18] at H
   have c18b0 : (t250 == t236) = false := beq_eq_false_iff_ne.mpr c18
   have c18b1 : (t250 != t236) = true := bne_iff_ne.mpr c18
   exact absurd (H.trans (congrArg some hrt.out)) (by simp)
  rw [if_pos c18] at H
  have c18b0 : (t250 == t236) = true := beq_iff_eq.mpr c18
  have c18b1 : (t250 != t236) = false := bne_eq_false_iff_eq.mpr c18
  clear c18
  by_cases c19 : (t258 == (t234 != 5)) = true
  rotate_left
  ·rw [if_neg c19] at H
   have c19b0 : (t258 == (t234 != 5)) = false := by simpa using c19
   (try (have c19b1 : decide (t258 = (t234 != 5)) = false := by simpa using c19))
   (try (have c19b2 : (t258 == (t234 != 5)) = false := by simpa using c19))
   (try (have c19b3 : ¬ (t258 = (t234 != 5)) := by simpa using c19))
   clear c19
   exact absurd (H.trans (congrArg some hrt.out)) (by simp)
  rw [if_pos c19] at H
  have c19b0 : (t258 == (t234 != 5)) = true := c19
  (try (have c19b1 : decide (t258 = (t234 != 5)) = true := by simpa using c19))
  (try (have c19b2 : (t258 == (t234 != 5)) = true := by simpa using c19))
  clear c19
  by_cases c20 : t258 = true
  rotate_left
  ·replace c20 := Bool.eq_false_iff.mpr c20
   subst c20
   have H1 : ((impl_StateName.f t234).bind fun t263 => (some (t263.toList != ([] : List UInt8)))) = some r := by rw [if_neg (show ¬ (false = true) by decide)] at H; exact H
   clear H
   have H := H1
   clear H1
   replace H := Option.bind_eq_some_iff.mp H
   obtain ⟨t263, A550, H⟩ := H
   have A55 := Aside0.mk A550
   clear A550
   obtain rfl := Option.some.inj H
   go_enter Try.func6, Try.ntmps6
   try go_wp2_with (first | ((with_reducible refine gate_callee (f := 7) rfl ?_); refine goesL_ (some 10) rfl rfl Try.func7 (by kernel_rfl) rfl #[.slice A0 l0.length c0] rfl (by (try simp only [List.map_toArray, List.map_cons, List.map_nil]); first | done | rfl) ?_; (with_reducible refine (laws_big.calls _ _ l0 false _ ?side1 ?side2 A2.out).mono ?_); (case side1 => repeat (first | exact HR0.out | (with_reducible refine Kd.C_alloc ?_ _) | (with_reducible refine Kd.C_drewN ?_ _) | (with_reducible refine Kd.C_drew ?_))); (case side2 => exact HC0.out); rintro e w' ⟨rfl, ⟨nd, rfl⟩⟩; refine ⟨_, rfl, ?_⟩) | ((with_reducible refine gate_callee (f := 23) rfl ?_); refine goesL_ (some 12) rfl rfl Try.func23 (by kernel_rfl) rfl #[.slice A0 l0.length c0] rfl (by (try simp only [List.map_toArray, List.map_cons, List.map_nil]); first | done | rfl) ?_; (with_reducible refine (spec_DrawPort.calls k _ _ l0 t234 t235 t236 t237 _ ?side1 ?side2 A4.out).mono ?_); (case side1 => repeat (first | exact HR0.out | (with_reducible refine Kd.C_alloc ?_ _) | (with_reducible refine Kd.C_drewN ?_ _) | (with_reducible refine Kd.C_drew ?_))); (case side2 => exact HC0.out); rintro e w56 ⟨rfl, hb⟩; refine ⟨_, rfl, ?_⟩; have n0_ := Aside0.mk (below_step (by repeat (first | (with_reducible first | exact HB.out | apply below_alloc | apply pw_below_drewN | apply below_drew1) | exact HB.out)) hb); clear HB; have HB := n0_; clear n0_; (try clear hb); (try clear hb2); (try clear hk); (try clear hi)) | ((with_reducible refine gate_dst (N := 3) rfl ?_); refine box_event ?hg (N := 3) ?hd (cs := #[.int .i64 0, .int .i64 0, .int .i64 0, .int .i64 0]) (t := 46) ?hr ?_; (case hd => rfl); (case hg => rfl); (case hr => first | (go_simp; done) | (go_simp; rfl)); intro gb238 hg w57 hbox hb; have n0_ := Aside0.mk (below_step (by repeat (first | (with_reducible first | exact HB.out | apply below_alloc | apply pw_below_drewN | apply below_drew1) | exact HB.out)) hb); have n1_ := Aside0.mk (hbox); have n2_ := Aside0.mk ((by rw [hg]; exact (below_size (by repeat (first | (with_reducible first | exact HB.out | apply below_alloc | apply pw_below_drewN | apply below_drew1) | exact HB.out))) : w.heap.size ≤ gb238)); have n3_ := Aside0.mk ((by rw [hg]; exact (below_size (by repeat (first | (with_reducible first | exact HB.out | apply below_alloc | apply pw_below_drewN | apply below_drew1) | exact HB.out))) : w.heap.size ≤ gb238)); clear HB; have HB := n0_; have BK238 := n1_; have GW238 := n2_; have GE238 := n3_; clear n0_ n1_ n2_ n3_; clear hb hbox hg; have hcz58_0 : w57.cell? ⟨gb238, 0, none⟩ = some (.int .i64 0) := (blk_cell BK238.out 0).trans rfl; have hcz58_1 : w57.cell? ⟨gb238, 1, none⟩ = some (.int .i64 0) := (blk_cell BK238.out 1).trans rfl; have hcz58_2 : w57.cell? ⟨gb238, 2, none⟩ = some (.int .i64 0) := (blk_cell BK238.out 2).trans rfl; have hcz58_3 : w57.cell? ⟨gb238, 3, none⟩ = some (.int .i64 0) := (blk_cell BK238.out 3).trans rfl; have hfz58_0 := blk_frozen BK238.out 0; have hfz58_1 := blk_frozen BK238.out 1; have hfz58_2 := blk_frozen BK238.out 2; have hfz58_3 := blk_frozen BK238.out 3) | ((with_reducible refine gate_callee (f := 24) rfl ?_); refine goesL_ (some 14) rfl rfl Try.func24 (by kernel_rfl) rfl #[.slice A0 l0.length c0] rfl (by (try simp only [List.map_toArray, List.map_cons, List.map_nil]); first | done | rfl) ?_; (with_reducible refine (spec_DrawPlaces.calls k _ _ l0 t239 _ ?side1 ?side2 A5.out).mono ?_); (case side1 => exact Kd.C_below HR0.out (by repeat (first | (with_reducible first | exact HB.out | apply below_alloc | apply pw_below_drewN | apply below_drew1 | refine below_set ?_ GE238.out) | exact HB.out))); (case side2 => exact HC0.out); rintro e w59 ⟨v240, rfl, ho0, hb⟩; refine ⟨_, rfl, ?_⟩; have n0_ := Aside0.mk (Kd.R_lower ho0 (below_size (by repeat (first | (with_reducible first | exact HB.out | apply below_alloc | apply pw_below_drewN | apply below_drew1 | refine below_set ?_ GE238.out) | exact HB.out)))); have n1_ := Aside0.mk (blk_below (g := gb238) (o := .cells #[.int .i64 t234, .int .i64 t235, .int .i64 t236, .int .i64 t237] 46 (0, 0)) (by (repeat apply bX); refine blk_put (cs := #[.int .i64 t234, .int .i64 t235, .int .i64 t236, .int .i64 0]) ?_ 3 _ rfl; (repeat apply bX); refine blk_put (cs := #[.int .i64 t234, .int .i64 t235, .int .i64 0, .int .i64 0]) ?_ 2 _ rfl; (repeat apply bX); refine blk_put (cs := #[.int .i64 t234, .int .i64 0, .int .i64 0, .int .i64 0]) ?_ 1 _ rfl; (repeat apply bX); refine blk_put (cs := #[.int .i64 0, .int .i64 0, .int .i64 0, .int .i64 0]) ?_ 0 _ rfl; (repeat apply bX); exact BK238.out) hb); have n2_ := Aside0.mk (below_step (by repeat (first | (with_reducible first | exact HB.out | apply below_alloc | apply pw_below_drewN | apply below_drew1 | refine below_set ?_ GE238.out) | exact HB.out)) hb); clear BK238; clear HB; have HO241 := n0_; have BK238 := n1_; have HB := n2_; clear n0_ n1_ n2_; (try clear hb); (try clear hb2); (try clear hk); (try clear hi); (try clear ho0)))
   have pi247 : (0 ≤ ((ji8) : Int)) = True := eq_true (of_decide_eq_true (by first | (with_reducible assumption) | assumption))
   have qi247 : ((ji8) < (y243.length : Int)) = True := eq_true (of_decide_eq_true (by first | (with_reducible assumption) | assumption))
   have n0_ := Aside0.mk (Kd.R_drew HO241.out)
   have n1_ := Aside0.mk (blk_drew BK238.out)
   have n2_ := Aside0.mk (below_drew1 HB.out)
   clear HO241
   clear BK238
   clear HB
   have HO241 := n0_
   have BK238 := n1_
   have HB := n2_
   clear n0_ n1_ n2_
   obtain ⟨Ao61, co61, eo61⟩ := Kd.R_slice HO241.out
   (first | subst eo61 | (injection eo61 with f1_ f2_ f3_; have f4_ := f1_.symm; have f5_ := f3_.symm; clear f1_ f2_ f3_; subst f4_; subst f5_))
   have p242 : 0 ≤ (0 : Int) := (by omega)
   have q242 : 0 < (t239.length : Int) := of_decide_eq_true (by first | (with_reducible assumption) | assumption)
   obtain ⟨ad242, e242, hx242_0⟩ := Kd.at_int (Kd.R_reads' HO241.out).2.2 0 p242 q242
   cases e242
   have qi242 : (0 < t239.length) = True := eq_true (by omega)
   (try rw [show ((0 : Int)).toNat = 0 from rfl] at hx242_0)
   (try rw [Addr.add_zero'] at hx242_0)
   replace p242 := eq_true p242
   replace q242 := eq_true q242
   have p246 : 0 ≤ (1 : Int) := (by omega)
   have q246 : 1 < (t239.length : Int) := of_decide_eq_true (by first | (with_reducible assumption) | assumption)
   obtain ⟨ad246, e246, hx246_0⟩ := Kd.at_int (Kd.R_reads' HO241.out).2.2 1 p246 q246
   obtain rfl : ad242 = ad246 := (by injection e246)
   (try simp only [show (1 : Int).toNat = 1 from rfl, Nat.reduceMul, Nat.reduceEqDiff, Go.Addr.add, ↓reduceIte] at hx246_0)
   have qi246 : (1 < t239.length) = True := eq_true (by omega)
   (try rw [show ((1 : Int)).toNat = 1 from rfl] at hx246_0)
   replace p246 := eq_true p246
   replace q246 := eq_true q246
   refine start_ (n := 19) (S := fun w' => w'.cell? ⟨gb238, 0, none⟩ = some (.int .i64 t234) ∧ w'.cell? ⟨gb238, 1, none⟩ = some (.int .i64 t235) ∧ w'.cell? ⟨gb238, 2, none⟩ = some (.int .i64 t236) ∧ w'.cell? ⟨gb238, 3, none⟩ = some (.int .i64 t237) ∧ w'.cell? ad242 = some (.int .i64 (rd t239 0)) ∧ w'.cell? ⟨ad242.block, ad242.off + 1, none⟩ = some (.int .i64 (rd t239 1))) (ds := []) #[F, F, F, F, F, F, F, F, F, F, F, F, F, F, F, F, F, F, F] (by kernel_rfl) rfl rfl ⟨(blk_cell BK238.out 0).trans rfl, (blk_cell BK238.out 1).trans rfl, (blk_cell BK238.out 2).trans rfl, (blk_cell BK238.out 3).trans rfl, hx242_0, hx246_0⟩ (fun hHeld => ?_); refine with_tabW laws_FnPorts.tab5 laws_FnPorts.bits5 (fun HT_ HW_ => ?_)
   generalize w59.drew = w60 at HO241 BK238 HB hx242_0 hx246_0 hHeld ⊢
   refine pure_ (i := 1) (N := some 17) (v := ?_) (a' := ?_) #[F, T, F, F, F, F, F, F, F, F, F, F, F, F, F, F, F, F, F] rfl rfl (any_of HT_.out (by kernel_rfl)) (fun _ _ _ h => h) (Or.inl ⟨by rfl, ?_⟩) ?_ ?_
   rotate_left
   ·intro w'
    go_simp
    with_reducible rfl
   rotate_left
   ·simp only [pS]
    rfl
   refine pure_ (i := 2) (N := some 18) (v := ?_) (a' := ?_) #[F, T, T, F, F, F, F, F, F, F, F, F, F, F, F, F, F, F, F] rfl rfl (any_of HT_.out (by kernel_rfl)) (fun _ _ _ h => h) (Or.inl ⟨by rfl, ?_⟩) ?_ ?_
   rotate_left
   ·intro w'
    go_simp
    with_reducible rfl
   rotate_left
   ·simp only [pS]
    rfl
   refine pure_ (i := 6) (N := some 22) (v := ?_) (a' := ?_) #[F, T, T, F, F, F, T, F, F, F, F, F, F, F, F, F, F, F, F] rfl rfl (any_of HT_.out (by kernel_rfl)) (fun _ _ _ h => h) (Or.inl ⟨by rfl, ?_⟩) ?_ ?_
   rotate_left
   ·intro w'
    go_simp
    with_reducible rfl
   rotate_left
   ·simp only [pS]
    rfl
   refine pure_ (i := 7) (N := some 23) (v := ?_) (a' := ?_) #[F, T, T, F, F, F, T, T, F, F, F, F, F, F, F, F, F, F, F] rfl rfl (any_of HT_.out (by kernel_rfl)) (fun _ _ _ h => h) (Or.inl ⟨by rfl, ?_⟩) ?_ ?_
   rotate_left
   ·intro w'
    go_simp
    with_reducible rfl
   rotate_left
   ·simp only [pS]
    rfl
   refine take_ (i := 0) (N := some 16) (v := ?_) (a' := ?_) #[T, T, T, F, F, F, T, T, F, F, F, F, F, F, F, F, F, F, F] rfl rfl (take_ofW HT_.out HW_.out (by kernel_rfl)) (fun _ _ _ h => h) (Or.inl ⟨by rfl, ?_⟩) hHeld ?_ ?_
   rotate_left
   ·rintro w' ⟨s0, s1, s2, s3, s4, s5⟩
    go_simp
    with_reducible rfl
   rotate_left
   ·simp only [pS]
    rfl
   refine take_ (i := 3) (N := some 19) (v := ?_) (a' := ?_) #[T, T, T, T, F, F, T, T, F, F, F, F, F, F, F, F, F, F, F] rfl rfl (take_ofW HT_.out HW_.out (by kernel_rfl)) (fun _ _ _ h => h) (Or.inl ⟨by rfl, ?_⟩) hHeld ?_ ?_
   rotate_left
   ·rintro w' ⟨s0, s1, s2, s3, s4, s5⟩
    go_simp
    with_reducible rfl
   rotate_left
   ·simp only [pS]
    rfl
   refine pure_ (i := 4) (N := some 20) (v := ?_) (a' := ?_) #[T, T, T, T, T, F, T, T, F, F, F, F, F, F, F, F, F, F, F] rfl rfl (any_of HT_.out (by kernel_rfl)) (fun _ _ _ h => h) (Or.inl ⟨by rfl, ?_⟩) ?_ ?_
   rotate_left
   ·intro w'
    go_simp
    with_reducible rfl
   rotate_left
   ·simp only [pS]
    rfl
   refine take_ (i := 8) (N := some 24) (v := ?_) (a' := ?_) #[T, T, T, T, T, F, T, T, T, F, F, F, F, F, F, F, F, F, F] rfl rfl (take_ofW HT_.out HW_.out (by kernel_rfl)) (fun _ _ _ h => h) (Or.inl ⟨by rfl, ?_⟩) hHeld ?_ ?_
   rotate_left
   ·rintro w' ⟨s0, s1, s2, s3, s4, s5⟩
    go_simp
    with_reducible rfl
   rotate_left
   ·simp only [pS]
    rfl
   refine pure_ (i := 9) (N := some 25) (v := ?_) (a' := ?_) #[T, T, T, T, T, F, T, T, T, T, F, F, F, F, F, F, F, F, F] rfl rfl (any_of HT_.out (by kernel_rfl)) (fun _ _ _ h => h) (Or.inl ⟨by rfl, ?_⟩) ?_ ?_
   rotate_left
   ·intro w'
    go_simp
    with_reducible rfl
   rotate_left
   ·simp only [pS]
    rfl
   refine join_ (σ := Value × Addr × Nat) 2 #[T, T, T, T, T, T, T, T, T, T, T, T, T, T, T, T, T, F, F] (fun s_ => [(21, s_.1), (27, .int .i64 (rd y243 (ji8))), (28, .tuple #[.agg #[.int .i64 t248, .int .i64 t249, .int .i64 t250, .int .i64 t251], .bool true]), (5, .pointer (some ⟨s_.2.2, 0, none⟩)), (26, .pointer (some (s_.2.1.add ((ji8)).toNat))), (15, .tuple #[.agg #[.int .i64 t248, .int .i64 t249, .int .i64 t250, .int .i64 t251], .bool true]), (29, .agg #[.int .i64 t248, .int .i64 t249, .int .i64 t250, .int .i64 t251]), (30, .bool true)]) (fun s_ w' => (w'.cell? ⟨gb238, 0, none⟩ = some (.int .i64 t234) ∧ w'.cell? ⟨gb238, 1, none⟩ = some (.int .i64 t235) ∧ w'.cell? ⟨gb238, 2, none⟩ = some (.int .i64 t236) ∧ w'.cell? ⟨gb238, 3, none⟩ = some (.int .i64 t237) ∧ w'.cell? ad242 = some (.int .i64 (rd t239 0)) ∧ w'.cell? ⟨ad242.block, ad242.off + 1, none⟩ = some (.int .i64 (rd t239 1))) ∧ (Kd.R (Kd.int .i64) 3 w' w.heap.size (fun k_ => some k_ ≠ (s_.1 : Value).ownBlock) (.slice (some ad242) t239.length co61) t239) ∧ (Kd.R (Kd.int .i64) 3 w' w.heap.size (fun k_ => some k_ ≠ (.slice (some ad242) t239.length co61 : Value).ownBlock) s_.1 y243) ∧ (∃ c_, (s_.1 : Value) = .slice (some s_.2.1) y243.length c_) ∧ (w'.heap[gb238]? = some (.cells #[.int .i64 t234, .int .i64 t235, .int .i64 t236, .int .i64 t237] 46 (0, 0))) ∧ (w'.heap[s_.2.2]? = some (.cells #[.int .i64 0, .int .i64 0, .int .i64 0, .int .i64 0] 46 (0, 0))) ∧ (w.heap.size ≤ s_.2.2) ∧ (w.heap.size ≤ s_.2.2) ∧ (gb238 ≠ s_.2.2) ∧ (s_.2.2 ≠ gb238) ∧ (Below w.heap.size w w')) ?_ ?_
   rotate_left
   ·intro hCont
    refine two_ (i := 5) (j := 16) (Ni := some 21) (Nj := some 5) #[T, T, T, T, T, T, T, T, T, T, F, F, F, F, F, F, F, F, F] #[T, T, T, T, T, F, T, T, T, T, F, F, F, F, F, F, T, F, F] rfl rfl rfl rfl (two_of HT_.out (by kernel_rfl)) (by decide) (by decide) (fun K hK => ?_) (fun K hK => ?_)
    ·skip
     refine Kd.R_lit_step (Kd.int .i64) _ 3 ?hg (N := 21) ?hd (xs := ([1, 2, 4] : List Int)) (inner := [.int .i64 1, .int .i64 2, .int .i64 4]) (ok := fun _ => True) (okp := fun _ => True) ?hr ?hp (fun _ hk => hk) trivial (Below.refl _ _) (Nat.le_refl _) (by simp) ?_; (case hd => rfl); (case hg => rfl); (case hr => first | (go_simp; done) | (go_simp; rfl)); (case hp => exact (Reps.one (show Kd.M (Kd.int .i64) _ _ _ 1 [.int .i64 1] from rfl) (Reps.one (show Kd.M (Kd.int .i64) _ _ _ 2 [.int .i64 2] from rfl) (Reps.one (show Kd.M (Kd.int .i64) _ _ _ 4 [.int .i64 4] from rfl) (Reps.none _ _)))))
     intro v244 w62 ho63 hb hg_ hnew_
     have HS4_ := (hb.cell (World.block_lt_of_cell? _ _ (hHeld.2.2.2.2.1))).trans (hHeld.2.2.2.2.1)
     have HS5_ := (hb.cell (World.block_lt_of_cell? _ _ (hHeld.2.2.2.2.2))).trans (hHeld.2.2.2.2.2)
     clear hg_ hnew_
     (first | rw [← Ny243.out] at ho63 | (simp only [Int.reduceToNat] at ho63; rw [← Ny243.out] at ho63))
     have n0_ := Aside0.mk (Kd.R_elder' (rY HO241.out) (Kd.R_base ho63) hb)
     have n1_ := Aside0.mk (Kd.R_lower (Kd.R_new' ho63 (Kd.R_lt (rY HO241.out))) (below_size (by repeat (first | (with_reducible first | exact HB.out | apply below_alloc | apply pw_below_drewN | apply below_drew1 | refine below_set ?_ GE238.out) | exact HB.out))))
     have n2_ := Aside0.mk (blk_below (bY BK238.out) hb)
     have n3_ := Aside0.mk (below_step (by repeat (first | (with_reducible first | exact HB.out | apply below_alloc | apply pw_below_drewN | apply below_drew1 | refine below_set ?_ GE238.out) | exact HB.out)) hb)
     clear HO241
     clear BK238
     clear HB
     have HO241 := n0_
     have HO245 := n1_
     have BK238 := n2_
     have HB := n3_
     clear n0_ n1_ n2_ n3_
     clear hb ho63
     obtain ⟨Ao64, co64, eo64⟩ := Kd.R_slice HO245.out
     subst eo64
     obtain ⟨ado64, fo64, _⟩ := Kd.at_int (Kd.R_reads' HO245.out).2.2 0 (by decide) (by rw [Ny243.out]; simp)
     cases fo64
     refine hK.out _ _ ⟨(blk_cell BK238.out 0).trans rfl, (blk_cell BK238.out 1).trans rfl, (blk_cell BK238.out 2).trans rfl, (blk_cell BK238.out 3).trans rfl, HS4_, HS5_⟩ (fun hHeld => ?_)
     clear hK K
     refine norm_ (a' := ?_) ?_ ?_
     rotate_left
     ·show Act.put _ (some 21) _ = _
      simp only [pS]
      rfl
     refine pure_ (i := 10) (N := some 26) (v := ?_) (a' := ?_) #[T, T, T, T, T, T, T, T, T, T, T, F, F, F, F, F, F, F, F] rfl rfl (any_of HT_.out (by kernel_rfl)) (fun _ _ _ h => h) (Or.inl ⟨by rfl, ?_⟩) ?_ ?_
     rotate_left
     ·intro w'
      go_simp
      with_reducible rfl
     rotate_left
     ·simp only [pS]
      rfl
     refine two_ (i := 11) (j := 16) (Ni := some 27) (Nj := some 5) #[T, T, T, T, T, T, T, T, T, T, T, T, F, F, F, F, F, F, F] #[T, T, T, T, T, T, T, T, T, T, T, F, F, F, F, F, T, F, F] rfl rfl rfl rfl (two_of HT_.out (by kernel_rfl)) (by decide) (by decide) (fun K hK => ?_) (fun K hK => ?_)
     ·skip
      (have p247 : 0 ≤ ((ji8) : Int) := of_decide_eq_true (by first | (with_reducible assumption) | assumption); have q247 : (ji8) < (y243.length : Int) := of_decide_eq_true (by first | (with_reducible assumption) | assumption); obtain ⟨ad247, e247, hx247_0⟩ := Kd.at_int (Kd.R_reads' HO245.out).2.2 (ji8) p247 q247; obtain rfl : ado64 = ad247 := (by injection e247))
      refine value_ (w1 := ?_) (v := ?_) (by rfl) rfl ?_ ?_
      rotate_left 2
      ·go_simp
       constructor
       ·rfl
       ·rfl
      clear hx247_0
      refine hK.out _ _ ⟨(blk_cell BK238.out 0).trans rfl, (blk_cell BK238.out 1).trans rfl, (blk_cell BK238.out 2).trans rfl, (blk_cell BK238.out 3).trans rfl, hHeld.2.2.2.2.1, hHeld.2.2.2.2.2⟩ (fun hHeld => ?_)
      clear hK K
      refine norm_ (a' := ?_) ?_ ?_
      rotate_left
      ·show Act.put _ (some 27) _ = _
       simp only [pS]
       rfl
      refine two_ (i := 12) (j := 16) (Ni := some 28) (Nj := some 5) #[T, T, T, T, T, T, T, T, T, T, T, T, T, F, F, F, F, F, F] #[T, T, T, T, T, T, T, T, T, T, T, T, F, F, F, F, T, F, F] rfl rfl rfl rfl (two_of HT_.out (by kernel_rfl)) (by decide) (by decide) (fun K hK => ?_) (fun K hK => ?_)
      ·skip
       refine goes_ Try.func25 (by kernel_rfl) rfl #[.agg #[.int .i64 t234, .int .i64 t235, .int .i64 t236, .int .i64 t237], .int .i64 (Int.tmod (rd t239 0) 7), .int .i64 (rd y243 (ji8))] (by rfl) rfl rfl (by (try simp only [List.map_toArray, List.map_cons, List.map_nil]); first | done | (simp only [hji8]; rfl) | rfl | (simp only [List.length_drop, List.length_take]; rfl)) ?_
       with_reducible refine (impl_PortStep.calls k t234 t235 t236 t237 (Int.tmod (rd t239 0) 7) (rd y243 (ji8)) t248 t249 t250 t251 true _ A11.out).mono ?_
       rintro e w65 ⟨rfl, hb⟩
       have HS4_ := (hb.cell (World.block_lt_of_cell? _ _ (hHeld.2.2.2.2.1))).trans (hHeld.2.2.2.2.1)
       have HS5_ := (hb.cell (World.block_lt_of_cell? _ _ (hHeld.2.2.2.2.2))).trans (hHeld.2.2.2.2.2)
       refine ⟨_, rfl, ?_⟩
       have n0_ := Aside0.mk (Kd.R_below (rY HO241.out) hb)
       have n1_ := Aside0.mk (Kd.R_below (rY HO245.out) hb)
       have n2_ := Aside0.mk (blk_below (bY BK238.out) hb)
       have n3_ := Aside0.mk (below_step (by repeat (first | (with_reducible first | exact HB.out | apply below_alloc | apply pw_below_drewN | apply below_drew1 | refine below_set ?_ GE238.out) | exact HB.out)) hb)
       clear HO241
       clear HO245
       clear BK238
       clear HB
       have HO241 := n0_
       have HO245 := n1_
       have BK238 := n2_
       have HB := n3_
       clear n0_ n1_ n2_ n3_
       refine hK.out _ _ ⟨(blk_cell BK238.out 0).trans rfl, (blk_cell BK238.out 1).trans rfl, (blk_cell BK238.out 2).trans rfl, (blk_cell BK238.out 3).trans rfl, HS4_, HS5_⟩ (fun hHeld => ?_)
       clear hK K
       refine norm_ (a' := ?_) ?_ ?_
       rotate_left
       ·show Act.put _ (some 28) _ = _
        simp only [pS]
        rfl
       refine pure_ (i := 13) (N := some 15) (v := ?_) (a' := ?_) #[T, T, T, T, T, T, T, T, T, T, T, T, T, T, F, F, F, F, F] rfl rfl (any_of HT_.out (by kernel_rfl)) (fun _ _ _ h => h) (Or.inl ⟨by rfl, ?_⟩) ?_ ?_
       rotate_left
       ·intro w'
        go_simp
        with_reducible rfl
       rotate_left
       ·simp only [pS]
        rfl
       refine pure_ (i := 14) (N := some 29) (v := ?_) (a' := ?_) #[T, T, T, T, T, T, T, T, T, T, T, T, T, T, T, F, F, F, F] rfl rfl (any_of HT_.out (by kernel_rfl)) (fun _ _ _ h => h) (Or.inl ⟨by rfl, ?_⟩) ?_ ?_
       rotate_left
       ·intro w'
        go_simp
        with_reducible rfl
       rotate_left
       ·simp only [pS]
        rfl
       refine pure_ (i := 15) (N := some 30) (v := ?_) (a' := ?_) #[T, T, T, T, T, T, T, T, T, T, T, T, T, T, T, T, F, F, F] rfl rfl (any_of HT_.out (by kernel_rfl)) (fun _ _ _ h => h) (Or.inl ⟨by rfl, ?_⟩) ?_ ?_
       rotate_left
       ·intro w'
        go_simp
        with_reducible rfl
       rotate_left
       ·simp only [pS]
        rfl
       refine one_ (i := 16) (N := some 5) #[T, T, T, T, T, T, T, T, T, T, T, T, T, T, T, T, T, F, F] rfl rfl (one_of HT_.out (by kernel_rfl)) (by decide) (fun K hK => ?_)
       refine box_step ?hg (N := 5) ?hd (cs := #[.int .i64 0, .int .i64 0, .int .i64 0, .int .i64 0]) (t := 46) ?hr ?_; (case hd => rfl); (case hg => rfl); (case hr => first | (go_simp; done) | (go_simp; rfl))
       intro gb253 hg w66 hbox hb
       have HS4_ := (hb.cell (World.block_lt_of_cell? _ _ (hHeld.2.2.2.2.1))).trans (hHeld.2.2.2.2.1)
       have HS5_ := (hb.cell (World.block_lt_of_cell? _ _ (hHeld.2.2.2.2.2))).trans (hHeld.2.2.2.2.2)
       have n0_ := Aside0.mk (Kd.R_below (rY HO241.out) hb)
       have n1_ := Aside0.mk (Kd.R_below (rY HO245.out) hb)
       have n2_ := Aside0.mk (blk_below (bY BK238.out) hb)
       have n3_ := Aside0.mk (below_step (by repeat (first | (with_reducible first | exact HB.out | apply below_alloc | apply pw_below_drewN | apply below_drew1 | refine below_set ?_ GE238.out) | exact HB.out)) hb)
       have n4_ := Aside0.mk (hbox)
       have n5_ := Aside0.mk ((by rw [hg]; exact (below_size (by repeat (first | (with_reducible first | exact HB.out | apply below_alloc | apply pw_below_drewN | apply below_drew1 | refine below_set ?_ GE238.out) | exact HB.out))) : w.heap.size ≤ gb253))
       have n6_ := Aside0.mk ((by rw [hg]; exact (below_size (by repeat (first | (with_reducible first | exact HB.out | apply below_alloc | apply pw_below_drewN | apply below_drew1 | refine below_set ?_ GE238.out) | exact HB.out))) : w.heap.size ≤ gb253))
       have n7_ := Aside0.mk ((by rw [hg]; exact Nat.ne_of_lt (blk_lt (bY BK238.out)) : gb238 ≠ gb253))
       have n8_ := Aside0.mk ((by rw [hg]; exact Nat.ne_of_gt (blk_lt (bY BK238.out)) : gb253 ≠ gb238))
       clear HO241
       clear HO245
       clear BK238
       clear HB
       have HO241 := n0_
       have HO245 := n1_
       have BK238 := n2_
       have HB := n3_
       have BK253 := n4_
       have GW253 := n5_
       have GE253 := n6_
       have NB238_253 := n7_
       have NB253_238 := n8_
       clear n0_ n1_ n2_ n3_ n4_ n5_ n6_ n7_ n8_
       clear hb hbox hg
       refine hK.out _ _ ⟨(blk_cell BK238.out 0).trans rfl, (blk_cell BK238.out 1).trans rfl, (blk_cell BK238.out 2).trans rfl, (blk_cell BK238.out 3).trans rfl, HS4_, HS5_⟩ (fun hHeld => ?_)
       clear hK K
       refine norm_ (a' := ?_) ?_ ?_
       rotate_left
       ·show Act.put _ (some 5) _ = _
        simp only [pS]
        rfl
       exact norm_ (by simp only [putAll, Act.put, List.setIfInBounds_toArray, List.set_cons_zero, List.set_cons_succ]) (hCont (.slice (some ado64) y243.length co64, ado64, gb253) _ ⟨hHeld, (by (repeat apply rX); exact Kd.R_mono HO241.out (fun _ hk => hk.2)), (by (repeat apply rX); exact Kd.R_mono HO245.out (fun _ hk => hk.2)), ⟨_, rfl⟩, (bY BK238.out), (bY BK253.out), GW253.out, GE253.out, NB238_253.out, NB253_238.out, (by repeat (first | (with_reducible first | exact HB.out | apply below_alloc | apply pw_below_drewN | apply below_drew1 | refine below_set ?_ GE238.out | refine below_set ?_ GE253.out) | exact HB.out))⟩)
      ·skip
       refine box_step ?hg (N := 5) ?hd (cs := #[.int .i64 0, .int .i64 0, .int .i64 0, .int .i64 0]) (t := 46) ?hr ?_; (case hd => rfl); (case hg => rfl); (case hr => first | (go_simp; done) | (go_simp; rfl))
       intro gb253 hg w65 hbox hb
       have HS4_ := (hb.cell (World.block_lt_of_cell? _ _ (hHeld.2.2.2.2.1))).trans (hHeld.2.2.2.2.1)
       have HS5_ := (hb.cell (World.block_lt_of_cell? _ _ (hHeld.2.2.2.2.2))).trans (hHeld.2.2.2.2.2)
       have n0_ := Aside0.mk (Kd.R_below (rY HO241.out) hb)
       have n1_ := Aside0.mk (Kd.R_below (rY HO245.out) hb)
       have n2_ := Aside0.mk (blk_below (bY BK238.out) hb)
       have n3_ := Aside0.mk (below_step (by repeat (first | (with_reducible first | exact HB.out | apply below_alloc | apply pw_below_drewN | apply below_drew1 | refine below_set ?_ GE238.out) | exact HB.out)) hb)
       have n4_ := Aside0.mk (hbox)
       have n5_ := Aside0.mk ((by rw [hg]; exact (below_size (by repeat (first | (with_reducible first | exact HB.out | apply below_alloc | apply pw_below_drewN | apply below_drew1 | refine below_set ?_ GE238.out) | exact HB.out))) : w.heap.size ≤ gb253))
       have n6_ := Aside0.mk ((by rw [hg]; exact (below_size (by repeat (first | (with_reducible first | exact HB.out | apply below_alloc | apply pw_below_drewN | apply below_drew1 | refine below_set ?_ GE238.out) | exact HB.out))) : w.heap.size ≤ gb253))
       have n7_ := Aside0.mk ((by rw [hg]; exact Nat.ne_of_lt (blk_lt (bY BK238.out)) : gb238 ≠ gb253))
       have n8_ := Aside0.mk ((by rw [hg]; exact Nat.ne_of_gt (blk_lt (bY BK238.out)) : gb253 ≠ gb238))
       clear HO241
       clear HO245
       clear BK238
       clear HB
       have HO241 := n0_
       have HO245 := n1_
       have BK238 := n2_
       have HB := n3_
       have BK253 := n4_
       have GW253 := n5_
       have GE253 := n6_
       have NB238_253 := n7_
       have NB253_238 := n8_
       clear n0_ n1_ n2_ n3_ n4_ n5_ n6_ n7_ n8_
       clear hb hbox hg
       refine hK.out _ _ ⟨(blk_cell BK238.out 0).trans rfl, (blk_cell BK238.out 1).trans rfl, (blk_cell BK238.out 2).trans rfl, (blk_cell BK238.out 3).trans rfl, HS4_, HS5_⟩ (fun hHeld => ?_)
       clear hK K
       refine norm_ (a' := ?_) ?_ ?_
       rotate_left
       ·show Act.put _ (some 5) _ = _
        simp only [pS]
        rfl
       refine one_ (i := 12) (N := some 28) #[T, T, T, T, T, T, T, T, T, T, T, T, T, F, F, F, T, F, F] rfl rfl (one_of HT_.out (by kernel_rfl)) (by decide) (fun K hK => ?_)
       refine goes_ Try.func25 (by kernel_rfl) rfl #[.agg #[.int .i64 t234, .int .i64 t235, .int .i64 t236, .int .i64 t237], .int .i64 (Int.tmod (rd t239 0) 7), .int .i64 (rd y243 (ji8))] (by rfl) rfl rfl (by (try simp only [List.map_toArray, List.map_cons, List.map_nil]); first | done | (simp only [hji8]; rfl) | rfl | (simp only [List.length_drop, List.length_take]; rfl)) ?_
       with_reducible refine (impl_PortStep.calls k t234 t235 t236 t237 (Int.tmod (rd t239 0) 7) (rd y243 (ji8)) t248 t249 t250 t251 true _ A11.out).mono ?_
       rintro e w66 ⟨rfl, hb⟩
       have HS4_ := (hb.cell (World.block_lt_of_cell? _ _ (hHeld.2.2.2.2.1))).trans (hHeld.2.2.2.2.1)
       have HS5_ := (hb.cell (World.block_lt_of_cell? _ _ (hHeld.2.2.2.2.2))).trans (hHeld.2.2.2.2.2)
       refine ⟨_, rfl, ?_⟩
       have n0_ := Aside0.mk (Kd.R_below (rY HO241.out) hb)
       have n1_ := Aside0.mk (Kd.R_below (rY HO245.out) hb)
       have n2_ := Aside0.mk (blk_below (bY BK238.out) hb)
       have n3_ := Aside0.mk (blk_below (bY BK253.out) hb)
       have n4_ := Aside0.mk (below_step (by repeat (first | (with_reducible first | exact HB.out | apply below_alloc | apply pw_below_drewN | apply below_drew1 | refine below_set ?_ GE238.out | refine below_set ?_ GE253.out) | exact HB.out)) hb)
       clear HO241
       clear HO245
       clear BK238
       clear BK253
       clear HB
       have HO241 := n0_
       have HO245 := n1_
       have BK238 := n2_
       have BK253 := n3_
       have HB := n4_
       clear n0_ n1_ n2_ n3_ n4_
       refine hK.out _ _ ⟨(blk_cell BK238.out 0).trans rfl, (blk_cell BK238.out 1).trans rfl, (blk_cell BK238.out 2).trans rfl, (blk_cell BK238.out 3).trans rfl, HS4_, HS5_⟩ (fun hHeld => ?_)
       clear hK K
       refine norm_ (a' := ?_) ?_ ?_
       rotate_left
       ·show Act.put _ (some 28) _ = _
        simp only [pS]
        rfl
       refine pure_ (i := 13) (N := some 15) (v := ?_) (a' := ?_) #[T, T, T, T, T, T, T, T, T, T, T, T, T, T, F, F, T, F, F] rfl rfl (any_of HT_.out (by kernel_rfl)) (fun _ _ _ h => h) (Or.inl ⟨by rfl, ?_⟩) ?_ ?_
       rotate_left
       ·intro w'
        go_simp
        with_reducible rfl
       rotate_left
       ·simp only [pS]
        rfl
       refine pure_ (i := 14) (N := some 29) (v := ?_) (a' := ?_) #[T, T, T, T, T, T, T, T, T, T, T, T, T, T, T, F, T, F, F] rfl rfl (any_of HT_.out (by kernel_rfl)) (fun _ _ _ h => h) (Or.inl ⟨by rfl, ?_⟩) ?_ ?_
       rotate_left
       ·intro w'
        go_simp
        with_reducible rfl
       rotate_left
       ·simp only [pS]
        rfl
       refine pure_ (i := 15) (N := some 30) (v := ?_) (a' := ?_) #[T, T, T, T, T, T, T, T, T, T, T, T, T, T, T, T, T, F, F] rfl rfl (any_of HT_.out (by kernel_rfl)) (fun _ _ _ h => h) (Or.inl ⟨by rfl, ?_⟩) ?_ ?_
       rotate_left
       ·intro w'
        go_simp
        with_reducible rfl
       rotate_left
       ·simp only [pS]
        rfl
       exact norm_ (by simp only [putAll, Act.put, List.setIfInBounds_toArray, List.set_cons_zero, List.set_cons_succ]) (hCont (.slice (some ado64) y243.length co64, ado64, gb253) _ ⟨hHeld, (by (repeat apply rX); exact Kd.R_mono HO241.out (fun _ hk => hk.2)), (by (repeat apply rX); exact Kd.R_mono HO245.out (fun _ hk => hk.2)), ⟨_, rfl⟩, (bY BK238.out), (bY BK253.out), GW253.out, GE253.out, NB238_253.out, NB253_238.out, (by repeat (first | (with_reducible first | exact HB.out | apply below_alloc | apply pw_below_drewN | apply below_drew1 | refine below_set ?_ GE238.out | refine below_set ?_ GE253.out) | exact HB.out))⟩)
     ·skip
      refine box_step ?hg (N := 5) ?hd (cs := #[.int .i64 0, .int .i64 0, .int .i64 0, .int .i64 0]) (t := 46) ?hr ?_; (case hd => rfl); (case hg => rfl); (case hr => first | (go_simp; done) | (go_simp; rfl))
      intro gb253 hg w65 hbox hb
      have HS4_ := (hb.cell (World.block_lt_of_cell? _ _ (hHeld.2.2.2.2.1))).trans (hHeld.2.2.2.2.1)
      have HS5_ := (hb.cell (World.block_lt_of_cell? _ _ (hHeld.2.2.2.2.2))).trans (hHeld.2.2.2.2.2)
      have n0_ := Aside0.mk (Kd.R_below (rY HO241.out) hb)
      have n1_ := Aside0.mk (Kd.R_below (rY HO245.out) hb)
      have n2_ := Aside0.mk (blk_below (bY BK238.out) hb)
      have n3_ := Aside0.mk (below_step (by repeat (first | (with_reducible first | exact HB.out | apply below_alloc | apply pw_below_drewN | apply below_drew1 | refine below_set ?_ GE238.out) | exact HB.out)) hb)
      have n4_ := Aside0.mk (hbox)
      have n5_ := Aside0.mk ((by rw [hg]; exact (below_size (by repeat (first | (with_reducible first | exact HB.out | apply below_alloc | apply pw_below_drewN | apply below_drew1 | refine below_set ?_ GE238.out) | exact HB.out))) : w.heap.size ≤ gb253))
      have n6_ := Aside0.mk ((by rw [hg]; exact (below_size (by repeat (first | (with_reducible first | exact HB.out | apply below_alloc | apply pw_below_drewN | apply below_drew1 | refine below_set ?_ GE238.out) | exact HB.out))) : w.heap.size ≤ gb253))
      have n7_ := Aside0.mk ((by rw [hg]; exact Nat.ne_of_lt (blk_lt (bY BK238.out)) : gb238 ≠ gb253))
      have n8_ := Aside0.mk ((by rw [hg]; exact Nat.ne_of_gt (blk_lt (bY BK238.out)) : gb253 ≠ gb238))
      clear HO241
      clear HO245
      clear BK238
      clear HB
      have HO241 := n0_
      have HO245 := n1_
      have BK238 := n2_
      have HB := n3_
      have BK253 := n4_
      have GW253 := n5_
      have GE253 := n6_
      have NB238_253 := n7_
      have NB253_238 := n8_
      clear n0_ n1_ n2_ n3_ n4_ n5_ n6_ n7_ n8_
      clear hb hbox hg
      refine hK.out _ _ ⟨(blk_cell BK238.out 0).trans rfl, (blk_cell BK238.out 1).trans rfl, (blk_cell BK238.out 2).trans rfl, (blk_cell BK238.out 3).trans rfl, HS4_, HS5_⟩ (fun hHeld => ?_)
      clear hK K
      refine norm_ (a' := ?_) ?_ ?_
      rotate_left
      ·show Act.put _ (some 5) _ = _
       simp only [pS]
       rfl
      refine one_ (i := 11) (N := some 27) #[T, T, T, T, T, T, T, T, T, T, T, T, F, F, F, F, T, F, F] rfl rfl (one_of HT_.out (by kernel_rfl)) (by decide) (fun K hK => ?_)
      (have p247 : 0 ≤ ((ji8) : Int) := of_decide_eq_true (by first | (with_reducible assumption) | assumption); have q247 : (ji8) < (y243.length : Int) := of_decide_eq_true (by first | (with_reducible assumption) | assumption); obtain ⟨ad247, e247, hx247_0⟩ := Kd.at_int (Kd.R_reads' HO245.out).2.2 (ji8) p247 q247; obtain rfl : ado64 = ad247 := (by injection e247))
      refine value_ (w1 := ?_) (v := ?_) (by rfl) rfl ?_ ?_
      rotate_left 2
      ·go_simp
       constructor
       ·rfl
       ·rfl
      clear hx247_0
      refine hK.out _ _ ⟨(blk_cell BK238.out 0).trans rfl, (blk_cell BK238.out 1).trans rfl, (blk_cell BK238.out 2).trans rfl, (blk_cell BK238.out 3).trans rfl, hHeld.2.2.2.2.1, hHeld.2.2.2.2.2⟩ (fun hHeld => ?_)
      clear hK K
      refine norm_ (a' := ?_) ?_ ?_
      rotate_left
      ·show Act.put _ (some 27) _ = _
       simp only [pS]
       rfl
      refine one_ (i := 12) (N := some 28) #[T, T, T, T, T, T, T, T, T, T, T, T, T, F, F, F, T, F, F] rfl rfl (one_of HT_.out (by kernel_rfl)) (by decide) (fun K hK => ?_)
      refine goes_ Try.func25 (by kernel_rfl) rfl #[.agg #[.int .i64 t234, .int .i64 t235, .int .i64 t236, .int .i64 t237], .int .i64 (Int.tmod (rd t239 0) 7), .int .i64 (rd y243 (ji8))] (by rfl) rfl rfl (by (try simp only [List.map_toArray, List.map_cons, List.map_nil]); first | done | (simp only [hji8]; rfl) | rfl | (simp only [List.length_drop, List.length_take]; rfl)) ?_
      with_reducible refine (impl_PortStep.calls k t234 t235 t236 t237 (Int.tmod (rd t239 0) 7) (rd y243 (ji8)) t248 t249 t250 t251 true _ A11.out).mono ?_
      rintro e w66 ⟨rfl, hb⟩
      have HS4_ := (hb.cell (World.block_lt_of_cell? _ _ (hHeld.2.2.2.2.1))).trans (hHeld.2.2.2.2.1)
      have HS5_ := (hb.cell (World.block_lt_of_cell? _ _ (hHeld.2.2.2.2.2))).trans (hHeld.2.2.2.2.2)
      refine ⟨_, rfl, ?_⟩
      have n0_ := Aside0.mk (Kd.R_below (rY HO241.out) hb)
      have n1_ := Aside0.mk (Kd.R_below (rY HO245.out) hb)
      have n2_ := Aside0.mk (blk_below (bY BK238.out) hb)
      have n3_ := Aside0.mk (blk_below (bY BK253.out) hb)
      have n4_ := Aside0.mk (below_step (by repeat (first | (with_reducible first | exact HB.out | apply below_alloc | apply pw_below_drewN | apply below_drew1 | refine below_set ?_ GE238.out | refine below_set ?_ GE253.out) | exact HB.out)) hb)
      clear HO241
      clear HO245
      clear BK238
      clear BK253
      clear HB
      have HO241 := n0_
      have HO245 := n1_
      have BK238 := n2_
      have BK253 := n3_
      have HB := n4_
      clear n0_ n1_ n2_ n3_ n4_
      refine hK.out _ _ ⟨(blk_cell BK238.out 0).trans rfl, (blk_cell BK238.out 1).trans rfl, (blk_cell BK238.out 2).trans rfl, (blk_cell BK238.out 3).trans rfl, HS4_, HS5_⟩ (fun hHeld => ?_)
      clear hK K
      refine norm_ (a' := ?_) ?_ ?_
      rotate_left
      ·show Act.put _ (some 28) _ = _
       simp only [pS]
       rfl
      refine pure_ (i := 13) (N := some 15) (v := ?_) (a' := ?_) #[T, T, T, T, T, T, T, T, T, T, T, T, T, T, F, F, T, F, F] rfl rfl (any_of HT_.out (by kernel_rfl)) (fun _ _ _ h => h) (Or.inl ⟨by rfl, ?_⟩) ?_ ?_
      rotate_left
      ·intro w'
       go_simp
       with_reducible rfl
      rotate_left
      ·simp only [pS]
       rfl
      refine pure_ (i := 14) (N := some 29) (v := ?_) (a' := ?_) #[T, T, T, T, T, T, T, T, T, T, T, T, T, T, T, F, T, F, F] rfl rfl (any_of HT_.out (by kernel_rfl)) (fun _ _ _ h => h) (Or.inl ⟨by rfl, ?_⟩) ?_ ?_
      rotate_left
      ·intro w'
       go_simp
       with_reducible rfl
      rotate_left
      ·simp only [pS]
       rfl
      refine pure_ (i := 15) (N := some 30) (v := ?_) (a' := ?_) #[T, T, T, T, T, T, T, T, T, T, T, T, T, T, T, T, T, F, F] rfl rfl (any_of HT_.out (by kernel_rfl)) (fun _ _ _ h => h) (Or.inl ⟨by rfl, ?_⟩) ?_ ?_
      rotate_left
      ·intro w'
       go_simp
       with_reducible rfl
      rotate_left
      ·simp only [pS]
       rfl
      exact norm_ (by simp only [putAll, Act.put, List.setIfInBounds_toArray, List.set_cons_zero, List.set_cons_succ]) (hCont (.slice (some ado64) y243.length co64, ado64, gb253) _ ⟨hHeld, (by (repeat apply rX); exact Kd.R_mono HO241.out (fun _ hk => hk.2)), (by (repeat apply rX); exact Kd.R_mono HO245.out (fun _ hk => hk.2)), ⟨_, rfl⟩, (bY BK238.out), (bY BK253.out), GW253.out, GE253.out, NB238_253.out, NB253_238.out, (by repeat (first | (with_reducible first | exact HB.out | apply below_alloc | apply pw_below_drewN | apply below_drew1 | refine below_set ?_ GE238.out | refine below_set ?_ GE253.out) | exact HB.out))⟩)
    ·skip
     refine box_step ?hg (N := 5) ?hd (cs := #[.int .i64 0, .int .i64 0, .int .i64 0, .int .i64 0]) (t := 46) ?hr ?_; (case hd => rfl); (case hg => rfl); (case hr => first | (go_simp; done) | (go_simp; rfl))
     intro gb253 hg w62 hbox hb
     have HS4_ := (hb.cell (World.block_lt_of_cell? _ _ (hHeld.2.2.2.2.1))).trans (hHeld.2.2.2.2.1)
     have HS5_ := (hb.cell (World.block_lt_of_cell? _ _ (hHeld.2.2.2.2.2))).trans (hHeld.2.2.2.2.2)
     have n0_ := Aside0.mk (Kd.R_below (rY HO241.out) hb)
     have n1_ := Aside0.mk (blk_below (bY BK238.out) hb)
     have n2_ := Aside0.mk (below_step (by repeat (first | (with_reducible first | exact HB.out | apply below_alloc | apply pw_below_drewN | apply below_drew1 | refine below_set ?_ GE238.out) | exact HB.out)) hb)
     have n3_ := Aside0.mk (hbox)
     have n4_ := Aside0.mk ((by rw [hg]; exact (below_size (by repeat (first | (with_reducible first | exact HB.out | apply below_alloc | apply pw_below_drewN | apply below_drew1 | refine below_set ?_ GE238.out) | exact HB.out))) : w.heap.size ≤ gb253))
     have n5_ := Aside0.mk ((by rw [hg]; exact (below_size (by repeat (first | (with_reducible first | exact HB.out | apply below_alloc | apply pw_below_drewN | apply below_drew1 | refine below_set ?_ GE238.out) | exact HB.out))) : w.heap.size ≤ gb253))
     have n6_ := Aside0.mk ((by rw [hg]; exact Nat.ne_of_lt (blk_lt (bY BK238.out)) : gb238 ≠ gb253))
     have n7_ := Aside0.mk ((by rw [hg]; exact Nat.ne_of_gt (blk_lt (bY BK238.out)) : gb253 ≠ gb238))
     clear HO241
     clear BK238
     clear HB
     have HO241 := n0_
     have BK238 := n1_
     have HB := n2_
     have BK253 := n3_
     have GW253 := n4_
     have GE253 := n5_
     have NB238_253 := n6_
     have NB253_238 := n7_
     clear n0_ n1_ n2_ n3_ n4_ n5_ n6_ n7_
     clear hb hbox hg
     refine hK.out _ _ ⟨(blk_cell BK238.out 0).trans rfl, (blk_cell BK238.out 1).trans rfl, (blk_cell BK238.out 2).trans rfl, (blk_cell BK238.out 3).trans rfl, HS4_, HS5_⟩ (fun hHeld => ?_)
     clear hK K
     refine norm_ (a' := ?_) ?_ ?_
     rotate_left
     ·show Act.put _ (some 5) _ = _
      simp only [pS]
      rfl
     refine one_ (i := 5) (N := some 21) #[T, T, T, T, T, T, T, T, T, T, F, F, F, F, F, F, T, F, F] rfl rfl (one_of HT_.out (by kernel_rfl)) (by decide) (fun K hK => ?_)
     refine Kd.R_lit_step (Kd.int .i64) _ 3 ?hg (N := 21) ?hd (xs := ([1, 2, 4] : List Int)) (inner := [.int .i64 1, .int .i64 2, .int .i64 4]) (ok := fun _ => True) (okp := fun _ => True) ?hr ?hp (fun _ hk => hk) trivial (Below.refl _ _) (Nat.le_refl _) (by simp) ?_; (case hd => rfl); (case hg => rfl); (case hr => first | (go_simp; done) | (go_simp; rfl)); (case hp => exact (Reps.one (show Kd.M (Kd.int .i64) _ _ _ 1 [.int .i64 1] from rfl) (Reps.one (show Kd.M (Kd.int .i64) _ _ _ 2 [.int .i64 2] from rfl) (Reps.one (show Kd.M (Kd.int .i64) _ _ _ 4 [.int .i64 4] from rfl) (Reps.none _ _)))))
     intro v244 w63 ho64 hb hg_ hnew_
     have HS4_ := (hb.cell (World.block_lt_of_cell? _ _ (hHeld.2.2.2.2.1))).trans (hHeld.2.2.2.2.1)
     have HS5_ := (hb.cell (World.block_lt_of_cell? _ _ (hHeld.2.2.2.2.2))).trans (hHeld.2.2.2.2.2)
     clear hg_ hnew_
     (first | rw [← Ny243.out] at ho64 | (simp only [Int.reduceToNat] at ho64; rw [← Ny243.out] at ho64))
     have n0_ := Aside0.mk (Kd.R_elder' (rY HO241.out) (Kd.R_base ho64) hb)
     have n1_ := Aside0.mk (Kd.R_lower (Kd.R_new' ho64 (Kd.R_lt (rY HO241.out))) (below_size (by repeat (first | (with_reducible first | exact HB.out | apply below_alloc | apply pw_below_drewN | apply below_drew1 | refine below_set ?_ GE238.out | refine below_set ?_ GE253.out) | exact HB.out))))
     have n2_ := Aside0.mk (blk_below (bY BK238.out) hb)
     have n3_ := Aside0.mk (blk_below (bY BK253.out) hb)
     have n4_ := Aside0.mk (below_step (by repeat (first | (with_reducible first | exact HB.out | apply below_alloc | apply pw_below_drewN | apply below_drew1 | refine below_set ?_ GE238.out | refine below_set ?_ GE253.out) | exact HB.out)) hb)
     clear HO241
     clear BK238
     clear BK253
     clear HB
     have HO241 := n0_
     have HO245 := n1_
     have BK238 := n2_
     have BK253 := n3_
     have HB := n4_
     clear n0_ n1_ n2_ n3_ n4_
     clear hb ho64
     obtain ⟨Ao65, co65, eo65⟩ := Kd.R_slice HO245.out
     subst eo65
     obtain ⟨ado65, fo65, _⟩ := Kd.at_int (Kd.R_reads' HO245.out).2.2 0 (by decide) (by rw [Ny243.out]; simp)
     cases fo65
     refine hK.out _ _ ⟨(blk_cell BK238.out 0).trans rfl, (blk_cell BK238.out 1).trans rfl, (blk_cell BK238.out 2).trans rfl, (blk_cell BK238.out 3).trans rfl, HS4_, HS5_⟩ (fun hHeld => ?_)
     clear hK K
     refine norm_ (a' := ?_) ?_ ?_
     rotate_left
     ·show Act.put _ (some 21) _ = _
      simp only [pS]
      rfl
     refine pure_ (i := 10) (N := some 26) (v := ?_) (a' := ?_) #[T, T, T, T, T, T, T, T, T, T, T, F, F, F, F, F, T, F, F] rfl rfl (any_of HT_.out (by kernel_rfl)) (fun _ _ _ h => h) (Or.inl ⟨by rfl, ?_⟩) ?_ ?_
     rotate_left
     ·intro w'
      go_simp
      with_reducible rfl
     rotate_left
     ·simp only [pS]
      rfl
     refine one_ (i := 11) (N := some 27) #[T, T, T, T, T, T, T, T, T, T, T, T, F, F, F, F, T, F, F] rfl rfl (one_of HT_.out (by kernel_rfl)) (by decide) (fun K hK => ?_)
     (have p247 : 0 ≤ ((ji8) : Int) := of_decide_eq_true (by first | (with_reducible assumption) | assumption); have q247 : (ji8) < (y243.length : Int) := of_decide_eq_true (by first | (with_reducible assumption) | assumption); obtain ⟨ad247, e247, hx247_0⟩ := Kd.at_int (Kd.R_reads' HO245.out).2.2 (ji8) p247 q247; obtain rfl : ado65 = ad247 := (by injection e247))
     refine value_ (w1 := ?_) (v := ?_) (by rfl) rfl ?_ ?_
     rotate_left 2
     ·go_simp
      constructor
      ·rfl
      ·rfl
     clear hx247_0
     refine hK.out _ _ ⟨(blk_cell BK238.out 0).trans rfl, (blk_cell BK238.out 1).trans rfl, (blk_cell BK238.out 2).trans rfl, (blk_cell BK238.out 3).trans rfl, hHeld.2.2.2.2.1, hHeld.2.2.2.2.2⟩ (fun hHeld => ?_)
     clear hK K
     refine norm_ (a' := ?_) ?_ ?_
     rotate_left
     ·show Act.put _ (some 27) _ = _
      simp only [pS]
      rfl
     refine one_ (i := 12) (N := some 28) #[T, T, T, T, T, T, T, T, T, T, T, T, T, F, F, F, T, F, F] rfl rfl (one_of HT_.out (by kernel_rfl)) (by decide) (fun K hK => ?_)
     refine goes_ Try.func25 (by kernel_rfl) rfl #[.agg #[.int .i64 t234, .int .i64 t235, .int .i64 t236, .int .i64 t237], .int .i64 (Int.tmod (rd t239 0) 7), .int .i64 (rd y243 (ji8))] (by rfl) rfl rfl (by (try simp only [List.map_toArray, List.map_cons, List.map_nil]); first | done | (simp only [hji8]; rfl) | rfl | (simp only [List.length_drop, List.length_take]; rfl)) ?_
     with_reducible refine (impl_PortStep.calls k t234 t235 t236 t237 (Int.tmod (rd t239 0) 7) (rd y243 (ji8)) t248 t249 t250 t251 true _ A11.out).mono ?_
     rintro e w66 ⟨rfl, hb⟩
     have HS4_ := (hb.cell (World.block_lt_of_cell? _ _ (hHeld.2.2.2.2.1))).trans (hHeld.2.2.2.2.1)
     have HS5_ := (hb.cell (World.block_lt_of_cell? _ _ (hHeld.2.2.2.2.2))).trans (hHeld.2.2.2.2.2)
     refine ⟨_, rfl, ?_⟩
     have n0_ := Aside0.mk (Kd.R_below (rY HO241.out) hb)
     have n1_ := Aside0.mk (Kd.R_below (rY HO245.out) hb)
     have n2_ := Aside0.mk (blk_below (bY BK238.out) hb)
     have n3_ := Aside0.mk (blk_below (bY BK253.out) hb)
     have n4_ := Aside0.mk (below_step (by repeat (first | (with_reducible first | exact HB.out | apply below_alloc | apply pw_below_drewN | apply below_drew1 | refine below_set ?_ GE238.out | refine below_set ?_ GE253.out) | exact HB.out)) hb)
     clear HO241
     clear HO245
     clear BK238
     clear BK253
     clear HB
     have HO241 := n0_
     have HO245 := n1_
     have BK238 := n2_
     have BK253 := n3_
     have HB := n4_
     clear n0_ n1_ n2_ n3_ n4_
     refine hK.out _ _ ⟨(blk_cell BK238.out 0).trans rfl, (blk_cell BK238.out 1).trans rfl, (blk_cell BK238.out 2).trans rfl, (blk_cell BK238.out 3).trans rfl, HS4_, HS5_⟩ (fun hHeld => ?_)
     clear hK K
     refine norm_ (a' := ?_) ?_ ?_
     rotate_left
     ·show Act.put _ (some 28) _ = _
      simp only [pS]
      rfl
     refine pure_ (i := 13) (N := some 15) (v := ?_) (a' := ?_) #[T, T, T, T, T, T, T, T, T, T, T, T, T, T, F, F, T, F, F] rfl rfl (any_of HT_.out (by kernel_rfl)) (fun _ _ _ h => h) (Or.inl ⟨by rfl, ?_⟩) ?_ ?_
     rotate_left
     ·intro w'
      go_simp
      with_reducible rfl
     rotate_left
     ·simp only [pS]
      rfl
     refine pure_ (i := 14) (N := some 29) (v := ?_) (a' := ?_) #[T, T, T, T, T, T, T, T, T, T, T, T, T, T, T, F, T, F, F] rfl rfl (any_of HT_.out (by kernel_rfl)) (fun _ _ _ h => h) (Or.inl ⟨by rfl, ?_⟩) ?_ ?_
     rotate_left
     ·intro w'
      go_simp
      with_reducible rfl
     rotate_left
     ·simp only [pS]
      rfl
     refine pure_ (i := 15) (N := some 30) (v := ?_) (a' := ?_) #[T, T, T, T, T, T, T, T, T, T, T, T, T, T, T, T, T, F, F] rfl rfl (any_of HT_.out (by kernel_rfl)) (fun _ _ _ h => h) (Or.inl ⟨by rfl, ?_⟩) ?_ ?_
     rotate_left
     ·intro w'
      go_simp
      with_reducible rfl
     rotate_left
     ·simp only [pS]
      rfl
     exact norm_ (by simp only [putAll, Act.put, List.setIfInBounds_toArray, List.set_cons_zero, List.set_cons_succ]) (hCont (.slice (some ado65) y243.length co65, ado65, gb253) _ ⟨hHeld, (by (repeat apply rX); exact Kd.R_mono HO241.out (fun _ hk => hk.2)), (by (repeat apply rX); exact Kd.R_mono HO245.out (fun _ hk => hk.2)), ⟨_, rfl⟩, (bY BK238.out), (bY BK253.out), GW253.out, GE253.out, NB238_253.out, NB253_238.out, (by repeat (first | (with_reducible first | exact HB.out | apply below_alloc | apply pw_below_drewN | apply below_drew1 | refine below_set ?_ GE238.out | refine below_set ?_ GE253.out) | exact HB.out))⟩)
   rintro ⟨v244, adz_v244, gb253⟩ w67 ⟨hS_, h0_, h1_, h2_, h3_, h4_, h5_, h6_, h7_, h8_, h9_⟩
   have n0_ : Aside0 (Kd.R (Kd.int .i64) 3 w67 w.heap.size (fun k_ => some k_ ≠ (v244 : Value).ownBlock) (.slice (some ad242) t239.length co61) t239) := ⟨h0_⟩
   have n1_ : Aside0 (Kd.R (Kd.int .i64) 3 w67 w.heap.size (fun k_ => some k_ ≠ (.slice (some ad242) t239.length co61 : Value).ownBlock) v244 y243) := ⟨h1_⟩
   have n2_ : Aside0 (∃ c_, (v244 : Value) = .slice (some adz_v244) y243.length c_) := ⟨h2_⟩
   have n3_ : Aside0 (w67.heap[gb238]? = some (.cells #[.int .i64 t234, .int .i64 t235, .int .i64 t236, .int .i64 t237] 46 (0, 0))) := ⟨h3_⟩
   have n4_ : Aside0 (w67.heap[gb253]? = some (.cells #[.int .i64 0, .int .i64 0, .int .i64 0, .int .i64 0] 46 (0, 0))) := ⟨h4_⟩
   have n5_ : Aside0 (w.heap.size ≤ gb253) := ⟨h5_⟩
   have n6_ : Aside0 (w.heap.size ≤ gb253) := ⟨h6_⟩
   have n7_ : Aside0 (gb238 ≠ gb253) := ⟨h7_⟩
   have n8_ : Aside0 (gb253 ≠ gb238) := ⟨h8_⟩
   have n9_ : Aside0 (Below w.heap.size w w67) := ⟨h9_⟩
   clear HO241
   clear BK238
   clear HB
   clear h0_ h1_ h2_ h3_ h4_ h5_ h6_ h7_ h8_ h9_
   have HO241 := n0_
   have HO245 := n1_
   have HA_HO245 := n2_
   have BK238 := n3_
   have BK253 := n4_
   have GW253 := n5_
   have GE253 := n6_
   have NB238_253 := n7_
   have NB253_238 := n8_
   have HB := n9_
   clear n0_ n1_ n2_ n3_ n4_ n5_ n6_ n7_ n8_ n9_
   have hHeld : w67.cell? ⟨gb238, 0, none⟩ = some (.int .i64 t234) ∧ w67.cell? ⟨gb238, 1, none⟩ = some (.int .i64 t235) ∧ w67.cell? ⟨gb238, 2, none⟩ = some (.int .i64 t236) ∧ w67.cell? ⟨gb238, 3, none⟩ = some (.int .i64 t237) ∧ w67.cell? ad242 = some (.int .i64 (rd t239 0)) ∧ w67.cell? ⟨ad242.block, ad242.off + 1, none⟩ = some (.int .i64 (rd t239 1)) := hS_
   obtain ⟨co68, eo68⟩ := HA_HO245.out
   clear HA_HO245
   subst eo68
   refine norm_ (a' := ?_) ?_ ?_
   rotate_left
   ·simp only [putAll, Act.put, List.setIfInBounds_toArray, List.set_cons_zero, List.set_cons_succ]
    rfl
   refine one_ (i := 17) (N := none) #[T, T, T, T, T, T, T, T, T, T, T, T, T, T, T, T, T, T, F] rfl rfl (one_of HT_.out (by kernel_rfl)) (by decide) (fun K hK => ?_)
   have hs69 : w67.cell? ⟨gb253, 0, none⟩ = some (.int .i64 0) := (blk_cell BK253.out 0).trans rfl
   have hfs69 := blk_frozen BK253.out 0
   have hns69_0 := NB238_253.out
   have hms69_0 := NB253_238.out
   have hs70 : w67.cell? ⟨gb253, 1, none⟩ = some (.int .i64 0) := (blk_cell BK253.out 1).trans rfl
   have hfs70 := blk_frozen BK253.out 1
   have hns70_0 := NB238_253.out
   have hms70_0 := NB253_238.out
   have hs71 : w67.cell? ⟨gb253, 2, none⟩ = some (.int .i64 0) := (blk_cell BK253.out 2).trans rfl
   have hfs71 := blk_frozen BK253.out 2
   have hns71_0 := NB238_253.out
   have hms71_0 := NB253_238.out
   have hs72 : w67.cell? ⟨gb253, 3, none⟩ = some (.int .i64 0) := (blk_cell BK253.out 3).trans rfl
   have hfs72 := blk_frozen BK253.out 3
   have hns72_0 := NB238_253.out
   have hms72_0 := NB253_238.out
   refine skip_ (w1 := ?_) (by rfl) rfl ?_ ?_
   rotate_left
   ·go_simp
    rfl
   refine hK.out _ _ ⟨((cell_far (p := ⟨gb253, _, none⟩) NB238_253.out _).trans (((cell_far (p := ⟨gb253, _, none⟩) NB238_253.out _).trans (((cell_far (p := ⟨gb253, _, none⟩) NB238_253.out _).trans (((cell_far (p := ⟨gb253, _, none⟩) NB238_253.out _).trans (hHeld.1)))))))), ((cell_far (p := ⟨gb253, _, none⟩) NB238_253.out _).trans (((cell_far (p := ⟨gb253, _, none⟩) NB238_253.out _).trans (((cell_far (p := ⟨gb253, _, none⟩) NB238_253.out _).trans (((cell_far (p := ⟨gb253, _, none⟩) NB238_253.out _).trans (hHeld.2.1)))))))), ((cell_far (p := ⟨gb253, _, none⟩) NB238_253.out _).trans (((cell_far (p := ⟨gb253, _, none⟩) NB238_253.out _).trans (((cell_far (p := ⟨gb253, _, none⟩) NB238_253.out _).trans (((cell_far (p := ⟨gb253, _, none⟩) NB238_253.out _).trans (hHeld.2.2.1)))))))), ((cell_far (p := ⟨gb253, _, none⟩) NB238_253.out _).trans (((cell_far (p := ⟨gb253, _, none⟩) NB238_253.out _).trans (((cell_far (p := ⟨gb253, _, none⟩) NB238_253.out _).trans (((cell_far (p := ⟨gb253, _, none⟩) NB238_253.out _).trans (hHeld.2.2.2.1)))))))), ((cell_far (p := ⟨gb253, _, none⟩) (by have e_ := Kd.own_blk (Kd.R_ne HO241.out BK253.out (by decide)); first | exact e_ | (rw [add_block]; exact e_) | (dsimp only; exact e_)) _).trans (((cell_far (p := ⟨gb253, _, none⟩) (by have e_ := Kd.own_blk (Kd.R_ne HO241.out BK253.out (by decide)); first | exact e_ | (rw [add_block]; exact e_) | (dsimp only; exact e_)) _).trans (((cell_far (p := ⟨gb253, _, none⟩) (by have e_ := Kd.own_blk (Kd.R_ne HO241.out BK253.out (by decide)); first | exact e_ | (rw [add_block]; exact e_) | (dsimp only; exact e_)) _).trans (((cell_far (p := ⟨gb253, _, none⟩) (by have e_ := Kd.own_blk (Kd.R_ne HO241.out BK253.out (by decide)); first | exact e_ | (rw [add_block]; exact e_) | (dsimp only; exact e_)) _).trans (hHeld.2.2.2.2.1)))))))), ((cell_far (p := ⟨gb253, _, none⟩) (by have e_ := Kd.own_blk (Kd.R_ne HO241.out BK253.out (by decide)); first | exact e_ | (rw [add_block]; exact e_) | (dsimp only; exact e_)) _).trans (((cell_far (p := ⟨gb253, _, none⟩) (by have e_ := Kd.own_blk (Kd.R_ne HO241.out BK253.out (by decide)); first | exact e_ | (rw [add_block]; exact e_) | (dsimp only; exact e_)) _).trans (((cell_far (p := ⟨gb253, _, none⟩) (by have e_ := Kd.own_blk (Kd.R_ne HO241.out BK253.out (by decide)); first | exact e_ | (rw [add_block]; exact e_) | (dsimp only; exact e_)) _).trans (((cell_far (p := ⟨gb253, _, none⟩) (by have e_ := Kd.own_blk (Kd.R_ne HO241.out BK253.out (by decide)); first | exact e_ | (rw [add_block]; exact e_) | (dsimp only; exact e_)) _).trans (hHeld.2.2.2.2.2))))))))⟩ (fun hHeld => ?_)
   clear hK K
   refine pure_ (i := 18) (N := some 6) (v := ?_) (a' := ?_) #[T, T, T, T, T, T, T, T, T, T, T, T, T, T, T, T, T, T, T] rfl rfl (any_of HT_.out (by kernel_rfl)) (fun _ _ _ h => h) (Or.inl ⟨by rfl, ?_⟩) ?_ ?_
   rotate_left
   ·intro w'
    go_simp
    with_reducible rfl
   rotate_left
   ·simp only [pS]
    rfl
   refine done_ (done_of HT_.out (by kernel_rfl)) ?_
   have hnb73 := NB238_253.out
   have hnc73 := NB253_238.out
   have hcz74_0 : w67.cell? ⟨gb238, 0, none⟩ = some (.int .i64 t234) := (blk_cell BK238.out 0).trans rfl
   have hcz74_1 : w67.cell? ⟨gb238, 1, none⟩ = some (.int .i64 t235) := (blk_cell BK238.out 1).trans rfl
   have hcz74_2 : w67.cell? ⟨gb238, 2, none⟩ = some (.int .i64 t236) := (blk_cell BK238.out 2).trans rfl
   have hcz74_3 : w67.cell? ⟨gb238, 3, none⟩ = some (.int .i64 t237) := (blk_cell BK238.out 3).trans rfl
   have hfz74_0 := blk_frozen BK238.out 0
   have hfz74_1 := blk_frozen BK238.out 1
   have hfz74_2 := blk_frozen BK238.out 2
   have hfz74_3 := blk_frozen BK238.out 3
   try go_wp2_with (first | ((with_reducible refine gate_callee (f := 25) rfl ?_); refine goesL_ (some 33) rfl rfl Try.func25 (by kernel_rfl) rfl #[.agg #[.int .i64 t234, .int .i64 t235, .int .i64 t236, .int .i64 t237], .int .i64 4, .int .i64 1] rfl (by (try simp only [List.map_toArray, List.map_cons, List.map_nil]); first | done | rfl) ?_; (with_reducible refine (impl_PortStep.calls k t234 t235 t236 t237 4 1 t254 t255 t256 t257 false _ A12.out).mono ?_); rintro e w75 ⟨rfl, hb⟩; refine ⟨_, rfl, ?_⟩; have n0_ := Aside0.mk (Kd.R_below (by (repeat apply rX); exact (Kd.R_mono (Kd.R_far (p := ⟨gb253, 3, none⟩) (Kd.R_far (p := ⟨gb253, 2, none⟩) (Kd.R_far (p := ⟨gb253, 1, none⟩) (Kd.R_far (p := ⟨gb253, 0, none⟩) (Kd.R_types HO241.out BK253.out (by decide)) (fun _ hk => hk.2) (.int .i64 t248)) (fun _ hk => hk.2) (.int .i64 t249)) (fun _ hk => hk.2) (.int .i64 t250)) (fun _ hk => hk.2) (.int .i64 t251)) (fun _ h_ => h_.1))) hb); have n1_ := Aside0.mk (Kd.R_below (by (repeat apply rX); exact (Kd.R_mono (Kd.R_far (p := ⟨gb253, 3, none⟩) (Kd.R_far (p := ⟨gb253, 2, none⟩) (Kd.R_far (p := ⟨gb253, 1, none⟩) (Kd.R_far (p := ⟨gb253, 0, none⟩) (Kd.R_types HO245.out BK253.out (by decide)) (fun _ hk => hk.2) (.int .i64 t248)) (fun _ hk => hk.2) (.int .i64 t249)) (fun _ hk => hk.2) (.int .i64 t250)) (fun _ hk => hk.2) (.int .i64 t251)) (fun _ h_ => h_.1))) hb); have n2_ := Aside0.mk (blk_below (g := gb238) (o := .cells #[.int .i64 t234, .int .i64 t235, .int .i64 t236, .int .i64 t237] 46 (0, 0)) (by (repeat apply bX); refine blk_far ?_ NB238_253.out _; (repeat apply bX); refine blk_far ?_ NB238_253.out _; (repeat apply bX); refine blk_far ?_ NB238_253.out _; (repeat apply bX); refine blk_far ?_ NB238_253.out _; (repeat apply bX); exact BK238.out) hb); have n3_ := Aside0.mk (blk_below (g := gb253) (o := .cells #[.int .i64 t248, .int .i64 t249, .int .i64 t250, .int .i64 t251] 46 (0, 0)) (by (repeat apply bX); refine blk_put (cs := #[.int .i64 t248, .int .i64 t249, .int .i64 t250, .int .i64 0]) ?_ 3 _ rfl; (repeat apply bX); refine blk_put (cs := #[.int .i64 t248, .int .i64 t249, .int .i64 0, .int .i64 0]) ?_ 2 _ rfl; (repeat apply bX); refine blk_put (cs := #[.int .i64 t248, .int .i64 0, .int .i64 0, .int .i64 0]) ?_ 1 _ rfl; (repeat apply bX); refine blk_put (cs := #[.int .i64 0, .int .i64 0, .int .i64 0, .int .i64 0]) ?_ 0 _ rfl; (repeat apply bX); exact BK253.out) hb); have n4_ := Aside0.mk (below_step (by repeat (first | (with_reducible first | exact HB.out | apply below_alloc | apply pw_below_drewN | apply below_drew1 | refine below_set ?_ GE238.out | refine below_set ?_ GE253.out) | exact HB.out)) hb); clear HO241; clear HO245; clear BK238; clear BK253; clear HB; have HO241 := n0_; have HO245 := n1_; have BK238 := n2_; have BK253 := n3_; have HB := n4_; clear n0_ n1_ n2_ n3_ n4_; (try clear hb); (try clear hb2); (try clear hk); (try clear hi)) | ((with_reducible refine gate_dst (N := 7) rfl ?_); refine box_event ?hg (N := 7) ?hd (cs := #[.int .i64 0, .int .i64 0, .int .i64 0, .int .i64 0]) (t := 46) ?hr ?_; (case hd => rfl); (case hg => rfl); (case hr => first | (go_simp; done) | (go_simp; rfl)); intro gb259 hg w76 hbox hb; have n0_ := Aside0.mk (Kd.R_below (rY HO241.out) hb); have n1_ := Aside0.mk (Kd.R_below (rY HO245.out) hb); have n2_ := Aside0.mk (blk_below (bY BK238.out) hb); have n3_ := Aside0.mk (blk_below (bY BK253.out) hb); have n4_ := Aside0.mk (below_step (by repeat (first | (with_reducible first | exact HB.out | apply below_alloc | apply pw_below_drewN | apply below_drew1 | refine below_set ?_ GE238.out | refine below_set ?_ GE253.out) | exact HB.out)) hb); have n5_ := Aside0.mk (hbox); have n6_ := Aside0.mk ((by rw [hg]; exact (below_size (by repeat (first | (with_reducible first | exact HB.out | apply below_alloc | apply pw_below_drewN | apply below_drew1 | refine below_set ?_ GE238.out | refine below_set ?_ GE253.out) | exact HB.out))) : w.heap.size ≤ gb259)); have n7_ := Aside0.mk ((by rw [hg]; exact (below_size (by repeat (first | (with_reducible first | exact HB.out | apply below_alloc | apply pw_below_drewN | apply below_drew1 | refine below_set ?_ GE238.out | refine below_set ?_ GE253.out) | exact HB.out))) : w.heap.size ≤ gb259)); have n8_ := Aside0.mk ((by rw [hg]; exact Nat.ne_of_lt (blk_lt (bY BK238.out)) : gb238 ≠ gb259)); have n9_ := Aside0.mk ((by rw [hg]; exact Nat.ne_of_gt (blk_lt (bY BK238.out)) : gb259 ≠ gb238)); have n10_ := Aside0.mk ((by rw [hg]; exact Nat.ne_of_lt (blk_lt (bY BK253.out)) : gb253 ≠ gb259)); have n11_ := Aside0.mk ((by rw [hg]; exact Nat.ne_of_gt (blk_lt (bY BK253.out)) : gb259 ≠ gb253)); clear HO241; clear HO245; clear BK238; clear BK253; clear HB; have HO241 := n0_; have HO245 := n1_; have BK238 := n2_; have BK253 := n3_; have HB := n4_; have BK259 := n5_; have GW259 := n6_; have GE259 := n7_; have NB238_259 := n8_; have NB259_238 := n9_; have NB253_259 := n10_; have NB259_253 := n11_; clear n0_ n1_ n2_ n3_ n4_ n5_ n6_ n7_ n8_ n9_ n10_ n11_; clear hb hbox hg; have hnb77 := NB259_238.out; have hnc77 := NB238_259.out; have hnb78 := NB259_253.out; have hnc78 := NB253_259.out; have hcz79_0 : w76.cell? ⟨gb259, 0, none⟩ = some (.int .i64 0) := (blk_cell BK259.out 0).trans rfl; have hcz79_1 : w76.cell? ⟨gb259, 1, none⟩ = some (.int .i64 0) := (blk_cell BK259.out 1).trans rfl; have hcz79_2 : w76.cell? ⟨gb259, 2, none⟩ = some (.int .i64 0) := (blk_cell BK259.out 2).trans rfl; have hcz79_3 : w76.cell? ⟨gb259, 3, none⟩ = some (.int .i64 0) := (blk_cell BK259.out 3).trans rfl; have hfz79_0 := blk_frozen BK259.out 0; have hfz79_1 := blk_frozen BK259.out 1; have hfz79_2 := blk_frozen BK259.out 2; have hfz79_3 := blk_frozen BK259.out 3; have hcz80_0 : w76.cell? ⟨gb238, 0, none⟩ = some (.int .i64 t234) := (blk_cell BK238.out 0).trans rfl; have hcz80_1 : w76.cell? ⟨gb238, 1, none⟩ = some (.int .i64 t235) := (blk_cell BK238.out 1).trans rfl; have hcz80_2 : w76.cell? ⟨gb238, 2, none⟩ = some (.int .i64 t236) := (blk_cell BK238.out 2).trans rfl; have hcz80_3 : w76.cell? ⟨gb238, 3, none⟩ = some (.int .i64 t237) := (blk_cell BK238.out 3).trans rfl; have hfz80_0 := blk_frozen BK238.out 0; have hfz80_1 := blk_frozen BK238.out 1; have hfz80_2 := blk_frozen BK238.out 2; have hfz80_3 := blk_frozen BK238.out 3) | ((with_reducible refine gate_callee (f := 26) rfl ?_); refine goesL_ (some 37) rfl rfl Try.func26 (by kernel_rfl) rfl #[.agg #[.int .i64 t234, .int .i64 t235, .int .i64 t236, .int .i64 t237]] rfl (by (try simp only [List.map_toArray, List.map_cons, List.map_nil]); first | done | rfl) ?_; (with_reducible refine (impl_PortOk.calls k t234 t235 t236 t237 true _ A13.out).mono ?_); rintro e w81 ⟨rfl, hb⟩; refine ⟨_, rfl, ?_⟩; have n0_ := Aside0.mk (Kd.R_below (by (repeat apply rX); exact (Kd.R_mono (Kd.R_far (p := ⟨gb259, 3, none⟩) (Kd.R_far (p := ⟨gb259, 2, none⟩) (Kd.R_far (p := ⟨gb259, 1, none⟩) (Kd.R_far (p := ⟨gb259, 0, none⟩) (Kd.R_types HO241.out BK259.out (by decide)) (fun _ hk => hk.2) (.int .i64 t254)) (fun _ hk => hk.2) (.int .i64 t255)) (fun _ hk => hk.2) (.int .i64 t256)) (fun _ hk => hk.2) (.int .i64 t257)) (fun _ h_ => h_.1))) hb); have n1_ := Aside0.mk (Kd.R_below (by (repeat apply rX); exact (Kd.R_mono (Kd.R_far (p := ⟨gb259, 3, none⟩) (Kd.R_far (p := ⟨gb259, 2, none⟩) (Kd.R_far (p := ⟨gb259, 1, none⟩) (Kd.R_far (p := ⟨gb259, 0, none⟩) (Kd.R_types HO245.out BK259.out (by decide)) (fun _ hk => hk.2) (.int .i64 t254)) (fun _ hk => hk.2) (.int .i64 t255)) (fun _ hk => hk.2) (.int .i64 t256)) (fun _ hk => hk.2) (.int .i64 t257)) (fun _ h_ => h_.1))) hb); have n2_ := Aside0.mk (blk_below (g := gb238) (o := .cells #[.int .i64 t234, .int .i64 t235, .int .i64 t236, .int .i64 t237] 46 (0, 0)) (by (repeat apply bX); refine blk_far ?_ NB238_259.out _; (repeat apply bX); refine blk_far ?_ NB238_259.out _; (repeat apply bX); refine blk_far ?_ NB238_259.out _; (repeat apply bX); refine blk_far ?_ NB238_259.out _; (repeat apply bX); exact BK238.out) hb); have n3_ := Aside0.mk (blk_below (g := gb253) (o := .cells #[.int .i64 t248, .int .i64 t249, .int .i64 t250, .int .i64 t251] 46 (0, 0)) (by (repeat apply bX); refine blk_far ?_ NB253_259.out _; (repeat apply bX); refine blk_far ?_ NB253_259.out _; (repeat apply bX); refine blk_far ?_ NB253_259.out _; (repeat apply bX); refine blk_far ?_ NB253_259.out _; (repeat apply bX); exact BK253.out) hb); have n4_ := Aside0.mk (blk_below (g := gb259) (o := .cells #[.int .i64 t254, .int .i64 t255, .int .i64 t256, .int .i64 t257] 46 (0, 0)) (by (repeat apply bX); refine blk_put (cs := #[.int .i64 t254, .int .i64 t255, .int .i64 t256, .int .i64 0]) ?_ 3 _ rfl; (repeat apply bX); refine blk_put (cs := #[.int .i64 t254, .int .i64 t255, .int .i64 0, .int .i64 0]) ?_ 2 _ rfl; (repeat apply bX); refine blk_put (cs := #[.int .i64 t254, .int .i64 0, .int .i64 0, .int .i64 0]) ?_ 1 _ rfl; (repeat apply bX); refine blk_put (cs := #[.int .i64 0, .int .i64 0, .int .i64 0, .int .i64 0]) ?_ 0 _ rfl; (repeat apply bX); exact BK259.out) hb); have n5_ := Aside0.mk (below_step (by repeat (first | (with_reducible first | exact HB.out | apply below_alloc | apply pw_below_drewN | apply below_drew1 | refine below_set ?_ GE238.out | refine below_set ?_ GE253.out | refine below_set ?_ GE259.out) | exact HB.out)) hb); clear HO241; clear HO245; clear BK238; clear BK253; clear BK259; clear HB; have HO241 := n0_; have HO245 := n1_; have BK238 := n2_; have BK253 := n3_; have BK259 := n4_; have HB := n5_; clear n0_ n1_ n2_ n3_ n4_ n5_; (try clear hb); (try clear hb2); (try clear hk); (try clear hi); have hcz82_0 : w81.cell? ⟨gb253, 0, none⟩ = some (.int .i64 t248) := (blk_cell BK253.out 0).trans rfl; have hcz82_1 : w81.cell? ⟨gb253, 1, none⟩ = some (.int .i64 t249) := (blk_cell BK253.out 1).trans rfl; have hcz82_2 : w81.cell? ⟨gb253, 2, none⟩ = some (.int .i64 t250) := (blk_cell BK253.out 2).trans rfl; have hcz82_3 : w81.cell? ⟨gb253, 3, none⟩ = some (.int .i64 t251) := (blk_cell BK253.out 3).trans rfl; have hfz82_0 := blk_frozen BK253.out 0; have hfz82_1 := blk_frozen BK253.out 1; have hfz82_2 := blk_frozen BK253.out 2; have hfz82_3 := blk_frozen BK253.out 3) | (go_at_call 26; (with_reducible refine (impl_PortOk.calls k t248 t249 t250 t251 true _ A15.out).mono ?_); rintro e w83 ⟨rfl, hb⟩; have n0_ := Aside0.mk (Kd.R_below (rY HO241.out) hb); have n1_ := Aside0.mk (Kd.R_below (rY HO245.out) hb); have n2_ := Aside0.mk (blk_below (bY BK238.out) hb); have n3_ := Aside0.mk (blk_below (bY BK253.out) hb); have n4_ := Aside0.mk (blk_below (bY BK259.out) hb); have n5_ := Aside0.mk (below_step (by repeat (first | (with_reducible first | exact HB.out | apply below_alloc | apply pw_below_drewN | apply below_drew1 | refine below_set ?_ GE238.out | refine below_set ?_ GE253.out | refine below_set ?_ GE259.out) | exact HB.out)) hb); clear HO241; clear HO245; clear BK238; clear BK253; clear BK259; clear HB; have HO241 := n0_; have HO245 := n1_; have BK238 := n2_; have BK253 := n3_; have BK259 := n4_; have HB := n5_; clear n0_ n1_ n2_ n3_ n4_ n5_; (try clear hb); (try clear hb2); (try clear hk); (try clear hi); have hcz84_0 : w83.cell? ⟨gb253, 0, none⟩ = some (.int .i64 t248) := (blk_cell BK253.out 0).trans rfl; have hcz84_1 : w83.cell? ⟨gb253, 1, none⟩ = some (.int .i64 t249) := (blk_cell BK253.out 1).trans rfl; have hcz84_2 : w83.cell? ⟨gb253, 2, none⟩ = some (.int .i64 t250) := (blk_cell BK253.out 2).trans rfl; have hcz84_3 : w83.cell? ⟨gb253, 3, none⟩ = some (.int .i64 t251) := (blk_cell BK253.out 3).trans rfl; have hfz84_0 := blk_frozen BK253.out 0; have hfz84_1 := blk_frozen BK253.out 1; have hfz84_2 := blk_frozen BK253.out 2; have hfz84_3 := blk_frozen BK253.out 3; have hcz85_0 : w83.cell? ⟨gb238, 0, none⟩ = some (.int .i64 t234) := (blk_cell BK238.out 0).trans rfl; have hcz85_1 : w83.cell? ⟨gb238, 1, none⟩ = some (.int .i64 t235) := (blk_cell BK238.out 1).trans rfl; have hcz85_2 : w83.cell? ⟨gb238, 2, none⟩ = some (.int .i64 t236) := (blk_cell BK238.out 2).trans rfl; have hcz85_3 : w83.cell? ⟨gb238, 3, none⟩ = some (.int .i64 t237) := (blk_cell BK238.out 3).trans rfl; have hfz85_0 := blk_frozen BK238.out 0; have hfz85_1 := blk_frozen BK238.out 1; have hfz85_2 := blk_frozen BK238.out 2; have hfz85_3 := blk_frozen BK238.out 3) | (go_at_call 27; (with_reducible refine (impl_StateName.calls t234 t263 _ A55.out).mono ?_); rintro e w' ⟨rfl, ⟨nd, rfl⟩⟩))
   go_ret
   exact ⟨by first | rfl | (generalize t263.toList = z_; cases z_ <;> first | rfl | (simp; done)) | (simp [errW_none, errW_some] <;> rfl) | (simp only [← hji8]; first | rfl | (simp [errW_none, errW_some] <;> rfl)) | (simp [*, errW_none, errW_some] <;> rfl), by repeat (first | (with_reducible first | exact HB.out | apply below_alloc | apply pw_below_drewN | apply below_drew1 | refine below_set ?_ GE238.out | refine below_set ?_ GE253.out | refine below_set ?_ GE259.out) | exact HB.out)⟩
  subst c20
  have H1 : (if t254 = 0 then (if t255 = 0 then ((impl_StateName.f t234).bind fun t262 => (some (t262.toList != ([] : List UInt8)))) else (some false)) else (some false)) = some r := by rw [if_pos rfl] at H; exact H
  clear H
  have H := H1
  clear H1
  by_cases c21 : t254 = 0
  rotate_left
  ·rw [if_neg c21] at H
   have c21b0 : (t254 == 0) = false := beq_eq_false_iff_ne.mpr c21
   have c21b1 : (t254 != 0) = true := bne_iff_ne.mpr c21
   exact absurd (H.trans (congrArg some hrt.out)) (by simp)
  rw [if_pos c21] at H
  have c21b0 : (t254 == 0) = true := beq_iff_eq.mpr c21
  have c21b1 : (t254 != 0) = false := bne_eq_false_iff_eq.mpr c21
  clear c21
  by_cases c22 : t255 = 0
  rotate_left
  ·rw [if_neg c22] at H
   have c22b0 : (t255 == 0) = false := beq_eq_false_iff_ne.mpr c22
   have c22b1 : (t255 != 0) = true := bne_iff_ne.mpr c22
   exact absurd (H.trans (congrArg some hrt.out)) (by simp)
  rw [if_pos c22] at H
  have c22b0 : (t255 == 0) = true := beq_iff_eq.mpr c22
  have c22b1 : (t255 != 0) = false := bne_eq_false_iff_eq.mpr c22
  clear c22
  replace H := Option.bind_eq_some_iff.mp H
  obtain ⟨t262, A230, H⟩ := H
  have A23 := Aside0.mk A230
  clear A230
  obtain rfl := Option.some.inj H
  go_enter Try.func6, Try.ntmps6
  try go_wp2_with (first | ((with_reducible refine gate_callee (f := 7) rfl ?_); refine goesL_ (some 10) rfl rfl Try.func7 (by kernel_rfl) rfl #[.slice A0 l0.length c0] rfl (by (try simp only [List.map_toArray, List.map_cons, List.map_nil]); first | done | rfl) ?_; (with_reducible refine (laws_big.calls _ _ l0 false _ ?side1 ?side2 A2.out).mono ?_); (case side1 => repeat (first | exact HR0.out | (with_reducible refine Kd.C_alloc ?_ _) | (with_reducible refine Kd.C_drewN ?_ _) | (with_reducible refine Kd.C_drew ?_))); (case side2 => exact HC0.out); rintro e w' ⟨rfl, ⟨nd, rfl⟩⟩; refine ⟨_, rfl, ?_⟩) | ((with_reducible refine gate_callee (f := 23) rfl ?_); refine goesL_ (some 12) rfl rfl Try.func23 (by kernel_rfl) rfl #[.slice A0 l0.length c0] rfl (by (try simp only [List.map_toArray, List.map_cons, List.map_nil]); first | done | rfl) ?_; (with_reducible refine (spec_DrawPort.calls k _ _ l0 t234 t235 t236 t237 _ ?side1 ?side2 A4.out).mono ?_); (case side1 => repeat (first | exact HR0.out | (with_reducible refine Kd.C_alloc ?_ _) | (with_reducible refine Kd.C_drewN ?_ _) | (with_reducible refine Kd.C_drew ?_))); (case side2 => exact HC0.out); rintro e w24 ⟨rfl, hb⟩; refine ⟨_, rfl, ?_⟩; have n0_ := Aside0.mk (below_step (by repeat (first | (with_reducible first | exact HB.out | apply below_alloc | apply pw_below_drewN | apply below_drew1) | exact HB.out)) hb); clear HB; have HB := n0_; clear n0_; (try clear hb); (try clear hb2); (try clear hk); (try clear hi)) | ((with_reducible refine gate_dst (N := 3) rfl ?_); refine box_event ?hg (N := 3) ?hd (cs := #[.int .i64 0, .int .i64 0, .int .i64 0, .int .i64 0]) (t := 46) ?hr ?_; (case hd => rfl); (case hg => rfl); (case hr => first | (go_simp; done) | (go_simp; rfl)); intro gb238 hg w25 hbox hb; have n0_ := Aside0.mk (below_step (by repeat (first | (with_reducible first | exact HB.out | apply below_alloc | apply pw_below_drewN | apply below_drew1) | exact HB.out)) hb); have n1_ := Aside0.mk (hbox); have n2_ := Aside0.mk ((by rw [hg]; exact (below_size (by repeat (first | (with_reducible first | exact HB.out | apply below_alloc | apply pw_below_drewN | apply below_drew1) | exact HB.out))) : w.heap.size ≤ gb238)); have n3_ := Aside0.mk ((by rw [hg]; exact (below_size (by repeat (first | (with_reducible first | exact HB.out | apply below_alloc | apply pw_below_drewN | apply below_drew1) | exact HB.out))) : w.heap.size ≤ gb238)); clear HB; have HB := n0_; have BK238 := n1_; have GW238 := n2_; have GE238 := n3_; clear n0_ n1_ n2_ n3_; clear hb hbox hg; have hcz26_0 : w25.cell? ⟨gb238, 0, none⟩ = some (.int .i64 0) := (blk_cell BK238.out 0).trans rfl; have hcz26_1 : w25.cell? ⟨gb238, 1, none⟩ = some (.int .i64 0) := (blk_cell BK238.out 1).trans rfl; have hcz26_2 : w25.cell? ⟨gb238, 2, none⟩ = some (.int .i64 0) := (blk_cell BK238.out 2).trans rfl; have hcz26_3 : w25.cell? ⟨gb238, 3, none⟩ = some (.int .i64 0) := (blk_cell BK238.out 3).trans rfl; have hfz26_0 := blk_frozen BK238.out 0; have hfz26_1 := blk_frozen BK238.out 1; have hfz26_2 := blk_frozen BK238.out 2; have hfz26_3 := blk_frozen BK238.out 3) | ((with_reducible refine gate_callee (f := 24) rfl ?_); refine goesL_ (some 14) rfl rfl Try.func24 (by kernel_rfl) rfl #[.slice A0 l0.length c0] rfl (by (try simp only [List.map_toArray, List.map_cons, List.map_nil]); first | done | rfl) ?_; (with_reducible refine (spec_DrawPlaces.calls k _ _ l0 t239 _ ?side1 ?side2 A5.out).mono ?_); (case side1 => exact Kd.C_below HR0.out (by repeat (first | (with_reducible first | exact HB.out | apply below_alloc | apply pw_below_drewN | apply below_drew1 | refine below_set ?_ GE238.out) | exact HB.out))); (case side2 => exact HC0.out); rintro e w27 ⟨v240, rfl, ho0, hb⟩; refine ⟨_, rfl, ?_⟩; have n0_ := Aside0.mk (Kd.R_lower ho0 (below_size (by repeat (first | (with_reducible first | exact HB.out | apply below_alloc | apply pw_below_drewN | apply below_drew1 | refine below_set ?_ GE238.out) | exact HB.out)))); have n1_ := Aside0.mk (blk_below (g := gb238) (o := .cells #[.int .i64 t234, .int .i64 t235, .int .i64 t236, .int .i64 t237] 46 (0, 0)) (by (repeat apply bX); refine blk_put (cs := #[.int .i64 t234, .int .i64 t235, .int .i64 t236, .int .i64 0]) ?_ 3 _ rfl; (repeat apply bX); refine blk_put (cs := #[.int .i64 t234, .int .i64 t235, .int .i64 0, .int .i64 0]) ?_ 2 _ rfl; (repeat apply bX); refine blk_put (cs := #[.int .i64 t234, .int .i64 0, .int .i64 0, .int .i64 0]) ?_ 1 _ rfl; (repeat apply bX); refine blk_put (cs := #[.int .i64 0, .int .i64 0, .int .i64 0, .int .i64 0]) ?_ 0 _ rfl; (repeat apply bX); exact BK238.out) hb); have n2_ := Aside0.mk (below_step (by repeat (first | (with_reducible first | exact HB.out | apply below_alloc | apply pw_below_drewN | apply below_drew1 | refine below_set ?_ GE238.out) | exact HB.out)) hb); clear BK238; clear HB; have HO241 := n0_; have BK238 := n1_; have HB := n2_; clear n0_ n1_ n2_; (try clear hb); (try clear hb2); (try clear hk); (try clear hi); (try clear ho0)))
  have pi247 : (0 ≤ ((ji8) : Int)) = True := eq_true (of_decide_eq_true (by first | (with_reducible assumption) | assumption))
  have qi247 : ((ji8) < (y243.length : Int)) = True := eq_true (of_decide_eq_true (by first | (with_reducible assumption) | assumption))
  have n0_ := Aside0.mk (Kd.R_drew HO241.out)
  have n1_ := Aside0.mk (blk_drew BK238.out)
  have n2_ := Aside0.mk (below_drew1 HB.out)
  clear HO241
  clear BK238
  clear HB
  have HO241 := n0_
  have BK238 := n1_
  have HB := n2_
  clear n0_ n1_ n2_
  obtain ⟨Ao29, co29, eo29⟩ := Kd.R_slice HO241.out
  (first | subst eo29 | (injection eo29 with f1_ f2_ f3_; have f4_ := f1_.symm; have f5_ := f3_.symm; clear f1_ f2_ f3_; subst f4_; subst f5_))
  have p242 : 0 ≤ (0 : Int) := (by omega)
  have q242 : 0 < (t239.length : Int) := of_decide_eq_true (by first | (with_reducible assumption) | assumption)
  obtain ⟨ad242, e242, hx242_0⟩ := Kd.at_int (Kd.R_reads' HO241.out).2.2 0 p242 q242
  cases e242
  have qi242 : (0 < t239.length) = True := eq_true (by omega)
  (try rw [show ((0 : Int)).toNat = 0 from rfl] at hx242_0)
  (try rw [Addr.add_zero'] at hx242_0)
  replace p242 := eq_true p242
  replace q242 := eq_true q242
  have p246 : 0 ≤ (1 : Int) := (by omega)
  have q246 : 1 < (t239.length : Int) := of_decide_eq_true (by first | (with_reducible assumption) | assumption)
  obtain ⟨ad246, e246, hx246_0⟩ := Kd.at_int (Kd.R_reads' HO241.out).2.2 1 p246 q246
  obtain rfl : ad242 = ad246 := (by injection e246)
  (try simp only [show (1 : Int).toNat = 1 from rfl, Nat.reduceMul, Nat.reduceEqDiff, Go.Addr.add, ↓reduceIte] at hx246_0)
  have qi246 : (1 < t239.length) = True := eq_true (by omega)
  (try rw [show ((1 : Int)).toNat = 1 from rfl] at hx246_0)
  replace p246 := eq_true p246
  replace q246 := eq_true q246
  refine start_ (n := 19) (S := fun w' => w'.cell? ⟨gb238, 0, none⟩ = some (.int .i64 t234) ∧ w'.cell? ⟨gb238, 1, none⟩ = some (.int .i64 t235) ∧ w'.cell? ⟨gb238, 2, none⟩ = some (.int .i64 t236) ∧ w'.cell? ⟨gb238, 3, none⟩ = some (.int .i64 t237) ∧ w'.cell? ad242 = some (.int .i64 (rd t239 0)) ∧ w'.cell? ⟨ad242.block, ad242.off + 1, none⟩ = some (.int .i64 (rd t239 1))) (ds := []) #[F, F, F, F, F, F, F, F, F, F, F, F, F, F, F, F, F, F, F] (by kernel_rfl) rfl rfl ⟨(blk_cell BK238.out 0).trans rfl, (blk_cell BK238.out 1).trans rfl, (blk_cell BK238.out 2).trans rfl, (blk_cell BK238.out 3).trans rfl, hx242_0, hx246_0⟩ (fun hHeld => ?_); refine with_tabW laws_FnPorts.tab5 laws_FnPorts.bits5 (fun HT_ HW_ => ?_)
  generalize w27.drew = w28 at HO241 BK238 HB hx242_0 hx246_0 hHeld ⊢
  refine pure_ (i := 1) (N := some 17) (v := ?_) (a' := ?_) #[F, T, F, F, F, F, F, F, F, F, F, F, F, F, F, F, F, F, F] rfl rfl (any_of HT_.out (by kernel_rfl)) (fun _ _ _ h => h) (Or.inl ⟨by rfl, ?_⟩) ?_ ?_
  rotate_left
  ·intro w'
   go_simp
   with_reducible rfl
  rotate_left
  ·simp only [pS]
   rfl
  refine pure_ (i := 2) (N := some 18) (v := ?_) (a' := ?_) #[F, T, T, F, F, F, F, F, F, F, F, F, F, F, F, F, F, F, F] rfl rfl (any_of HT_.out (by kernel_rfl)) (fun _ _ _ h => h) (Or.inl ⟨by rfl, ?_⟩) ?_ ?_
  rotate_left
  ·intro w'
   go_simp
   with_reducible rfl
  rotate_left
  ·simp only [pS]
   rfl
  refine pure_ (i := 6) (N := some 22) (v := ?_) (a' := ?_) #[F, T, T, F, F, F, T, F, F, F, F, F, F, F, F, F, F, F, F] rfl rfl (any_of HT_.out (by kernel_rfl)) (fun _ _ _ h => h) (Or.inl ⟨by rfl, ?_⟩) ?_ ?_
  rotate_left
  ·intro w'
   go_simp
   with_reducible rfl
  rotate_left
  ·simp only [pS]
   rfl
  refine pure_ (i := 7) (N := some 23) (v := ?_) (a' := ?_) #[F, T, T, F, F, F, T, T, F, F, F, F, F, F, F, F, F, F, F] rfl rfl (any_of HT_.out (by kernel_rfl)) (fun _ _ _ h => h) (Or.inl ⟨by rfl, ?_⟩) ?_ ?_
  rotate_left
  ·intro w'
   go_simp
   with_reducible rfl
  rotate_left
  ·simp only [pS]
   rfl
  refine take_ (i := 0) (N := some 16) (v := ?_) (a' := ?_) #[T, T, T, F, F, F, T, T, F, F, F, F, F, F, F, F, F, F, F] rfl rfl (take_ofW HT_.out HW_.out (by kernel_rfl)) (fun _ _ _ h => h) (Or.inl ⟨by rfl, ?_⟩) hHeld ?_ ?_
  rotate_left
  ·rintro w' ⟨s0, s1, s2, s3, s4, s5⟩
   go_simp
   with_reducible rfl
  rotate_left
  ·simp only [pS]
   rfl
  refine take_ (i := 3) (N := some 19) (v := ?_) (a' := ?_) #[T, T, T, T, F, F, T, T, F, F, F, F, F, F, F, F, F, F, F] rfl rfl (take_ofW HT_.out HW_.out (by kernel_rfl)) (fun _ _ _ h => h) (Or.inl ⟨by rfl, ?_⟩) hHeld ?_ ?_
  rotate_left
  ·rintro w' ⟨s0, s1, s2, s3, s4, s5⟩
   go_simp
   with_reducible rfl
  rotate_left
  ·simp only [pS]
   rfl
  refine pure_ (i := 4) (N := some 20) (v := ?_) (a' := ?_) #[T, T, T, T, T, F, T, T, F, F, F, F, F, F, F, F, F, F, F] rfl rfl (any_of HT_.out (by kernel_rfl)) (fun _ _ _ h => h) (Or.inl ⟨by rfl, ?_⟩) ?_ ?_
  rotate_left
  ·intro w'
   go_simp
   with_reducible rfl
  rotate_left
  ·simp only [pS]
   rfl
  refine take_ (i := 8) (N := some 24) (v := ?_) (a' := ?_) #[T, T, T, T, T, F, T, T, T, F, F, F, F, F, F, F, F, F, F] rfl rfl (take_ofW HT_.out HW_.out (by kernel_rfl)) (fun _ _ _ h => h) (Or.inl ⟨by rfl, ?_⟩) hHeld ?_ ?_
  rotate_left
  ·rintro w' ⟨s0, s1, s2, s3, s4, s5⟩
   go_simp
   with_reducible rfl
  rotate_left
  ·simp only [pS]
   rfl
  refine pure_ (i := 9) (N := some 25) (v := ?_) (a' := ?_) #[T, T, T, T, T, F, T, T, T, T, F, F, F, F, F, F, F, F, F] rfl rfl (any_of HT_.out (by kernel_rfl)) (fun _ _ _ h => h) (Or.inl ⟨by rfl, ?_⟩) ?_ ?_
  rotate_left
  ·intro w'
   go_simp
   with_reducible rfl
  rotate_left
  ·simp only [pS]
   rfl
  refine join_ (σ := Value × Addr × Nat) 2 #[T, T, T, T, T, T, T, T, T, T, T, T, T, T, T, T, T, F, F] (fun s_ => [(21, s_.1), (27, .int .i64 (rd y243 (ji8))), (28, .tuple #[.agg #[.int .i64 t248, .int .i64 t249, .int .i64 t250, .int .i64 t251], .bool true]), (5, .pointer (some ⟨s_.2.2, 0, none⟩)), (26, .pointer (some (s_.2.1.add ((ji8)).toNat))), (15, .tuple #[.agg #[.int .i64 t248, .int .i64 t249, .int .i64 t250, .int .i64 t251], .bool true]), (29, .agg #[.int .i64 t248, .int .i64 t249, .int .i64 t250, .int .i64 t251]), (30, .bool true)]) (fun s_ w' => (w'.cell? ⟨gb238, 0, none⟩ = some (.int .i64 t234) ∧ w'.cell? ⟨gb238, 1, none⟩ = some (.int .i64 t235) ∧ w'.cell? ⟨gb238, 2, none⟩ = some (.int .i64 t236) ∧ w'.cell? ⟨gb238, 3, none⟩ = some (.int .i64 t237) ∧ w'.cell? ad242 = some (.int .i64 (rd t239 0)) ∧ w'.cell? ⟨ad242.block, ad242.off + 1, none⟩ = some (.int .i64 (rd t239 1))) ∧ (Kd.R (Kd.int .i64) 3 w' w.heap.size (fun k_ => some k_ ≠ (s_.1 : Value).ownBlock) (.slice (some ad242) t239.length co29) t239) ∧ (Kd.R (Kd.int .i64) 3 w' w.heap.size (fun k_ => some k_ ≠ (.slice (some ad242) t239.length co29 : Value).ownBlock) s_.1 y243) ∧ (∃ c_, (s_.1 : Value) = .slice (some s_.2.1) y243.length c_) ∧ (w'.heap[gb238]? = some (.cells #[.int .i64 t234, .int .i64 t235, .int .i64 t236, .int .i64 t237] 46 (0, 0))) ∧ (w'.heap[s_.2.2]? = some (.cells #[.int .i64 0, .int .i64 0, .int .i64 0, .int .i64 0] 46 (0, 0))) ∧ (w.heap.size ≤ s_.2.2) ∧ (w.heap.size ≤ s_.2.2) ∧ (gb238 ≠ s_.2.2) ∧ (s_.2.2 ≠ gb238) ∧ (Below w.heap.size w w')) ?_ ?_
  rotate_left
  ·intro hCont
   refine two_ (i := 5) (j := 16) (Ni := some 21) (Nj := some 5) #[T, T, T, T, T, T, T, T, T, T, F, F, F, F, F, F, F, F, F] #[T, T, T, T, T, F, T, T, T, T, F, F, F, F, F, F, T, F, F] rfl rfl rfl rfl (two_of HT_.out (by kernel_rfl)) (by decide) (by decide) (fun K hK => ?_) (fun K hK => ?_)
   ·skip
    refine Kd.R_lit_step (Kd.int .i64) _ 3 ?hg (N := 21) ?hd (xs := ([1, 2, 4] : List Int)) (inner := [.int .i64 1, .int .i64 2, .int .i64 4]) (ok := fun _ => True) (okp := fun _ => True) ?hr ?hp (fun _ hk => hk) trivial (Below.refl _ _) (Nat.le_refl _) (by simp) ?_; (case hd => rfl); (case hg => rfl); (case hr => first | (go_simp; done) | (go_simp; rfl)); (case hp => exact (Reps.one (show Kd.M (Kd.int .i64) _ _ _ 1 [.int .i64 1] from rfl) (Reps.one (show Kd.M (Kd.int .i64) _ _ _ 2 [.int .i64 2] from rfl) (Reps.one (show Kd.M (Kd.int .i64) _ _ _ 4 [.int .i64 4] from rfl) (Reps.none _ _)))))
    intro v244 w30 ho31 hb hg_ hnew_
    have HS4_ := (hb.cell (World.block_lt_of_cell? _ _ (hHeld.2.2.2.2.1))).trans (hHeld.2.2.2.2.1)
    have HS5_ := (hb.cell (World.block_lt_of_cell? _ _ (hHeld.2.2.2.2.2))).trans (hHeld.2.2.2.2.2)
    clear hg_ hnew_
    (first | rw [← Ny243.out] at ho31 | (simp only [Int.reduceToNat] at ho31; rw [← Ny243.out] at ho31))
    have n0_ := Aside0.mk (Kd.R_elder' (rY HO241.out) (Kd.R_base ho31) hb)
    have n1_ := Aside0.mk (Kd.R_lower (Kd.R_new' ho31 (Kd.R_lt (rY HO241.out))) (below_size (by repeat (first | (with_reducible first | exact HB.out | apply below_alloc | apply pw_below_drewN | apply below_drew1 | refine below_set ?_ GE238.out) | exact HB.out))))
    have n2_ := Aside0.mk (blk_below (bY BK238.out) hb)
    have n3_ := Aside0.mk (below_step (by repeat (first | (with_reducible first | exact HB.out | apply below_alloc | apply pw_below_drewN | apply below_drew1 | refine below_set ?_ GE238.out) | exact HB.out)) hb)
    clear HO241
    clear BK238
    clear HB
    have HO241 := n0_
    have HO245 := n1_
    have BK238 := n2_
    have HB := n3_
    clear n0_ n1_ n2_ n3_
    clear hb ho31
    obtain ⟨Ao32, co32, eo32⟩ := Kd.R_slice HO245.out
    subst eo32
    obtain ⟨ado32, fo32, _⟩ := Kd.at_int (Kd.R_reads' HO245.out).2.2 0 (by decide) (by rw [Ny243.out]; simp)
    cases fo32
    refine hK.out _ _ ⟨(blk_cell BK238.out 0).trans rfl, (blk_cell BK238.out 1).trans rfl, (blk_cell BK238.out 2).trans rfl, (blk_cell BK238.out 3).trans rfl, HS4_, HS5_⟩ (fun hHeld => ?_)
    clear hK K
    refine norm_ (a' := ?_) ?_ ?_
    rotate_left
    ·show Act.put _ (some 21) _ = _
     simp only [pS]
     rfl
    refine pure_ (i := 10) (N := some 26) (v := ?_) (a' := ?_) #[T, T, T, T, T, T, T, T, T, T, T, F, F, F, F, F, F, F, F] rfl rfl (any_of HT_.out (by kernel_rfl)) (fun _ _ _ h => h) (Or.inl ⟨by rfl, ?_⟩) ?_ ?_
    rotate_left
    ·intro w'
     go_simp
     with_reducible rfl
    rotate_left
    ·simp only [pS]
     rfl
    refine two_ (i := 11) (j := 16) (Ni := some 27) (Nj := some 5) #[T, T, T, T, T, T, T, T, T, T, T, T, F, F, F, F, F, F, F] #[T, T, T, T, T, T, T, T, T, T, T, F, F, F, F, F, T, F, F] rfl rfl rfl rfl (two_of HT_.out (by kernel_rfl)) (by decide) (by decide) (fun K hK => ?_) (fun K hK => ?_)
    ·skip
     (have p247 : 0 ≤ ((ji8) : Int) := of_decide_eq_true (by first | (with_reducible assumption) | assumption); have q247 : (ji8) < (y243.length : Int) := of_decide_eq_true (by first | (with_reducible assumption) | assumption); obtain ⟨ad247, e247, hx247_0⟩ := Kd.at_int (Kd.R_reads' HO245.out).2.2 (ji8) p247 q247; obtain rfl : ado32 = ad247 := (by injection e247))
     refine value_ (w1 := ?_) (v := ?_) (by rfl) rfl ?_ ?_
     rotate_left 2
     ·go_simp
      constructor
      ·rfl
      ·rfl
     clear hx247_0
     refine hK.out _ _ ⟨(blk_cell BK238.out 0).trans rfl, (blk_cell BK238.out 1).trans rfl, (blk_cell BK238.out 2).trans rfl, (blk_cell BK238.out 3).trans rfl, hHeld.2.2.2.2.1, hHeld.2.2.2.2.2⟩ (fun hHeld => ?_)
     clear hK K
     refine norm_ (a' := ?_) ?_ ?_
     rotate_left
     ·show Act.put _ (some 27) _ = _
      simp only [pS]
      rfl
     refine two_ (i := 12) (j := 16) (Ni := some 28) (Nj := some 5) #[T, T, T, T, T, T, T, T, T, T, T, T, T, F, F, F, F, F, F] #[T, T, T, T, T, T, T, T, T, T, T, T, F, F, F, F, T, F, F] rfl rfl rfl rfl (two_of HT_.out (by kernel_rfl)) (by decide) (by decide) (fun K hK => ?_) (fun K hK => ?_)
     ·skip
      refine goes_ Try.func25 (by kernel_rfl) rfl #[.agg #[.int .i64 t234, .int .i64 t235, .int .i64 t236, .int .i64 t237], .int .i64 (Int.tmod (rd t239 0) 7), .int .i64 (rd y243 (ji8))] (by rfl) rfl rfl (by (try simp only [List.map_toArray, List.map_cons, List.map_nil]); first | done | (simp only [hji8]; rfl) | rfl | (simp only [List.length_drop, List.length_take]; rfl)) ?_
      with_reducible refine (impl_PortStep.calls k t234 t235 t236 t237 (Int.tmod (rd t239 0) 7) (rd y243 (ji8)) t248 t249 t250 t251 true _ A11.out).mono ?_
      rintro e w33 ⟨rfl, hb⟩
      have HS4_ := (hb.cell (World.block_lt_of_cell? _ _ (hHeld.2.2.2.2.1))).trans (hHeld.2.2.2.2.1)
      have HS5_ := (hb.cell (World.block_lt_of_cell? _ _ (hHeld.2.2.2.2.2))).trans (hHeld.2.2.2.2.2)
      refine ⟨_, rfl, ?_⟩
      have n0_ := Aside0.mk (Kd.R_below (rY HO241.out) hb)
      have n1_ := Aside0.mk (Kd.R_below (rY HO245.out) hb)
      have n2_ := Aside0.mk (blk_below (bY BK238.out) hb)
      have n3_ := Aside0.mk (below_step (by repeat (first | (with_reducible first | exact HB.out | apply below_alloc | apply pw_below_drewN | apply below_drew1 | refine below_set ?_ GE238.out) | exact HB.out)) hb)
      clear HO241
      clear HO245
      clear BK238
      clear HB
      have HO241 := n0_
      have HO245 := n1_
      have BK238 := n2_
      have HB := n3_
      clear n0_ n1_ n2_ n3_
      refine hK.out _ _ ⟨(blk_cell BK238.out 0).trans rfl, (blk_cell BK238.out 1).trans rfl, (blk_cell BK238.out 2).trans rfl, (blk_cell BK238.out 3).trans rfl, HS4_, HS5_⟩ (fun hHeld => ?_)
      clear hK K
      refine norm_ (a' := ?_) ?_ ?_
      rotate_left
      ·show Act.put _ (some 28) _ = _
       simp only [pS]
       rfl
      refine pure_ (i := 13) (N := some 15) (v := ?_) (a' := ?_) #[T, T, T, T, T, T, T, T, T, T, T, T, T, T, F, F, F, F, F] rfl rfl (any_of HT_.out (by kernel_rfl)) (fun _ _ _ h => h) (Or.inl ⟨by rfl, ?_⟩) ?_ ?_
      rotate_left
      ·intro w'
       go_simp
       with_reducible rfl
      rotate_left
      ·simp only [pS]
       rfl
      refine pure_ (i := 14) (N := some 29) (v := ?_) (a' := ?_) #[T, T, T, T, T, T, T, T, T, T, T, T, T, T, T, F, F, F, F] rfl rfl (any_of HT_.out (by kernel_rfl)) (fun _ _ _ h => h) (Or.inl ⟨by rfl, ?_⟩) ?_ ?_
      rotate_left
      ·intro w'
       go_simp
       with_reducible rfl
      rotate_left
      ·simp only [pS]
       rfl
      refine pure_ (i := 15) (N := some 30) (v := ?_) (a' := ?_) #[T, T, T, T, T, T, T, T, T, T, T, T, T, T, T, T, F, F, F] rfl rfl (any_of HT_.out (by kernel_rfl)) (fun _ _ _ h => h) (Or.inl ⟨by rfl, ?_⟩) ?_ ?_
      rotate_left
      ·intro w'
       go_simp
       with_reducible rfl
      rotate_left
      ·simp only [pS]
       rfl
      refine one_ (i := 16) (N := some 5) #[T, T, T, T, T, T, T, T, T, T, T, T, T, T, T, T, T, F, F] rfl rfl (one_of HT_.out (by kernel_rfl)) (by decide) (fun K hK => ?_)
      refine box_step ?hg (N := 5) ?hd (cs := #[.int .i64 0, .int .i64 0, .int .i64 0, .int .i64 0]) (t := 46) ?hr ?_; (case hd => rfl); (case hg => rfl); (case hr => first | (go_simp; done) | (go_simp; rfl))
      intro gb253 hg w34 hbox hb
      have HS4_ := (hb.cell (World.block_lt_of_cell? _ _ (hHeld.2.2.2.2.1))).trans (hHeld.2.2.2.2.1)
      have HS5_ := (hb.cell (World.block_lt_of_cell? _ _ (hHeld.2.2.2.2.2))).trans (hHeld.2.2.2.2.2)
      have n0_ := Aside0.mk (Kd.R_below (rY HO241.out) hb)
      have n1_ := Aside0.mk (Kd.R_below (rY HO245.out) hb)
      have n2_ := Aside0.mk (blk_below (bY BK238.out) hb)
      have n3_ := Aside0.mk (below_step (by repeat (first | (with_reducible first | exact HB.out | apply below_alloc | apply pw_below_drewN | apply below_drew1 | refine below_set ?_ GE238.out) | exact HB.out)) hb)
      have n4_ := Aside0.mk (hbox)
      have n5_ := Aside0.mk ((by rw [hg]; exact (below_size (by repeat (first | (with_reducible first | exact HB.out | apply below_alloc | apply pw_below_drewN | apply below_drew1 | refine below_set ?_ GE238.out) | exact HB.out))) : w.heap.size ≤ gb253))
      have n6_ := Aside0.mk ((by rw [hg]; exact (below_size (by repeat (first | (with_reducible first | exact HB.out | apply below_alloc | apply pw_below_drewN | apply below_drew1 | refine below_set ?_ GE238.out) | exact HB.out))) : w.heap.size ≤ gb253))
      have n7_ := Aside0.mk ((by rw [hg]; exact Nat.ne_of_lt (blk_lt (bY BK238.out)) : gb238 ≠ gb253))
      have n8_ := Aside0.mk ((by rw [hg]; exact Nat.ne_of_gt (blk_lt (bY BK238.out)) : gb253 ≠ gb238))
      clear HO241
      clear HO245
      clear BK238
      clear HB
      have HO241 := n0_
      have HO245 := n1_
      have BK238 := n2_
      have HB := n3_
      have BK253 := n4_
      have GW253 := n5_
      have GE253 := n6_
      have NB238_253 := n7_
      have NB253_238 := n8_
      clear n0_ n1_ n2_ n3_ n4_ n5_ n6_ n7_ n8_
      clear hb hbox hg
      refine hK.out _ _ ⟨(blk_cell BK238.out 0).trans rfl, (blk_cell BK238.out 1).trans rfl, (blk_cell BK238.out 2).trans rfl, (blk_cell BK238.out 3).trans rfl, HS4_, HS5_⟩ (fun hHeld => ?_)
      clear hK K
      refine norm_ (a' := ?_) ?_ ?_
      rotate_left
      ·show Act.put _ (some 5) _ = _
       simp only [pS]
       rfl
      exact norm_ (by simp only [putAll, Act.put, List.setIfInBounds_toArray, List.set_cons_zero, List.set_cons_succ]) (hCont (.slice (some ado32) y243.length co32, ado32, gb253) _ ⟨hHeld, (by (repeat apply rX); exact Kd.R_mono HO241.out (fun _ hk => hk.2)), (by (repeat apply rX); exact Kd.R_mono HO245.out (fun _ hk => hk.2)), ⟨_, rfl⟩, (bY BK238.out), (bY BK253.out), GW253.out, GE253.out, NB238_253.out, NB253_238.out, (by repeat (first | (with_reducible first | exact HB.out | apply below_alloc | apply pw_below_drewN | apply below_drew1 | refine below_set ?_ GE238.out | refine below_set ?_ GE253.out) | exact HB.out))⟩)
     ·skip
      refine box_step ?hg (N := 5) ?hd (cs := #[.int .i64 0, .int .i64 0, .int .i64 0, .int .i64 0]) (t := 46) ?hr ?_; (case hd => rfl); (case hg => rfl); (case hr => first | (go_simp; done) | (go_simp; rfl))
      intro gb253 hg w33 hbox hb
      have HS4_ := (hb.cell (World.block_lt_of_cell? _ _ (hHeld.2.2.2.2.1))).trans (hHeld.2.2.2.2.1)
      have HS5_ := (hb.cell (World.block_lt_of_cell? _ _ (hHeld.2.2.2.2.2))).trans (hHeld.2.2.2.2.2)
      have n0_ := Aside0.mk (Kd.R_below (rY HO241.out) hb)
      have n1_ := Aside0.mk (Kd.R_below (rY HO245.out) hb)
      have n2_ := Aside0.mk (blk_below (bY BK238.out) hb)
      have n3_ := Aside0.mk (below_step (by repeat (first | (with_reducible first | exact HB.out | apply below_alloc | apply pw_below_drewN | apply below_drew1 | refine below_set ?_ GE238.out) | exact HB.out)) hb)
      have n4_ := Aside0.mk (hbox)
      have n5_ := Aside0.mk ((by rw [hg]; exact (below_size (by repeat (first | (with_reducible first | exact HB.out | apply below_alloc | apply pw_below_drewN | apply below_drew1 | refine below_set ?_ GE238.out) | exact HB.out))) : w.heap.size ≤ gb253))
      have n6_ := Aside0.mk ((by rw [hg]; exact (below_size (by repeat (first | (with_reducible first | exact HB.out | apply below_alloc | apply pw_below_drewN | apply below_drew1 | refine below_set ?_ GE238.out) | exact HB.out))) : w.heap.size ≤ gb253))
      have n7_ := Aside0.mk ((by rw [hg]; exact Nat.ne_of_lt (blk_lt (bY BK238.out)) : gb238 ≠ gb253))
      have n8_ := Aside0.mk ((by rw [hg]; exact Nat.ne_of_gt (blk_lt (bY BK238.out)) : gb253 ≠ gb238))
      clear HO241
      clear HO245
      clear BK238
      clear HB
      have HO241 := n0_
      have HO245 := n1_
      have BK238 := n2_
      have HB := n3_
      have BK253 := n4_
      have GW253 := n5_
      have GE253 := n6_
      have NB238_253 := n7_
      have NB253_238 := n8_
      clear n0_ n1_ n2_ n3_ n4_ n5_ n6_ n7_ n8_
      clear hb hbox hg
      refine hK.out _ _ ⟨(blk_cell BK238.out 0).trans rfl, (blk_cell BK238.out 1).trans rfl, (blk_cell BK238.out 2).trans rfl, (blk_cell BK238.out 3).trans rfl, HS4_, HS5_⟩ (fun hHeld => ?_)
      clear hK K
      refine norm_ (a' := ?_) ?_ ?_
      rotate_left
      ·show Act.put _ (some 5) _ = _
       simp only [pS]
       rfl
      refine one_ (i := 12) (N := some 28) #[T, T, T, T, T, T, T, T, T, T, T, T, T, F, F, F, T, F, F] rfl rfl (one_of HT_.out (by kernel_rfl)) (by decide) (fun K hK => ?_)
      refine goes_ Try.func25 (by kernel_rfl) rfl #[.agg #[.int .i64 t234, .int .i64 t235, .int .i64 t236, .int .i64 t237], .int .i64 (Int.tmod (rd t239 0) 7), .int .i64 (rd y243 (ji8))] (by rfl) rfl rfl (by (try simp only [List.map_toArray, List.map_cons, List.map_nil]); first | done | (simp only [hji8]; rfl) | rfl | (simp only [List.length_drop, List.length_take]; rfl)) ?_
      with_reducible refine (impl_PortStep.calls k t234 t235 t236 t237 (Int.tmod (rd t239 0) 7) (rd y243 (ji8)) t248 t249 t250 t251 true _ A11.out).mono ?_
      rintro e w34 ⟨rfl, hb⟩
      have HS4_ := (hb.cell (World.block_lt_of_cell? _ _ (hHeld.2.2.2.2.1))).trans (hHeld.2.2.2.2.1)
      have HS5_ := (hb.cell (World.block_lt_of_cell? _ _ (hHeld.2.2.2.2.2))).trans (hHeld.2.2.2.2.2)
      refine ⟨_, rfl, ?_⟩
      have n0_ := Aside0.mk (Kd.R_below (rY HO241.out) hb)
      have n1_ := Aside0.mk (Kd.R_below (rY HO245.out) hb)
      have n2_ := Aside0.mk (blk_below (bY BK238.out) hb)
      have n3_ := Aside0.mk (blk_below (bY BK253.out) hb)
      have n4_ := Aside0.mk (below_step (by repeat (first | (with_reducible first | exact HB.out | apply below_alloc | apply pw_below_drewN | apply below_drew1 | refine below_set ?_ GE238.out | refine below_set ?_ GE253.out) | exact HB.out)) hb)
      clear HO241
      clear HO245
      clear BK238
      clear BK253
      clear HB
      have HO241 := n0_
      have HO245 := n1_
      have BK238 := n2_
      have BK253 := n3_
      have HB := n4_
      clear n0_ n1_ n2_ n3_ n4_
      refine hK.out _ _ ⟨(blk_cell BK238.out 0).trans rfl, (blk_cell BK238.out 1).trans rfl, (blk_cell BK238.out 2).trans rfl, (blk_cell BK238.out 3).trans rfl, HS4_, HS5_⟩ (fun hHeld => ?_)
      clear hK K
      refine norm_ (a' := ?_) ?_ ?_
      rotate_left
      ·show Act.put _ (some 28) _ = _
       simp only [pS]
       rfl
      refine pure_ (i := 13) (N := some 15) (v := ?_) (a' := ?_) #[T, T, T, T, T, T, T, T, T, T, T, T, T, T, F, F, T, F, F] rfl rfl (any_of HT_.out (by kernel_rfl)) (fun _ _ _ h => h) (Or.inl ⟨by rfl, ?_⟩) ?_ ?_
      rotate_left
      ·intro w'
       go_simp
       with_reducible rfl
      rotate_left
      ·simp only [pS]
       rfl
      refine pure_ (i := 14) (N := some 29) (v := ?_) (a' := ?_) #[T, T, T, T, T, T, T, T, T, T, T, T, T, T, T, F, T, F, F] rfl rfl (any_of HT_.out (by kernel_rfl)) (fun _ _ _ h => h) (Or.inl ⟨by rfl, ?_⟩) ?_ ?_
      rotate_left
      ·intro w'
       go_simp
       with_reducible rfl
      rotate_left
      ·simp only [pS]
       rfl
      refine pure_ (i := 15) (N := some 30) (v := ?_) (a' := ?_) #[T, T, T, T, T, T, T, T, T, T, T, T, T, T, T, T, T, F, F] rfl rfl (any_of HT_.out (by kernel_rfl)) (fun _ _ _ h => h) (Or.inl ⟨by rfl, ?_⟩) ?_ ?_
      rotate_left
      ·intro w'
       go_simp
       with_reducible rfl
      rotate_left
      ·simp only [pS]
       rfl
      exact norm_ (by simp only [putAll, Act.put, List.setIfInBounds_toArray, List.set_cons_zero, List.set_cons_succ]) (hCont (.slice (some ado32) y243.length co32, ado32, gb253) _ ⟨hHeld, (by (repeat apply rX); exact Kd.R_mono HO241.out (fun _ hk => hk.2)), (by (repeat apply rX); exact Kd.R_mono HO245.out (fun _ hk => hk.2)), ⟨_, rfl⟩, (bY BK238.out), (bY BK253.out), GW253.out, GE253.out, NB238_253.out, NB253_238.out, (by repeat (first | (with_reducible first | exact HB.out | apply below_alloc | apply pw_below_drewN | apply below_drew1 | refine below_set ?_ GE238.out | refine below_set ?_ GE253.out) | exact HB.out))⟩)
    ·skip
     refine box_step ?hg (N := 5) ?hd (cs := #[.int .i64 0, .int .i64 0, .int .i64 0, .int .i64 0]) (t := 46) ?hr ?_; (case hd => rfl); (case hg => rfl); (case hr => first | (go_simp; done) | (go_simp; rfl))
     intro gb253 hg w33 hbox hb
     have HS4_ := (hb.cell (World.block_lt_of_cell? _ _ (hHeld.2.2.2.2.1))).trans (hHeld.2.2.2.2.1)
     have HS5_ := (hb.cell (World.block_lt_of_cell? _ _ (hHeld.2.2.2.2.2))).trans (hHeld.2.2.2.2.2)
     have n0_ := Aside0.mk (Kd.R_below (rY HO241.out) hb)
     have n1_ := Aside0.mk (Kd.R_below (rY HO245.out) hb)
     have n2_ := Aside0.mk (blk_below (bY BK238.out) hb)
     have n3_ := Aside0.mk (below_step (by repeat (first | (with_reducible first | exact HB.out | apply below_alloc | apply pw_below_drewN | apply below_drew1 | refine below_set ?_ GE238.out) | exact HB.out)) hb)
     have n4_ := Aside0.mk (hbox)
     have n5_ := Aside0.mk ((by rw [hg]; exact (below_size (by repeat (first | (with_reducible first | exact HB.out | apply below_alloc | apply pw_below_drewN | apply below_drew1 | refine below_set ?_ GE238.out) | exact HB.out))) : w.heap.size ≤ gb253))
     have n6_ := Aside0.mk ((by rw [hg]; exact (below_size (by repeat (first | (with_reducible first | exact HB.out | apply below_alloc | apply pw_below_drewN | apply below_drew1 | refine below_set ?_ GE238.out) | exact HB.out))) : w.heap.size ≤ gb253))
     have n7_ := Aside0.mk ((by rw [hg]; exact Nat.ne_of_lt (blk_lt (bY BK238.out)) : gb238 ≠ gb253))
     have n8_ := Aside0.mk ((by rw [hg]; exact Nat.ne_of_gt (blk_lt (bY BK238.out)) : gb253 ≠ gb238))
     clear HO241
     clear HO245
     clear BK238
     clear HB
     have HO241 := n0_
     have HO245 := n1_
     have BK238 := n2_
     have HB := n3_
     have BK253 := n4_
     have GW253 := n5_
     have GE253 := n6_
     have NB238_253 := n7_
     have NB253_238 := n8_
     clear n0_ n1_ n2_ n3_ n4_ n5_ n6_ n7_ n8_
     clear hb hbox hg
     refine hK.out _ _ ⟨(blk_cell BK238.out 0).trans rfl, (blk_cell BK238.out 1).trans rfl, (blk_cell BK238.out 2).trans rfl, (blk_cell BK238.out 3).trans rfl, HS4_, HS5_⟩ (fun hHeld => ?_)
     clear hK K
     refine norm_ (a' := ?_) ?_ ?_
     rotate_left
     ·show Act.put _ (some 5) _ = _
      simp only [pS]
      rfl
     refine one_ (i := 11) (N := some 27) #[T, T, T, T, T, T, T, T, T, T, T, T, F, F, F, F, T, F, F] rfl rfl (one_of HT_.out (by kernel_rfl)) (by decide) (fun K hK => ?_)
     (have p247 : 0 ≤ ((ji8) : Int) := of_decide_eq_true (by first | (with_reducible assumption) | assumption); have q247 : (ji8) < (y243.length : Int) := of_decide_eq_true (by first | (with_reducible assumption) | assumption); obtain ⟨ad247, e247, hx247_0⟩ := Kd.at_int (Kd.R_reads' HO245.out).2.2 (ji8) p247 q247; obtain rfl : ado32 = ad247 := (by injection e247))
     refine value_ (w1 := ?_) (v := ?_) (by rfl) rfl ?_ ?_
     rotate_left 2
     ·go_simp
      constructor
      ·rfl
      ·rfl
     clear hx247_0
     refine hK.out _ _ ⟨(blk_cell BK238.out 0).trans rfl, (blk_cell BK238.out 1).trans rfl, (blk_cell BK238.out 2).trans rfl, (blk_cell BK238.out 3).trans rfl, hHeld.2.2.2.2.1, hHeld.2.2.2.2.2⟩ (fun hHeld => ?_)
     clear hK K
     refine norm_ (a' := ?_) ?_ ?_
     rotate_left
     ·show Act.put _ (some 27) _ = _
      simp only [pS]
      rfl
     refine one_ (i := 12) (N := some 28) #[T, T, T, T, T, T, T, T, T, T, T, T, T, F, F, F, T, F, F] rfl rfl (one_of HT_.out (by kernel_rfl)) (by decide) (fun K hK => ?_)
     refine goes_ Try.func25 (by kernel_rfl) rfl #[.agg #[.int .i64 t234, .int .i64 t235, .int .i64 t236, .int .i64 t237], .int .i64 (Int.tmod (rd t239 0) 7), .int .i64 (rd y243 (ji8))] (by rfl) rfl rfl (by (try simp only [List.map_toArray, List.map_cons, List.map_nil]); first | done | (simp only [hji8]; rfl) | rfl | (simp only [List.length_drop, List.length_take]; rfl)) ?_
     with_reducible refine (impl_PortStep.calls k t234 t235 t236 t237 (Int.tmod (rd t239 0) 7) (rd y243 (ji8)) t248 t249 t250 t251 true _ A11.out).mono ?_
     rintro e w34 ⟨rfl, hb⟩
     have HS4_ := (hb.cell (World.block_lt_of_cell? _ _ (hHeld.2.2.2.2.1))).trans (hHeld.2.2.2.2.1)
     have HS5_ := (hb.cell (World.block_lt_of_cell? _ _ (hHeld.2.2.2.2.2))).trans (hHeld.2.2.2.2.2)
     refine ⟨_, rfl, ?_⟩
     have n0_ := Aside0.mk (Kd.R_below (rY HO241.out) hb)
     have n1_ := Aside0.mk (Kd.R_below (rY HO245.out) hb)
     have n2_ := Aside0.mk (blk_below (bY BK238.out) hb)
     have n3_ := Aside0.mk (blk_below (bY BK253.out) hb)
     have n4_ := Aside0.mk (below_step (by repeat (first | (with_reducible first | exact HB.out | apply below_alloc | apply pw_below_drewN | apply below_drew1 | refine below_set ?_ GE238.out | refine below_set ?_ GE253.out) | exact HB.out)) hb)
     clear HO241
     clear HO245
     clear BK238
     clear BK253
     clear HB
     have HO241 := n0_
     have HO245 := n1_
     have BK238 := n2_
     have BK253 := n3_
     have HB := n4_
     clear n0_ n1_ n2_ n3_ n4_
     refine hK.out _ _ ⟨(blk_cell BK238.out 0).trans rfl, (blk_cell BK238.out 1).trans rfl, (blk_cell BK238.out 2).trans rfl, (blk_cell BK238.out 3).trans rfl, HS4_, HS5_⟩ (fun hHeld => ?_)
     clear hK K
     refine norm_ (a' := ?_) ?_ ?_
     rotate_left
     ·show Act.put _ (some 28) _ = _
      simp only [pS]
      rfl
     refine pure_ (i := 13) (N := some 15) (v := ?_) (a' := ?_) #[T, T, T, T, T, T, T, T, T, T, T, T, T, T, F, F, T, F, F] rfl rfl (any_of HT_.out (by kernel_rfl)) (fun _ _ _ h => h) (Or.inl ⟨by rfl, ?_⟩) ?_ ?_
     rotate_left
     ·intro w'
      go_simp
      with_reducible rfl
     rotate_left
     ·simp only [pS]
      rfl
     refine pure_ (i := 14) (N := some 29) (v := ?_) (a' := ?_) #[T, T, T, T, T, T, T, T, T, T, T, T, T, T, T, F, T, F, F] rfl rfl (any_of HT_.out (by kernel_rfl)) (fun _ _ _ h => h) (Or.inl ⟨by rfl, ?_⟩) ?_ ?_
     rotate_left
     ·intro w'
      go_simp
      with_reducible rfl
     rotate_left
     ·simp only [pS]
      rfl
     refine pure_ (i := 15) (N := some 30) (v := ?_) (a' := ?_) #[T, T, T, T, T, T, T, T, T, T, T, T, T, T, T, T, T, F, F] rfl rfl (any_of HT_.out (by kernel_rfl)) (fun _ _ _ h => h) (Or.inl ⟨by rfl, ?_⟩) ?_ ?_
     rotate_left
     ·intro w'
      go_simp
      with_reducible rfl
     rotate_left
     ·simp only [pS]
      rfl
     exact norm_ (by simp only [putAll, Act.put, List.setIfInBounds_toArray, List.set_cons_zero, List.set_cons_succ]) (hCont (.slice (some ado32) y243.length co32, ado32, gb253) _ ⟨hHeld, (by (repeat apply rX); exact Kd.R_mono HO241.out (fun _ hk => hk.2)), (by (repeat apply rX); exact Kd.R_mono HO245.out (fun _ hk => hk.2)), ⟨_, rfl⟩, (bY BK238.out), (bY BK253.out), GW253.out, GE253.out, NB238_253.out, NB253_238.out, (by repeat (first | (with_reducible first | exact HB.out | apply below_alloc | apply pw_below_drewN | apply below_drew1 | refine below_set ?_ GE238.out | refine below_set ?_ GE253.out) | exact HB.out))⟩)
   ·skip
    refine box_step ?hg (N := 5) ?hd (cs := #[.int .i64 0, .int .i64 0, .int .i64 0, .int .i64 0]) (t := 46) ?hr ?_; (case hd => rfl); (case hg => rfl); (case hr => first | (go_simp; done) | (go_simp; rfl))
    intro gb253 hg w30 hbox hb
    have HS4_ := (hb.cell (World.block_lt_of_cell? _ _ (hHeld.2.2.2.2.1))).trans (hHeld.2.2.2.2.1)
    have HS5_ := (hb.cell (World.block_lt_of_cell? _ _ (hHeld.2.2.2.2.2))).trans (hHeld.2.2.2.2.2)
    have n0_ := Aside0.mk (Kd.R_below (rY HO241.out) hb)
    have n1_ := Aside0.mk (blk_below (bY BK238.out) hb)
    have n2_ := Aside0.mk (below_step (by repeat (first | (with_reducible first | exact HB.out | apply below_alloc | apply pw_below_drewN | apply below_drew1 | refine below_set ?_ GE238.out) | exact HB.out)) hb)
    have n3_ := Aside0.mk (hbox)
    have n4_ := Aside0.mk ((by rw [hg]; exact (below_size (by repeat (first | (with_reducible first | exact HB.out | apply below_alloc | apply pw_below_drewN | apply below_drew1 | refine below_set ?_ GE238.out) | exact HB.out))) : w.heap.size ≤ gb253))
    have n5_ := Aside0.mk ((by rw [hg]; exact (below_size (by repeat (first | (with_reducible first | exact HB.out | apply below_alloc | apply pw_below_drewN | apply below_drew1 | refine below_set ?_ GE238.out) | exact HB.out))) : w.heap.size ≤ gb253))
    have n6_ := Aside0.mk ((by rw [hg]; exact Nat.ne_of_lt (blk_lt (bY BK238.out)) : gb238 ≠ gb253))
    have n7_ := Aside0.mk ((by rw [hg]; exact Nat.ne_of_gt (blk_lt (bY BK238.out)) : gb253 ≠ gb238))
    clear HO241
    clear BK238
    clear HB
    have HO241 := n0_
    have BK238 := n1_
    have HB := n2_
    have BK253 := n3_
    have GW253 := n4_
    have GE253 := n5_
    have NB238_253 := n6_
    have NB253_238 := n7_
    clear n0_ n1_ n2_ n3_ n4_ n5_ n6_ n7_
    clear hb hbox hg
    refine hK.out _ _ ⟨(blk_cell BK238.out 0).trans rfl, (blk_cell BK238.out 1).trans rfl, (blk_cell BK238.out 2).trans rfl, (blk_cell BK238.out 3).trans rfl, HS4_, HS5_⟩ (fun hHeld => ?_)
    clear hK K
    refine norm_ (a' := ?_) ?_ ?_
    rotate_left
    ·show Act.put _ (some 5) _ = _
     simp only [pS]
     rfl
    refine one_ (i := 5) (N := some 21) #[T, T, T, T, T, T, T, T, T, T, F, F, F, F, F, F, T, F, F] rfl rfl (one_of HT_.out (by kernel_rfl)) (by decide) (fun K hK => ?_)
    refine Kd.R_lit_step (Kd.int .i64) _ 3 ?hg (N := 21) ?hd (xs := ([1, 2, 4] : List Int)) (inner := [.int .i64 1, .int .i64 2, .int .i64 4]) (ok := fun _ => True) (okp := fun _ => True) ?hr ?hp (fun _ hk => hk) trivial (Below.refl _ _) (Nat.le_refl _) (by simp) ?_; (case hd => rfl); (case hg => rfl); (case hr => first | (go_simp; done) | (go_simp; rfl)); (case hp => exact (Reps.one (show Kd.M (Kd.int .i64) _ _ _ 1 [.int .i64 1] from rfl) (Reps.one (show Kd.M (Kd.int .i64) _ _ _ 2 [.int .i64 2] from rfl) (Reps.one (show Kd.M (Kd.int .i64) _ _ _ 4 [.int .i64 4] from rfl) (Reps.none _ _)))))
    intro v244 w31 ho32 hb hg_ hnew_
    have HS4_ := (hb.cell (World.block_lt_of_cell? _ _ (hHeld.2.2.2.2.1))).trans (hHeld.2.2.2.2.1)
    have HS5_ := (hb.cell (World.block_lt_of_cell? _ _ (hHeld.2.2.2.2.2))).trans (hHeld.2.2.2.2.2)
    clear hg_ hnew_
    (first | rw [← Ny243.out] at ho32 | (simp only [Int.reduceToNat] at ho32; rw [← Ny243.out] at ho32))
    have n0_ := Aside0.mk (Kd.R_elder' (rY HO241.out) (Kd.R_base ho32) hb)
    have n1_ := Aside0.mk (Kd.R_lower (Kd.R_new' ho32 (Kd.R_lt (rY HO241.out))) (below_size (by repeat (first | (with_reducible first | exact HB.out | apply below_alloc | apply pw_below_drewN | apply below_drew1 | refine below_set ?_ GE238.out | refine below_set ?_ GE253.out) | exact HB.out))))
    have n2_ := Aside0.mk (blk_below (bY BK238.out) hb)
    have n3_ := Aside0.mk (blk_below (bY BK253.out) hb)
    have n4_ := Aside0.mk (below_step (by repeat (first | (with_reducible first | exact HB.out | apply below_alloc | apply pw_below_drewN | apply below_drew1 | refine below_set ?_ GE238.out | refine below_set ?_ GE253.out) | exact HB.out)) hb)
    clear HO241
    clear BK238
    clear BK253
    clear HB
    have HO241 := n0_
    have HO245 := n1_
    have BK238 := n2_
    have BK253 := n3_
    have HB := n4_
    clear n0_ n1_ n2_ n3_ n4_
    clear hb ho32
    obtain ⟨Ao33, co33, eo33⟩ := Kd.R_slice HO245.out
    subst eo33
    obtain ⟨ado33, fo33, _⟩ := Kd.at_int (Kd.R_reads' HO245.out).2.2 0 (by decide) (by rw [Ny243.out]; simp)
    cases fo33
    refine hK.out _ _ ⟨(blk_cell BK238.out 0).trans rfl, (blk_cell BK238.out 1).trans rfl, (blk_cell BK238.out 2).trans rfl, (blk_cell BK238.out 3).trans rfl, HS4_, HS5_⟩ (fun hHeld => ?_)
    clear hK K
    refine norm_ (a' := ?_) ?_ ?_
    rotate_left
    ·show Act.put _ (some 21) _ = _
     simp only [pS]
     rfl
    refine pure_ (i := 10) (N := some 26) (v := ?_) (a' := ?_) #[T, T, T, T, T, T, T, T, T, T, T, F, F, F, F, F, T, F, F] rfl rfl (any_of HT_.out (by kernel_rfl)) (fun _ _ _ h => h) (Or.inl ⟨by rfl, ?_⟩) ?_ ?_
    rotate_left
    ·intro w'
     go_simp
     with_reducible rfl
    rotate_left
    ·simp only [pS]
     rfl
    refine one_ (i := 11) (N := some 27) #[T, T, T, T, T, T, T, T, T, T, T, T, F, F, F, F, T, F, F] rfl rfl (one_of HT_.out (by kernel_rfl)) (by decide) (fun K hK => ?_)
    (have p247 : 0 ≤ ((ji8) : Int) := of_decide_eq_true (by first | (with_reducible assumption) | assumption); have q247 : (ji8) < (y243.length : Int) := of_decide_eq_true (by first | (with_reducible assumption) | assumption); obtain ⟨ad247, e247, hx247_0⟩ := Kd.at_int (Kd.R_reads' HO245.out).2.2 (ji8) p247 q247; obtain rfl : ado33 = ad247 := (by injection e247))
    refine value_ (w1 := ?_) (v := ?_) (by rfl) rfl ?_ ?_
    rotate_left 2
    ·go_simp
     constructor
     ·rfl
     ·rfl
    clear hx247_0
    refine hK.out _ _ ⟨(blk_cell BK238.out 0).trans rfl, (blk_cell BK238.out 1).trans rfl, (blk_cell BK238.out 2).trans rfl, (blk_cell BK238.out 3).trans rfl, hHeld.2.2.2.2.1, hHeld.2.2.2.2.2⟩ (fun hHeld => ?_)
    clear hK K
    refine norm_ (a' := ?_) ?_ ?_
    rotate_left
    ·show Act.put _ (some 27) _ = _
     simp only [pS]
     rfl
    refine one_ (i := 12) (N := some 28) #[T, T, T, T, T, T, T, T, T, T, T, T, T, F, F, F, T, F, F] rfl rfl (one_of HT_.out (by kernel_rfl)) (by decide) (fun K hK => ?_)
    refine goes_ Try.func25 (by kernel_rfl) rfl #[.agg #[.int .i64 t234, .int .i64 t235, .int .i64 t236, .int .i64 t237], .int .i64 (Int.tmod (rd t239 0) 7), .int .i64 (rd y243 (ji8))] (by rfl) rfl rfl (by (try simp only [List.map_toArray, List.map_cons, List.map_nil]); first | done | (simp only [hji8]; rfl) | rfl | (simp only [List.length_drop, List.length_take]; rfl)) ?_
    with_reducible refine (impl_PortStep.calls k t234 t235 t236 t237 (Int.tmod (rd t239 0) 7) (rd y243 (ji8)) t248 t249 t250 t251 true _ A11.out).mono ?_
    rintro e w34 ⟨rfl, hb⟩
    have HS4_ := (hb.cell (World.block_lt_of_cell? _ _ (hHeld.2.2.2.2.1))).trans (hHeld.2.2.2.2.1)
    have HS5_ := (hb.cell (World.block_lt_of_cell? _ _ (hHeld.2.2.2.2.2))).trans (hHeld.2.2.2.2.2)
    refine ⟨_, rfl, ?_⟩
    have n0_ := Aside0.mk (Kd.R_below (rY HO241.out) hb)
    have n1_ := Aside0.mk (Kd.R_below (rY HO245.out) hb)
    have n2_ := Aside0.mk (blk_below (bY BK238.out) hb)
    have n3_ := Aside0.mk (blk_below (bY BK253.out) hb)
    have n4_ := Aside0.mk (below_step (by repeat (first | (with_reducible first | exact HB.out | apply below_alloc | apply pw_below_drewN | apply below_drew1 | refine below_set ?_ GE238.out | refine below_set ?_ GE253.out) | exact HB.out)) hb)
    clear HO241
    clear HO245
    clear BK238
    clear BK253
    clear HB
    have HO241 := n0_
    have HO245 := n1_
    have BK238 := n2_
    have BK253 := n3_
    have HB := n4_
    clear n0_ n1_ n2_ n3_ n4_
    refine hK.out _ _ ⟨(blk_cell BK238.out 0).trans rfl, (blk_cell BK238.out 1).trans rfl, (blk_cell BK238.out 2).trans rfl, (blk_cell BK238.out 3).trans rfl, HS4_, HS5_⟩ (fun hHeld => ?_)
    clear hK K
    refine norm_ (a' := ?_) ?_ ?_
    rotate_left
    ·show Act.put _ (some 28) _ = _
     simp only [pS]
     rfl
    refine pure_ (i := 13) (N := some 15) (v := ?_) (a' := ?_) #[T, T, T, T, T, T, T, T, T, T, T, T, T, T, F, F, T, F, F] rfl rfl (any_of HT_.out (by kernel_rfl)) (fun _ _ _ h => h) (Or.inl ⟨by rfl, ?_⟩) ?_ ?_
    rotate_left
    ·intro w'
     go_simp
     with_reducible rfl
    rotate_left
    ·simp only [pS]
     rfl
    refine pure_ (i := 14) (N := some 29) (v := ?_) (a' := ?_) #[T, T, T, T, T, T, T, T, T, T, T, T, T, T, T, F, T, F, F] rfl rfl (any_of HT_.out (by kernel_rfl)) (fun _ _ _ h => h) (Or.inl ⟨by rfl, ?_⟩) ?_ ?_
    rotate_left
    ·intro w'
     go_simp
     with_reducible rfl
    rotate_left
    ·simp only [pS]
     rfl
    refine pure_ (i := 15) (N := some 30) (v := ?_) (a' := ?_) #[T, T, T, T, T, T, T, T, T, T, T, T, T, T, T, T, T, F, F] rfl rfl (any_of HT_.out (by kernel_rfl)) (fun _ _ _ h => h) (Or.inl ⟨by rfl, ?_⟩) ?_ ?_
    rotate_left
    ·intro w'
     go_simp
     with_reducible rfl
    rotate_left
    ·simp only [pS]
     rfl
    exact norm_ (by simp only [putAll, Act.put, List.setIfInBounds_toArray, List.set_cons_zero, List.set_cons_succ]) (hCont (.slice (some ado33) y243.length co33, ado33, gb253) _ ⟨hHeld, (by (repeat apply rX); exact Kd.R_mono HO241.out (fun _ hk => hk.2)), (by (repeat apply rX); exact Kd.R_mono HO245.out (fun _ hk => hk.2)), ⟨_, rfl⟩, (bY BK238.out), (bY BK253.out), GW253.out, GE253.out, NB238_253.out, NB253_238.out, (by repeat (first | (with_reducible first | exact HB.out | apply below_alloc | apply pw_below_drewN | apply below_drew1 | refine below_set ?_ GE238.out | refine below_set ?_ GE253.out) | exact HB.out))⟩)
  rintro ⟨v244, adz_v244, gb253⟩ w35 ⟨hS_, h0_, h1_, h2_, h3_, h4_, h5_, h6_, h7_, h8_, h9_⟩
  have n0_ : Aside0 (Kd.R (Kd.int .i64) 3 w35 w.heap.size (fun k_ => some k_ ≠ (v244 : Value).ownBlock) (.slice (some ad242) t239.length co29) t239) := ⟨h0_⟩
  have n1_ : Aside0 (Kd.R (Kd.int .i64) 3 w35 w.heap.size (fun k_ => some k_ ≠ (.slice (some ad242) t239.length co29 : Value).ownBlock) v244 y243) := ⟨h1_⟩
  have n2_ : Aside0 (∃ c_, (v244 : Value) = .slice (some adz_v244) y243.length c_) := ⟨h2_⟩
  have n3_ : Aside0 (w35.heap[gb238]? = some (.cells #[.int .i64 t234, .int .i64 t235, .int .i64 t236, .int .i64 t237] 46 (0, 0))) := ⟨h3_⟩
  have n4_ : Aside0 (w35.heap[gb253]? = some (.cells #[.int .i64 0, .int .i64 0, .int .i64 0, .int .i64 0] 46 (0, 0))) := ⟨h4_⟩
  have n5_ : Aside0 (w.heap.size ≤ gb253) := ⟨h5_⟩
  have n6_ : Aside0 (w.heap.size ≤ gb253) := ⟨h6_⟩
  have n7_ : Aside0 (gb238 ≠ gb253) := ⟨h7_⟩
  have n8_ : Aside0 (gb253 ≠ gb238) := ⟨h8_⟩
  have n9_ : Aside0 (Below w.heap.size w w35) := ⟨h9_⟩
  clear HO241
  clear BK238
  clear HB
  clear h0_ h1_ h2_ h3_ h4_ h5_ h6_ h7_ h8_ h9_
  have HO241 := n0_
  have HO245 := n1_
  have HA_HO245 := n2_
  have BK238 := n3_
  have BK253 := n4_
  have GW253 := n5_
  have GE253 := n6_
  have NB238_253 := n7_
  have NB253_238 := n8_
  have HB := n9_
  clear n0_ n1_ n2_ n3_ n4_ n5_ n6_ n7_ n8_ n9_
  have hHeld : w35.cell? ⟨gb238, 0, none⟩ = some (.int .i64 t234) ∧ w35.cell? ⟨gb238, 1, none⟩ = some (.int .i64 t235) ∧ w35.cell? ⟨gb238, 2, none⟩ = some (.int .i64 t236) ∧ w35.cell? ⟨gb238, 3, none⟩ = some (.int .i64 t237) ∧ w35.cell? ad242 = some (.int .i64 (rd t239 0)) ∧ w35.cell? ⟨ad242.block, ad242.off + 1, none⟩ = some (.int .i64 (rd t239 1)) := hS_
  obtain ⟨co36, eo36⟩ := HA_HO245.out
  clear HA_HO245
  subst eo36
  refine norm_ (a' := ?_) ?_ ?_
  rotate_left
  ·simp only [putAll, Act.put, List.setIfInBounds_toArray, List.set_cons_zero, List.set_cons_succ]
   rfl
  refine one_ (i := 17) (N := none) #[T, T, T, T, T, T, T, T, T, T, T, T, T, T, T, T, T, T, F] rfl rfl (one_of HT_.out (by kernel_rfl)) (by decide) (fun K hK => ?_)
  have hs37 : w35.cell? ⟨gb253, 0, none⟩ = some (.int .i64 0) := (blk_cell BK253.out 0).trans rfl
  have hfs37 := blk_frozen BK253.out 0
  have hns37_0 := NB238_253.out
  have hms37_0 := NB253_238.out
  have hs38 : w35.cell? ⟨gb253, 1, none⟩ = some (.int .i64 0) := (blk_cell BK253.out 1).trans rfl
  have hfs38 := blk_frozen BK253.out 1
  have hns38_0 := NB238_253.out
  have hms38_0 := NB253_238.out
  have hs39 : w35.cell? ⟨gb253, 2, none⟩ = some (.int .i64 0) := (blk_cell BK253.out 2).trans rfl
  have hfs39 := blk_frozen BK253.out 2
  have hns39_0 := NB238_253.out
  have hms39_0 := NB253_238.out
  have hs40 : w35.cell? ⟨gb253, 3, none⟩ = some (.int .i64 0) := (blk_cell BK253.out 3).trans rfl
  have hfs40 := blk_frozen BK253.out 3
  have hns40_0 := NB238_253.out
  have hms40_0 := NB253_238.out
  refine skip_ (w1 := ?_) (by rfl) rfl ?_ ?_
  rotate_left
  ·go_simp
   rfl
  refine hK.out _ _ ⟨((cell_far (p := ⟨gb253, _, none⟩) NB238_253.out _).trans (((cell_far (p := ⟨gb253, _, none⟩) NB238_253.out _).trans (((cell_far (p := ⟨gb253, _, none⟩) NB238_253.out _).trans (((cell_far (p := ⟨gb253, _, none⟩) NB238_253.out _).trans (hHeld.1)))))))), ((cell_far (p := ⟨gb253, _, none⟩) NB238_253.out _).trans (((cell_far (p := ⟨gb253, _, none⟩) NB238_253.out _).trans (((cell_far (p := ⟨gb253, _, none⟩) NB238_253.out _).trans (((cell_far (p := ⟨gb253, _, none⟩) NB238_253.out _).trans (hHeld.2.1)))))))), ((cell_far (p := ⟨gb253, _, none⟩) NB238_253.out _).trans (((cell_far (p := ⟨gb253, _, none⟩) NB238_253.out _).trans (((cell_far (p := ⟨gb253, _, none⟩) NB238_253.out _).trans (((cell_far (p := ⟨gb253, _, none⟩) NB238_253.out _).trans (hHeld.2.2.1)))))))), ((cell_far (p := ⟨gb253, _, none⟩) NB238_253.out _).trans (((cell_far (p := ⟨gb253, _, none⟩) NB238_253.out _).trans (((cell_far (p := ⟨gb253, _, none⟩) NB238_253.out _).trans (((cell_far (p := ⟨gb253, _, none⟩) NB238_253.out _).trans (hHeld.2.2.2.1)))))))), ((cell_far (p := ⟨gb253, _, none⟩) (by have e_ := Kd.own_blk (Kd.R_ne HO241.out BK253.out (by decide)); first | exact e_ | (rw [add_block]; exact e_) | (dsimp only; exact e_)) _).trans (((cell_far (p := ⟨gb253, _, none⟩) (by have e_ := Kd.own_blk (Kd.R_ne HO241.out BK253.out (by decide)); first | exact e_ | (rw [add_block]; exact e_) | (dsimp only; exact e_)) _).trans (((cell_far (p := ⟨gb253, _, none⟩) (by have e_ := Kd.own_blk (Kd.R_ne HO241.out BK253.out (by decide)); first | exact e_ | (rw [add_block]; exact e_) | (dsimp only; exact e_)) _).trans (((cell_far (p := ⟨gb253, _, none⟩) (by have e_ := Kd.own_blk (Kd.R_ne HO241.out BK253.out (by decide)); first | exact e_ | (rw [add_block]; exact e_) | (dsimp only; exact e_)) _).trans (hHeld.2.2.2.2.1)))))))), ((cell_far (p := ⟨gb253, _, none⟩) (by have e_ := Kd.own_blk (Kd.R_ne HO241.out BK253.out (by decide)); first | exact e_ | (rw [add_block]; exact e_) | (dsimp only; exact e_)) _).trans (((cell_far (p := ⟨gb253, _, none⟩) (by have e_ := Kd.own_blk (Kd.R_ne HO241.out BK253.out (by decide)); first | exact e_ | (rw [add_block]; exact e_) | (dsimp only; exact e_)) _).trans (((cell_far (p := ⟨gb253, _, none⟩) (by have e_ := Kd.own_blk (Kd.R_ne HO241.out BK253.out (by decide)); first | exact e_ | (rw [add_block]; exact e_) | (dsimp only; exact e_)) _).trans (((cell_far (p := ⟨gb253, _, none⟩) (by have e_ := Kd.own_blk (Kd.R_ne HO241.out BK253.out (by decide)); first | exact e_ | (rw [add_block]; exact e_) | (dsimp only; exact e_)) _).trans (hHeld.2.2.2.2.2))))))))⟩ (fun hHeld => ?_)
  clear hK K
  refine pure_ (i := 18) (N := some 6) (v := ?_) (a' := ?_) #[T, T, T, T, T, T, T, T, T, T, T, T, T, T, T, T, T, T, T] rfl rfl (any_of HT_.out (by kernel_rfl)) (fun _ _ _ h => h) (Or.inl ⟨by rfl, ?_⟩) ?_ ?_
  rotate_left
  ·intro w'
   go_simp
   with_reducible rfl
  rotate_left
  ·simp only [pS]
   rfl
  refine done_ (done_of HT_.out (by kernel_rfl)) ?_
  have hnb41 := NB238_253.out
  have hnc41 := NB253_238.out
  have hcz42_0 : w35.cell? ⟨gb238, 0, none⟩ = some (.int .i64 t234) := (blk_cell BK238.out 0).trans rfl
  have hcz42_1 : w35.cell? ⟨gb238, 1, none⟩ = some (.int .i64 t235) := (blk_cell BK238.out 1).trans rfl
  have hcz42_2 : w35.cell? ⟨gb238, 2, none⟩ = some (.int .i64 t236) := (blk_cell BK238.out 2).trans rfl
  have hcz42_3 : w35.cell? ⟨gb238, 3, none⟩ = some (.int .i64 t237) := (blk_cell BK238.out 3).trans rfl
  have hfz42_0 := blk_frozen BK238.out 0
  have hfz42_1 := blk_frozen BK238.out 1
  have hfz42_2 := blk_frozen BK238.out 2
  have hfz42_3 := blk_frozen BK238.out 3
  try go_wp2_with (first | ((with_reducible refine gate_callee (f := 25) rfl ?_); refine goesL_ (some 33) rfl rfl Try.func25 (by kernel_rfl) rfl #[.agg #[.int .i64 t234, .int .i64 t235, .int .i64 t236, .int .i64 t237], .int .i64 4, .int .i64 1] rfl (by (try simp only [List.map_toArray, List.map_cons, List.map_nil]); first | done | rfl) ?_; (with_reducible refine (impl_PortStep.calls k t234 t235 t236 t237 4 1 t254 t255 t256 t257 true _ A12.out).mono ?_); rintro e w43 ⟨rfl, hb⟩; refine ⟨_, rfl, ?_⟩; have n0_ := Aside0.mk (Kd.R_below (by (repeat apply rX); exact (Kd.R_mono (Kd.R_far (p := ⟨gb253, 3, none⟩) (Kd.R_far (p := ⟨gb253, 2, none⟩) (Kd.R_far (p := ⟨gb253, 1, none⟩) (Kd.R_far (p := ⟨gb253, 0, none⟩) (Kd.R_types HO241.out BK253.out (by decide)) (fun _ hk => hk.2) (.int .i64 t248)) (fun _ hk => hk.2) (.int .i64 t249)) (fun _ hk => hk.2) (.int .i64 t250)) (fun _ hk => hk.2) (.int .i64 t251)) (fun _ h_ => h_.1))) hb); have n1_ := Aside0.mk (Kd.R_below (by (repeat apply rX); exact (Kd.R_mono (Kd.R_far (p := ⟨gb253, 3, none⟩) (Kd.R_far (p := ⟨gb253, 2, none⟩) (Kd.R_far (p := ⟨gb253, 1, none⟩) (Kd.R_far (p := ⟨gb253, 0, none⟩) (Kd.R_types HO245.out BK253.out (by decide)) (fun _ hk => hk.2) (.int .i64 t248)) (fun _ hk => hk.2) (.int .i64 t249)) (fun _ hk => hk.2) (.int .i64 t250)) (fun _ hk => hk.2) (.int .i64 t251)) (fun _ h_ => h_.1))) hb); have n2_ := Aside0.mk (blk_below (g := gb238) (o := .cells #[.int .i64 t234, .int .i64 t235, .int .i64 t236, .int .i64 t237] 46 (0, 0)) (by (repeat apply bX); refine blk_far ?_ NB238_253.out _; (repeat apply bX); refine blk_far ?_ NB238_253.out _; (repeat apply bX); refine blk_far ?_ NB238_253.out _; (repeat apply bX); refine blk_far ?_ NB238_253.out _; (repeat apply bX); exact BK238.out) hb); have n3_ := Aside0.mk (blk_below (g := gb253) (o := .cells #[.int .i64 t248, .int .i64 t249, .int .i64 t250, .int .i64 t251] 46 (0, 0)) (by (repeat apply bX); refine blk_put (cs := #[.int .i64 t248, .int .i64 t249, .int .i64 t250, .int .i64 0]) ?_ 3 _ rfl; (repeat apply bX); refine blk_put (cs := #[.int .i64 t248, .int .i64 t249, .int .i64 0, .int .i64 0]) ?_ 2 _ rfl; (repeat apply bX); refine blk_put (cs := #[.int .i64 t248, .int .i64 0, .int .i64 0, .int .i64 0]) ?_ 1 _ rfl; (repeat apply bX); refine blk_put (cs := #[.int .i64 0, .int .i64 0, .int .i64 0, .int .i64 0]) ?_ 0 _ rfl; (repeat apply bX); exact BK253.out) hb); have n4_ := Aside0.mk (below_step (by repeat (first | (with_reducible first | exact HB.out | apply below_alloc | apply pw_below_drewN | apply below_drew1 | refine below_set ?_ GE238.out | refine below_set ?_ GE253.out) | exact HB.out)) hb); clear HO241; clear HO245; clear BK238; clear BK253; clear HB; have HO241 := n0_; have HO245 := n1_; have BK238 := n2_; have BK253 := n3_; have HB := n4_; clear n0_ n1_ n2_ n3_ n4_; (try clear hb); (try clear hb2); (try clear hk); (try clear hi)) | ((with_reducible refine gate_dst (N := 7) rfl ?_); refine box_event ?hg (N := 7) ?hd (cs := #[.int .i64 0, .int .i64 0, .int .i64 0, .int .i64 0]) (t := 46) ?hr ?_; (case hd => rfl); (case hg => rfl); (case hr => first | (go_simp; done) | (go_simp; rfl)); intro gb259 hg w44 hbox hb; have n0_ := Aside0.mk (Kd.R_below (rY HO241.out) hb); have n1_ := Aside0.mk (Kd.R_below (rY HO245.out) hb); have n2_ := Aside0.mk (blk_below (bY BK238.out) hb); have n3_ := Aside0.mk (blk_below (bY BK253.out) hb); have n4_ := Aside0.mk (below_step (by repeat (first | (with_reducible first | exact HB.out | apply below_alloc | apply pw_below_drewN | apply below_drew1 | refine below_set ?_ GE238.out | refine below_set ?_ GE253.out) | exact HB.out)) hb); have n5_ := Aside0.mk (hbox); have n6_ := Aside0.mk ((by rw [hg]; exact (below_size (by repeat (first | (with_reducible first | exact HB.out | apply below_alloc | apply pw_below_drewN | apply below_drew1 | refine below_set ?_ GE238.out | refine below_set ?_ GE253.out) | exact HB.out))) : w.heap.size ≤ gb259)); have n7_ := Aside0.mk ((by rw [hg]; exact (below_size (by repeat (first | (with_reducible first | exact HB.out | apply below_alloc | apply pw_below_drewN | apply below_drew1 | refine below_set ?_ GE238.out | refine below_set ?_ GE253.out) | exact HB.out))) : w.heap.size ≤ gb259)); have n8_ := Aside0.mk ((by rw [hg]; exact Nat.ne_of_lt (blk_lt (bY BK238.out)) : gb238 ≠ gb259)); have n9_ := Aside0.mk ((by rw [hg]; exact Nat.ne_of_gt (blk_lt (bY BK238.out)) : gb259 ≠ gb238)); have n10_ := Aside0.mk ((by rw [hg]; exact Nat.ne_of_lt (blk_lt (bY BK253.out)) : gb253 ≠ gb259)); have n11_ := Aside0.mk ((by rw [hg]; exact Nat.ne_of_gt (blk_lt (bY BK253.out)) : gb259 ≠ gb253)); clear HO241; clear HO245; clear BK238; clear BK253; clear HB; have HO241 := n0_; have HO245 := n1_; have BK238 := n2_; have BK253 := n3_; have HB := n4_; have BK259 := n5_; have GW259 := n6_; have GE259 := n7_; have NB238_259 := n8_; have NB259_238 := n9_; have NB253_259 := n10_; have NB259_253 := n11_; clear n0_ n1_ n2_ n3_ n4_ n5_ n6_ n7_ n8_ n9_ n10_ n11_; clear hb hbox hg; have hnb45 := NB259_238.out; have hnc45 := NB238_259.out; have hnb46 := NB259_253.out; have hnc46 := NB253_259.out; have hcz47_0 : w44.cell? ⟨gb259, 0, none⟩ = some (.int .i64 0) := (blk_cell BK259.out 0).trans rfl; have hcz47_1 : w44.cell? ⟨gb259, 1, none⟩ = some (.int .i64 0) := (blk_cell BK259.out 1).trans rfl; have hcz47_2 : w44.cell? ⟨gb259, 2, none⟩ = some (.int .i64 0) := (blk_cell BK259.out 2).trans rfl; have hcz47_3 : w44.cell? ⟨gb259, 3, none⟩ = some (.int .i64 0) := (blk_cell BK259.out 3).trans rfl; have hfz47_0 := blk_frozen BK259.out 0; have hfz47_1 := blk_frozen BK259.out 1; have hfz47_2 := blk_frozen BK259.out 2; have hfz47_3 := blk_frozen BK259.out 3; have hcz48_0 : w44.cell? ⟨gb238, 0, none⟩ = some (.int .i64 t234) := (blk_cell BK238.out 0).trans rfl; have hcz48_1 : w44.cell? ⟨gb238, 1, none⟩ = some (.int .i64 t235) := (blk_cell BK238.out 1).trans rfl; have hcz48_2 : w44.cell? ⟨gb238, 2, none⟩ = some (.int .i64 t236) := (blk_cell BK238.out 2).trans rfl; have hcz48_3 : w44.cell? ⟨gb238, 3, none⟩ = some (.int .i64 t237) := (blk_cell BK238.out 3).trans rfl; have hfz48_0 := blk_frozen BK238.out 0; have hfz48_1 := blk_frozen BK238.out 1; have hfz48_2 := blk_frozen BK238.out 2; have hfz48_3 := blk_frozen BK238.out 3) | ((with_reducible refine gate_callee (f := 26) rfl ?_); refine goesL_ (some 37) rfl rfl Try.func26 (by kernel_rfl) rfl #[.agg #[.int .i64 t234, .int .i64 t235, .int .i64 t236, .int .i64 t237]] rfl (by (try simp only [List.map_toArray, List.map_cons, List.map_nil]); first | done | rfl) ?_; (with_reducible refine (impl_PortOk.calls k t234 t235 t236 t237 true _ A13.out).mono ?_); rintro e w49 ⟨rfl, hb⟩; refine ⟨_, rfl, ?_⟩; have n0_ := Aside0.mk (Kd.R_below (by (repeat apply rX); exact (Kd.R_mono (Kd.R_far (p := ⟨gb259, 3, none⟩) (Kd.R_far (p := ⟨gb259, 2, none⟩) (Kd.R_far (p := ⟨gb259, 1, none⟩) (Kd.R_far (p := ⟨gb259, 0, none⟩) (Kd.R_types HO241.out BK259.out (by decide)) (fun _ hk => hk.2) (.int .i64 t254)) (fun _ hk => hk.2) (.int .i64 t255)) (fun _ hk => hk.2) (.int .i64 t256)) (fun _ hk => hk.2) (.int .i64 t257)) (fun _ h_ => h_.1))) hb); have n1_ := Aside0.mk (Kd.R_below (by (repeat apply rX); exact (Kd.R_mono (Kd.R_far (p := ⟨gb259, 3, none⟩) (Kd.R_far (p := ⟨gb259, 2, none⟩) (Kd.R_far (p := ⟨gb259, 1, none⟩) (Kd.R_far (p := ⟨gb259, 0, none⟩) (Kd.R_types HO245.out BK259.out (by decide)) (fun _ hk => hk.2) (.int .i64 t254)) (fun _ hk => hk.2) (.int .i64 t255)) (fun _ hk => hk.2) (.int .i64 t256)) (fun _ hk => hk.2) (.int .i64 t257)) (fun _ h_ => h_.1))) hb); have n2_ := Aside0.mk (blk_below (g := gb238) (o := .cells #[.int .i64 t234, .int .i64 t235, .int .i64 t236, .int .i64 t237] 46 (0, 0)) (by (repeat apply bX); refine blk_far ?_ NB238_259.out _; (repeat apply bX); refine blk_far ?_ NB238_259.out _; (repeat apply bX); refine blk_far ?_ NB238_259.out _; (repeat apply bX); refine blk_far ?_ NB238_259.out _; (repeat apply bX); exact BK238.out) hb); have n3_ := Aside0.mk (blk_below (g := gb253) (o := .cells #[.int .i64 t248, .int .i64 t249, .int .i64 t250, .int .i64 t251] 46 (0, 0)) (by (repeat apply bX); refine blk_far ?_ NB253_259.out _; (repeat apply bX); refine blk_far ?_ NB253_259.out _; (repeat apply bX); refine blk_far ?_ NB253_259.out _; (repeat apply bX); refine blk_far ?_ NB253_259.out _; (repeat apply bX); exact BK253.out) hb); have n4_ := Aside0.mk (blk_below (g := gb259) (o := .cells #[.int .i64 t254, .int .i64 t255, .int .i64 t256, .int .i64 t257] 46 (0, 0)) (by (repeat apply bX); refine blk_put (cs := #[.int .i64 t254, .int .i64 t255, .int .i64 t256, .int .i64 0]) ?_ 3 _ rfl; (repeat apply bX); refine blk_put (cs := #[.int .i64 t254, .int .i64 t255, .int .i64 0, .int .i64 0]) ?_ 2 _ rfl; (repeat apply bX); refine blk_put (cs := #[.int .i64 t254, .int .i64 0, .int .i64 0, .int .i64 0]) ?_ 1 _ rfl; (repeat apply bX); refine blk_put (cs := #[.int .i64 0, .int .i64 0, .int .i64 0, .int .i64 0]) ?_ 0 _ rfl; (repeat apply bX); exact BK259.out) hb); have n5_ := Aside0.mk (below_step (by repeat (first | (with_reducible first | exact HB.out | apply below_alloc | apply pw_below_drewN | apply below_drew1 | refine below_set ?_ GE238.out | refine below_set ?_ GE253.out | refine below_set ?_ GE259.out) | exact HB.out)) hb); clear HO241; clear HO245; clear BK238; clear BK253; clear BK259; clear HB; have HO241 := n0_; have HO245 := n1_; have BK238 := n2_; have BK253 := n3_; have BK259 := n4_; have HB := n5_; clear n0_ n1_ n2_ n3_ n4_ n5_; (try clear hb); (try clear hb2); (try clear hk); (try clear hi); have hcz50_0 : w49.cell? ⟨gb253, 0, none⟩ = some (.int .i64 t248) := (blk_cell BK253.out 0).trans rfl; have hcz50_1 : w49.cell? ⟨gb253, 1, none⟩ = some (.int .i64 t249) := (blk_cell BK253.out 1).trans rfl; have hcz50_2 : w49.cell? ⟨gb253, 2, none⟩ = some (.int .i64 t250) := (blk_cell BK253.out 2).trans rfl; have hcz50_3 : w49.cell? ⟨gb253, 3, none⟩ = some (.int .i64 t251) := (blk_cell BK253.out 3).trans rfl; have hfz50_0 := blk_frozen BK253.out 0; have hfz50_1 := blk_frozen BK253.out 1; have hfz50_2 := blk_frozen BK253.out 2; have hfz50_3 := blk_frozen BK253.out 3) | (go_at_call 26; (with_reducible refine (impl_PortOk.calls k t248 t249 t250 t251 true _ A15.out).mono ?_); rintro e w51 ⟨rfl, hb⟩; have n0_ := Aside0.mk (Kd.R_below (rY HO241.out) hb); have n1_ := Aside0.mk (Kd.R_below (rY HO245.out) hb); have n2_ := Aside0.mk (blk_below (bY BK238.out) hb); have n3_ := Aside0.mk (blk_below (bY BK253.out) hb); have n4_ := Aside0.mk (blk_below (bY BK259.out) hb); have n5_ := Aside0.mk (below_step (by repeat (first | (with_reducible first | exact HB.out | apply below_alloc | apply pw_below_drewN | apply below_drew1 | refine below_set ?_ GE238.out | refine below_set ?_ GE253.out | refine below_set ?_ GE259.out) | exact HB.out)) hb); clear HO241; clear HO245; clear BK238; clear BK253; clear BK259; clear HB; have HO241 := n0_; have HO245 := n1_; have BK238 := n2_; have BK253 := n3_; have BK259 := n4_; have HB := n5_; clear n0_ n1_ n2_ n3_ n4_ n5_; (try clear hb); (try clear hb2); (try clear hk); (try clear hi); have hcz52_0 : w51.cell? ⟨gb253, 0, none⟩ = some (.int .i64 t248) := (blk_cell BK253.out 0).trans rfl; have hcz52_1 : w51.cell? ⟨gb253, 1, none⟩ = some (.int .i64 t249) := (blk_cell BK253.out 1).trans rfl; have hcz52_2 : w51.cell? ⟨gb253, 2, none⟩ = some (.int .i64 t250) := (blk_cell BK253.out 2).trans rfl; have hcz52_3 : w51.cell? ⟨gb253, 3, none⟩ = some (.int .i64 t251) := (blk_cell BK253.out 3).trans rfl; have hfz52_0 := blk_frozen BK253.out 0; have hfz52_1 := blk_frozen BK253.out 1; have hfz52_2 := blk_frozen BK253.out 2; have hfz52_3 := blk_frozen BK253.out 3; have hcz53_0 : w51.cell? ⟨gb238, 0, none⟩ = some (.int .i64 t234) := (blk_cell BK238.out 0).trans rfl; have hcz53_1 : w51.cell? ⟨gb238, 1, none⟩ = some (.int .i64 t235) := (blk_cell BK238.out 1).trans rfl; have hcz53_2 : w51.cell? ⟨gb238, 2, none⟩ = some (.int .i64 t236) := (blk_cell BK238.out 2).trans rfl; have hcz53_3 : w51.cell? ⟨gb238, 3, none⟩ = some (.int .i64 t237) := (blk_cell BK238.out 3).trans rfl; have hfz53_0 := blk_frozen BK238.out 0; have hfz53_1 := blk_frozen BK238.out 1; have hfz53_2 := blk_frozen BK238.out 2; have hfz53_3 := blk_frozen BK238.out 3; have hcz54_0 : w51.cell? ⟨gb259, 0, none⟩ = some (.int .i64 t254) := (blk_cell BK259.out 0).trans rfl; have hcz54_1 : w51.cell? ⟨gb259, 1, none⟩ = some (.int .i64 t255) := (blk_cell BK259.out 1).trans rfl; have hcz54_2 : w51.cell? ⟨gb259, 2, none⟩ = some (.int .i64 t256) := (blk_cell BK259.out 2).trans rfl; have hcz54_3 : w51.cell? ⟨gb259, 3, none⟩ = some (.int .i64 t257) := (blk_cell BK259.out 3).trans rfl; have hfz54_0 := blk_frozen BK259.out 0; have hfz54_1 := blk_frozen BK259.out 1; have hfz54_2 := blk_frozen BK259.out 2; have hfz54_3 := blk_frozen BK259.out 3) | (go_at_call 27; (with_reducible refine (impl_StateName.calls t234 t262 _ A23.out).mono ?_); rintro e w' ⟨rfl, ⟨nd, rfl⟩⟩))
  go_ret
  exact ⟨by first | rfl | (generalize t262.toList = z_; cases z_ <;> first | rfl | (simp; done)) | (simp [errW_none, errW_some] <;> rfl) | (simp only [← hji8]; first | rfl | (simp [errW_none, errW_some] <;> rfl)) | (simp [*, errW_none, errW_some] <;> rfl), by repeat (first | (with_reducible first | exact HB.out | apply below_alloc | apply pw_below_drewN | apply below_drew1 | refine below_set ?_ GE238.out | refine below_set ?_ GE253.out | refine below_set ?_ GE259.out) | exact HB.out)⟩
 replace c17 := Bool.eq_false_iff.mpr c17
 subst c17
 have H1 : (if (t248 == t234 && (t249 == t235 && (t250 == t236 && (t251 == t237)))) = true then (if t250 = t236 then (if (t258 == (t234 != 5)) = true then (if t258 = true then (if t254 = 0 then (if t255 = 0 then ((impl_StateName.f t234).bind fun t264 => (some (t264.toList != ([] : List UInt8)))) else (some false)) else (some false)) else ((impl_StateName.f t234).bind fun t265 => (some (t265.toList != ([] : List UInt8))))) else (some false)) else (some false)) else (some false)) = some r := by rw [if_neg (show ¬ (false = true) by decide)] at H; exact H
 clear H
 have H := H1
 clear H1
 by_cases c86 : (t248 == t234 && (t249 == t235 && (t250 == t236 && (t251 == t237)))) = true
 rotate_left
 ·rw [if_neg c86] at H
  have c86b0 : (t248 == t234 && (t249 == t235 && (t250 == t236 && (t251 == t237)))) = false := by simpa using c86
  (try (have c86b1 : decide (t248 = t234 && (t249 == t235 && (t250 == t236 && (t251 == t237)))) = false := by simpa using c86))
  (try (have c86b2 : (t248 == t234 && (t249 == t235 && (t250 == t236 && (t251 == t237)))) = false := by simpa using c86))
  (try (have c86b3 : ¬ (t248 = t234 && (t249 == t235 && (t250 == t236 && (t251 == t237)))) := by simpa using c86))
  clear c86
  exact absurd (H.trans (congrArg some hrt.out)) (by simp)
 rw [if_pos c86] at H
 have c86b0 : (t248 == t234 && (t249 == t235 && (t250 == t236 && (t251 == t237)))) = true := c86
 (try (have c86b1 : decide (t248 = t234 && (t249 == t235 && (t250 == t236 && (t251 == t237)))) = true := by simpa using c86))
 (try (have c86b2 : (t248 == t234 && (t249 == t235 && (t250 == t236 && (t251 == t237)))) = true := by simpa using c86))
 clear c86
 by_cases c87 : t250 = t236
 rotate_left
 ·rw [if_neg c87] at H
  have c87b0 : (t250 == t236) = false := beq_eq_false_iff_ne.mpr c87
  have c87b1 : (t250 != t236) = true := bne_iff_ne.mpr c87
  exact absurd (H.trans (congrArg some hrt.out)) (by simp)
 rw [if_pos c87] at H
 have c87b0 : (t250 == t236) = true := beq_iff_eq.mpr c87
 have c87b1 : (t250 != t236) = false := bne_eq_false_iff_eq.mpr c87
 clear c87
 by_cases c88 : (t258 == (t234 != 5)) = true
 rotate_left
 ·rw [if_neg c88] at H
  have c88b0 : (t258 == (t234 != 5)) = false := by simpa using c88
  (try (have c88b1 : decide (t258 = (t234 != 5)) = false := by simpa using c88))
  (try (have c88b2 : (t258 == (t234 != 5)) = false := by simpa using c88))
  (try (have c88b3 : ¬ (t258 = (t234 != 5)) := by simpa using c88))
  clear c88
  exact absurd (H.trans (congrArg some hrt.out)) (by simp)
 rw [if_pos c88] at H
 have c88b0 : (t258 == (t234 != 5)) = true := c88
 (try (have c88b1 : decide (t258 = (t234 != 5)) = true := by simpa using c88))
 (try (have c88b2 : (t258 == (t234 != 5)) = true := by simpa using c88))
 clear c88
 by_cases c89 : t258 = true
 rotate_left
 ·replace c89 := Bool.eq_false_iff.mpr c89
  subst c89
  have H1 : ((impl_StateName.f t234).bind fun t265 => (some (t265.toList != ([] : List UInt8)))) = some r := by rw [if_neg (show ¬ (false = true) by decide)] at H; exact H
  clear H
  have H := H1
  clear H1
  replace H := Option.bind_eq_some_iff.mp H
  obtain ⟨t265, A1240, H⟩ := H
  have A124 := Aside0.mk A1240
  clear A1240
  obtain rfl := Option.some.inj H
  go_enter Try.func6, Try.ntmps6
  try go_wp2_with (first | ((with_reducible refine gate_callee (f := 7) rfl ?_); refine goesL_ (some 10) rfl rfl Try.func7 (by kernel_rfl) rfl #[.slice A0 l0.length c0] rfl (by (try simp only [List.map_toArray, List.map_cons, List.map_nil]); first | done | rfl) ?_; (with_reducible refine (laws_big.calls _ _ l0 false _ ?side1 ?side2 A2.out).mono ?_); (case side1 => repeat (first | exact HR0.out | (with_reducible refine Kd.C_alloc ?_ _) | (with_reducible refine Kd.C_drewN ?_ _) | (with_reducible refine Kd.C_drew ?_))); (case side2 => exact HC0.out); rintro e w' ⟨rfl, ⟨nd, rfl⟩⟩; refine ⟨_, rfl, ?_⟩) | ((with_reducible refine gate_callee (f := 23) rfl ?_); refine goesL_ (some 12) rfl rfl Try.func23 (by kernel_rfl) rfl #[.slice A0 l0.length c0] rfl (by (try simp only [List.map_toArray, List.map_cons, List.map_nil]); first | done | rfl) ?_; (with_reducible refine (spec_DrawPort.calls k _ _ l0 t234 t235 t236 t237 _ ?side1 ?side2 A4.out).mono ?_); (case side1 => repeat (first | exact HR0.out | (with_reducible refine Kd.C_alloc ?_ _) | (with_reducible refine Kd.C_drewN ?_ _) | (with_reducible refine Kd.C_drew ?_))); (case side2 => exact HC0.out); rintro e w125 ⟨rfl, hb⟩; refine ⟨_, rfl, ?_⟩; have n0_ := Aside0.mk (below_step (by repeat (first | (with_reducible first | exact HB.out | apply below_alloc | apply pw_below_drewN | apply below_drew1) | exact HB.out)) hb); clear HB; have HB := n0_; clear n0_; (try clear hb); (try clear hb2); (try clear hk); (try clear hi)) | ((with_reducible refine gate_dst (N := 3) rfl ?_); refine box_event ?hg (N := 3) ?hd (cs := #[.int .i64 0, .int .i64 0, .int .i64 0, .int .i64 0]) (t := 46) ?hr ?_; (case hd => rfl); (case hg => rfl); (case hr => first | (go_simp; done) | (go_simp; rfl)); intro gb238 hg w126 hbox hb; have n0_ := Aside0.mk (below_step (by repeat (first | (with_reducible first | exact HB.out | apply below_alloc | apply pw_below_drewN | apply below_drew1) | exact HB.out)) hb); have n1_ := Aside0.mk (hbox); have n2_ := Aside0.mk ((by rw [hg]; exact (below_size (by repeat (first | (with_reducible first | exact HB.out | apply below_alloc | apply pw_below_drewN | apply below_drew1) | exact HB.out))) : w.heap.size ≤ gb238)); have n3_ := Aside0.mk ((by rw [hg]; exact (below_size (by repeat (first | (with_reducible first | exact HB.out | apply below_alloc | apply pw_below_drewN | apply below_drew1) | exact HB.out))) : w.heap.size ≤ gb238)); clear HB; have HB := n0_; have BK238 := n1_; have GW238 := n2_; have GE238 := n3_; clear n0_ n1_ n2_ n3_; clear hb hbox hg; have hcz127_0 : w126.cell? ⟨gb238, 0, none⟩ = some (.int .i64 0) := (blk_cell BK238.out 0).trans rfl; have hcz127_1 : w126.cell? ⟨gb238, 1, none⟩ = some (.int .i64 0) := (blk_cell BK238.out 1).trans rfl; have hcz127_2 : w126.cell? ⟨gb238, 2, none⟩ = some (.int .i64 0) := (blk_cell BK238.out 2).trans rfl; have hcz127_3 : w126.cell? ⟨gb238, 3, none⟩ = some (.int .i64 0) := (blk_cell BK238.out 3).trans rfl; have hfz127_0 := blk_frozen BK238.out 0; have hfz127_1 := blk_frozen BK238.out 1; have hfz127_2 := blk_frozen BK238.out 2; have hfz127_3 := blk_frozen BK238.out 3) | ((with_reducible refine gate_callee (f := 24) rfl ?_); refine goesL_ (some 14) rfl rfl Try.func24 (by kernel_rfl) rfl #[.slice A0 l0.length c0] rfl (by (try simp only [List.map_toArray, List.map_cons, List.map_nil]); first | done | rfl) ?_; (with_reducible refine (spec_DrawPlaces.calls k _ _ l0 t239 _ ?side1 ?side2 A5.out).mono ?_); (case side1 => exact Kd.C_below HR0.out (by repeat (first | (with_reducible first | exact HB.out | apply below_alloc | apply pw_below_drewN | apply below_drew1 | refine below_set ?_ GE238.out) | exact HB.out))); (case side2 => exact HC0.out); rintro e w128 ⟨v240, rfl, ho0, hb⟩; refine ⟨_, rfl, ?_⟩; have n0_ := Aside0.mk (Kd.R_lower ho0 (below_size (by repeat (first | (with_reducible first | exact HB.out | apply below_alloc | apply pw_below_drewN | apply below_drew1 | refine below_set ?_ GE238.out) | exact HB.out)))); have n1_ := Aside0.mk (blk_below (g := gb238) (o := .cells #[.int .i64 t234, .int .i64 t235, .int .i64 t236, .int .i64 t237] 46 (0, 0)) (by (repeat apply bX); refine blk_put (cs := #[.int .i64 t234, .int .i64 t235, .int .i64 t236, .int .i64 0]) ?_ 3 _ rfl; (repeat apply bX); refine blk_put (cs := #[.int .i64 t234, .int .i64 t235, .int .i64 0, .int .i64 0]) ?_ 2 _ rfl; (repeat apply bX); refine blk_put (cs := #[.int .i64 t234, .int .i64 0, .int .i64 0, .int .i64 0]) ?_ 1 _ rfl; (repeat apply bX); refine blk_put (cs := #[.int .i64 0, .int .i64 0, .int .i64 0, .int .i64 0]) ?_ 0 _ rfl; (repeat apply bX); exact BK238.out) hb); have n2_ := Aside0.mk (below_step (by repeat (first | (with_reducible first | exact HB.out | apply below_alloc | apply pw_below_drewN | apply below_drew1 | refine below_set ?_ GE238.out) | exact HB.out)) hb); clear BK238; clear HB; have HO241 := n0_; have BK238 := n1_; have HB := n2_; clear n0_ n1_ n2_; (try clear hb); (try clear hb2); (try clear hk); (try clear hi); (try clear ho0)))
  have pi247 : (0 ≤ ((ji8) : Int)) = True := eq_true (of_decide_eq_true (by first | (with_reducible assumption) | assumption))
  have qi247 : ((ji8) < (y243.length : Int)) = True := eq_true (of_decide_eq_true (by first | (with_reducible assumption) | assumption))
  have n0_ := Aside0.mk (Kd.R_drew HO241.out)
  have n1_ := Aside0.mk (blk_drew BK238.out)
  have n2_ := Aside0.mk (below_drew1 HB.out)
  clear HO241
  clear BK238
  clear HB
  have HO241 := n0_
  have BK238 := n1_
  have HB := n2_
  clear n0_ n1_ n2_
  obtain ⟨Ao130, co130, eo130⟩ := Kd.R_slice HO241.out
  (first | subst eo130 | (injection eo130 with f1_ f2_ f3_; have f4_ := f1_.symm; have f5_ := f3_.symm; clear f1_ f2_ f3_; subst f4_; subst f5_))
  have p242 : 0 ≤ (0 : Int) := (by omega)
  have q242 : 0 < (t239.length : Int) := of_decide_eq_true (by first | (with_reducible assumption) | assumption)
  obtain ⟨ad242, e242, hx242_0⟩ := Kd.at_int (Kd.R_reads' HO241.out).2.2 0 p242 q242
  cases e242
  have qi242 : (0 < t239.length) = True := eq_true (by omega)
  (try rw [show ((0 : Int)).toNat = 0 from rfl] at hx242_0)
  (try rw [Addr.add_zero'] at hx242_0)
  replace p242 := eq_true p242
  replace q242 := eq_true q242
  have p246 : 0 ≤ (1 : Int) := (by omega)
  have q246 : 1 < (t239.length : Int) := of_decide_eq_true (by first | (with_reducible assumption) | assumption)
  obtain ⟨ad246, e246, hx246_0⟩ := Kd.at_int (Kd.R_reads' HO241.out).2.2 1 p246 q246
  obtain rfl : ad242 = ad246 := (by injection e246)
  (try simp only [show (1 : Int).toNat = 1 from rfl, Nat.reduceMul, Nat.reduceEqDiff, Go.Addr.add, ↓reduceIte] at hx246_0)
  have qi246 : (1 < t239.length) = True := eq_true (by omega)
  (try rw [show ((1 : Int)).toNat = 1 from rfl] at hx246_0)
  replace p246 := eq_true p246
  replace q246 := eq_true q246
  refine start_ (n := 19) (S := fun w' => w'.cell? ⟨gb238, 0, none⟩ = some (.int .i64 t234) ∧ w'.cell? ⟨gb238, 1, none⟩ = some (.int .i64 t235) ∧ w'.cell? ⟨gb238, 2, none⟩ = some (.int .i64 t236) ∧ w'.cell? ⟨gb238, 3, none⟩ = some (.int .i64 t237) ∧ w'.cell? ad242 = some (.int .i64 (rd t239 0)) ∧ w'.cell? ⟨ad242.block, ad242.off + 1, none⟩ = some (.int .i64 (rd t239 1))) (ds := []) #[F, F, F, F, F, F, F, F, F, F, F, F, F, F, F, F, F, F, F] (by kernel_rfl) rfl rfl ⟨(blk_cell BK238.out 0).trans rfl, (blk_cell BK238.out 1).trans rfl, (blk_cell BK238.out 2).trans rfl, (blk_cell BK238.out 3).trans rfl, hx242_0, hx246_0⟩ (fun hHeld => ?_); refine with_tabW laws_FnPorts.tab5 laws_FnPorts.bits5 (fun HT_ HW_ => ?_)
  generalize w128.drew = w129 at HO241 BK238 HB hx242_0 hx246_0 hHeld ⊢
  refine pure_ (i := 1) (N := some 17) (v := ?_) (a' := ?_) #[F, T, F, F, F, F, F, F, F, F, F, F, F, F, F, F, F, F, F] rfl rfl (any_of HT_.out (by kernel_rfl)) (fun _ _ _ h => h) (Or.inl ⟨by rfl, ?_⟩) ?_ ?_
  rotate_left
  ·intro w'
   go_simp
   with_reducible rfl
  rotate_left
  ·simp only [pS]
   rfl
  refine pure_ (i := 2) (N := some 18) (v := ?_) (a' := ?_) #[F, T, T, F, F, F, F, F, F, F, F, F, F, F, F, F, F, F, F] rfl rfl (any_of HT_.out (by kernel_rfl)) (fun _ _ _ h => h) (Or.inl ⟨by rfl, ?_⟩) ?_ ?_
  rotate_left
  ·intro w'
   go_simp
   with_reducible rfl
  rotate_left
  ·simp only [pS]
   rfl
  refine pure_ (i := 6) (N := some 22) (v := ?_) (a' := ?_) #[F, T, T, F, F, F, T, F, F, F, F, F, F, F, F, F, F, F, F] rfl rfl (any_of HT_.out (by kernel_rfl)) (fun _ _ _ h => h) (Or.inl ⟨by rfl, ?_⟩) ?_ ?_
  rotate_left
  ·intro w'
   go_simp
   with_reducible rfl
  rotate_left
  ·simp only [pS]
   rfl
  refine pure_ (i := 7) (N := some 23) (v := ?_) (a' := ?_) #[F, T, T, F, F, F, T, T, F, F, F, F, F, F, F, F, F, F, F] rfl rfl (any_of HT_.out (by kernel_rfl)) (fun _ _ _ h => h) (Or.inl ⟨by rfl, ?_⟩) ?_ ?_
  rotate_left
  ·intro w'
   go_simp
   with_reducible rfl
  rotate_left
  ·simp only [pS]
   rfl
  refine take_ (i := 0) (N := some 16) (v := ?_) (a' := ?_) #[T, T, T, F, F, F, T, T, F, F, F, F, F, F, F, F, F, F, F] rfl rfl (take_ofW HT_.out HW_.out (by kernel_rfl)) (fun _ _ _ h => h) (Or.inl ⟨by rfl, ?_⟩) hHeld ?_ ?_
  rotate_left
  ·rintro w' ⟨s0, s1, s2, s3, s4, s5⟩
   go_simp
   with_reducible rfl
  rotate_left
  ·simp only [pS]
   rfl
  refine take_ (i := 3) (N := some 19) (v := ?_) (a' := ?_) #[T, T, T, T, F, F, T, T, F, F, F, F, F, F, F, F, F, F, F] rfl rfl (take_ofW HT_.out HW_.out (by kernel_rfl)) (fun _ _ _ h => h) (Or.inl ⟨by rfl, ?_⟩) hHeld ?_ ?_
  rotate_left
  ·rintro w' ⟨s0, s1, s2, s3, s4, s5⟩
   go_simp
   with_reducible rfl
  rotate_left
  ·simp only [pS]
   rfl
  refine pure_ (i := 4) (N := some 20) (v := ?_) (a' := ?_) #[T, T, T, T, T, F, T, T, F, F, F, F, F, F, F, F, F, F, F] rfl rfl (any_of HT_.out (by kernel_rfl)) (fun _ _ _ h => h) (Or.inl ⟨by rfl, ?_⟩) ?_ ?_
  rotate_left
  ·intro w'
   go_simp
   with_reducible rfl
  rotate_left
  ·simp only [pS]
   rfl
  refine take_ (i := 8) (N := some 24) (v := ?_) (a' := ?_) #[T, T, T, T, T, F, T, T, T, F, F, F, F, F, F, F, F, F, F] rfl rfl (take_ofW HT_.out HW_.out (by kernel_rfl)) (fun _ _ _ h => h) (Or.inl ⟨by rfl, ?_⟩) hHeld ?_ ?_
  rotate_left
  ·rintro w' ⟨s0, s1, s2, s3, s4, s5⟩
   go_simp
   with_reducible rfl
  rotate_left
  ·simp only [pS]
   rfl
  refine pure_ (i := 9) (N := some 25) (v := ?_) (a' := ?_) #[T, T, T, T, T, F, T, T, T, T, F, F, F, F, F, F, F, F, F] rfl rfl (any_of HT_.out (by kernel_rfl)) (fun _ _ _ h => h) (Or.inl ⟨by rfl, ?_⟩) ?_ ?_
  rotate_left
  ·intro w'
   go_simp
   with_reducible rfl
  rotate_left
  ·simp only [pS]
   rfl
  refine join_ (σ := Value × Addr × Nat) 2 #[T, T, T, T, T, T, T, T, T, T, T, T, T, T, T, T, T, F, F] (fun s_ => [(21, s_.1), (27, .int .i64 (rd y243 (ji8))), (28, .tuple #[.agg #[.int .i64 t248, .int .i64 t249, .int .i64 t250, .int .i64 t251], .bool false]), (5, .pointer (some ⟨s_.2.2, 0, none⟩)), (26, .pointer (some (s_.2.1.add ((ji8)).toNat))), (15, .tuple #[.agg #[.int .i64 t248, .int .i64 t249, .int .i64 t250, .int .i64 t251], .bool false]), (29, .agg #[.int .i64 t248, .int .i64 t249, .int .i64 t250, .int .i64 t251]), (30, .bool false)]) (fun s_ w' => (w'.cell? ⟨gb238, 0, none⟩ = some (.int .i64 t234) ∧ w'.cell? ⟨gb238, 1, none⟩ = some (.int .i64 t235) ∧ w'.cell? ⟨gb238, 2, none⟩ = some (.int .i64 t236) ∧ w'.cell? ⟨gb238, 3, none⟩ = some (.int .i64 t237) ∧ w'.cell? ad242 = some (.int .i64 (rd t239 0)) ∧ w'.cell? ⟨ad242.block, ad242.off + 1, none⟩ = some (.int .i64 (rd t239 1))) ∧ (Kd.R (Kd.int .i64) 3 w' w.heap.size (fun k_ => some k_ ≠ (s_.1 : Value).ownBlock) (.slice (some ad242) t239.length co130) t239) ∧ (Kd.R (Kd.int .i64) 3 w' w.heap.size (fun k_ => some k_ ≠ (.slice (some ad242) t239.length co130 : Value).ownBlock) s_.1 y243) ∧ (∃ c_, (s_.1 : Value) = .slice (some s_.2.1) y243.length c_) ∧ (w'.heap[gb238]? = some (.cells #[.int .i64 t234, .int .i64 t235, .int .i64 t236, .int .i64 t237] 46 (0, 0))) ∧ (w'.heap[s_.2.2]? = some (.cells #[.int .i64 0, .int .i64 0, .int .i64 0, .int .i64 0] 46 (0, 0))) ∧ (w.heap.size ≤ s_.2.2) ∧ (w.heap.size ≤ s_.2.2) ∧ (gb238 ≠ s_.2.2) ∧ (s_.2.2 ≠ gb238) ∧ (Below w.heap.size w w')) ?_ ?_
  rotate_left
  ·intro hCont
   refine two_ (i := 5) (j := 16) (Ni := some 21) (Nj := some 5) #[T, T, T, T, T, T, T, T, T, T, F, F, F, F, F, F, F, F, F] #[T, T, T, T, T, F, T, T, T, T, F, F, F, F, F, F, T, F, F] rfl rfl rfl rfl (two_of HT_.out (by kernel_rfl)) (by decide) (by decide) (fun K hK => ?_) (fun K hK => ?_)
   ·skip
    refine Kd.R_lit_step (Kd.int .i64) _ 3 ?hg (N := 21) ?hd (xs := ([1, 2, 4] : List Int)) (inner := [.int .i64 1, .int .i64 2, .int .i64 4]) (ok := fun _ => True) (okp := fun _ => True) ?hr ?hp (fun _ hk => hk) trivial (Below.refl _ _) (Nat.le_refl _) (by simp) ?_; (case hd => rfl); (case hg => rfl); (case hr => first | (go_simp; done) | (go_simp; rfl)); (case hp => exact (Reps.one (show Kd.M (Kd.int .i64) _ _ _ 1 [.int .i64 1] from rfl) (Reps.one (show Kd.M (Kd.int .i64) _ _ _ 2 [.int .i64 2] from rfl) (Reps.one (show Kd.M (Kd.int .i64) _ _ _ 4 [.int .i64 4] from rfl) (Reps.none _ _)))))
    intro v244 w131 ho132 hb hg_ hnew_
    have HS4_ := (hb.cell (World.block_lt_of_cell? _ _ (hHeld.2.2.2.2.1))).trans (hHeld.2.2.2.2.1)
    have HS5_ := (hb.cell (World.block_lt_of_cell? _ _ (hHeld.2.2.2.2.2))).trans (hHeld.2.2.2.2.2)
    clear hg_ hnew_
    (first | rw [← Ny243.out] at ho132 | (simp only [Int.reduceToNat] at ho132; rw [← Ny243.out] at ho132))
    have n0_ := Aside0.mk (Kd.R_elder' (rY HO241.out) (Kd.R_base ho132) hb)
    have n1_ := Aside0.mk (Kd.R_lower (Kd.R_new' ho132 (Kd.R_lt (rY HO241.out))) (below_size (by repeat (first | (with_reducible first | exact HB.out | apply below_alloc | apply pw_below_drewN | apply below_drew1 | refine below_set ?_ GE238.out) | exact HB.out))))
    have n2_ := Aside0.mk (blk_below (bY BK238.out) hb)
    have n3_ := Aside0.mk (below_step (by repeat (first | (with_reducible first | exact HB.out | apply below_alloc | apply pw_below_drewN | apply below_drew1 | refine below_set ?_ GE238.out) | exact HB.out)) hb)
    clear HO241
    clear BK238
    clear HB
    have HO241 := n0_
    have HO245 := n1_
    have BK238 := n2_
    have HB := n3_
    clear n0_ n1_ n2_ n3_
    clear hb ho132
    obtain ⟨Ao133, co133, eo133⟩ := Kd.R_slice HO245.out
    subst eo133
    obtain ⟨ado133, fo133, _⟩ := Kd.at_int (Kd.R_reads' HO245.out).2.2 0 (by decide) (by rw [Ny243.out]; simp)
    cases fo133
    refine hK.out _ _ ⟨(blk_cell BK238.out 0).trans rfl, (blk_cell BK238.out 1).trans rfl, (blk_cell BK238.out 2).trans rfl, (blk_cell BK238.out 3).trans rfl, HS4_, HS5_⟩ (fun hHeld => ?_)
    clear hK K
    refine norm_ (a' := ?_) ?_ ?_
    rotate_left
    ·show Act.put _ (some 21) _ = _
     simp only [pS]
     rfl
    refine pure_ (i := 10) (N := some 26) (v := ?_) (a' := ?_) #[T, T, T, T, T, T, T, T, T, T, T, F, F, F, F, F, F, F, F] rfl rfl (any_of HT_.out (by kernel_rfl)) (fun _ _ _ h => h) (Or.inl ⟨by rfl, ?_⟩) ?_ ?_
    rotate_left
    ·intro w'
     go_simp
     with_reducible rfl
    rotate_left
    ·simp only [pS]
     rfl
    refine two_ (i := 11) (j := 16) (Ni := some 27) (Nj := some 5) #[T, T, T, T, T, T, T, T, T, T, T, T, F, F, F, F, F, F, F] #[T, T, T, T, T, T, T, T, T, T, T, F, F, F, F, F, T, F, F] rfl rfl rfl rfl (two_of HT_.out (by kernel_rfl)) (by decide) (by decide) (fun K hK => ?_) (fun K hK => ?_)
    ·skip
     (have p247 : 0 ≤ ((ji8) : Int) := of_decide_eq_true (by first | (with_reducible assumption) | assumption); have q247 : (ji8) < (y243.length : Int) := of_decide_eq_true (by first | (with_reducible assumption) | assumption); obtain ⟨ad247, e247, hx247_0⟩ := Kd.at_int (Kd.R_reads' HO245.out).2.2 (ji8) p247 q247; obtain rfl : ado133 = ad247 := (by injection e247))
     refine value_ (w1 := ?_) (v := ?_) (by rfl) rfl ?_ ?_
     rotate_left 2
     ·go_simp
      constructor
      ·rfl
      ·rfl
     clear hx247_0
     refine hK.out _ _ ⟨(blk_cell BK238.out 0).trans rfl, (blk_cell BK238.out 1).trans rfl, (blk_cell BK238.out 2).trans rfl, (blk_cell BK238.out 3).trans rfl, hHeld.2.2.2.2.1, hHeld.2.2.2.2.2⟩ (fun hHeld => ?_)
     clear hK K
     refine norm_ (a' := ?_) ?_ ?_
     rotate_left
     ·show Act.put _ (some 27) _ = _
      simp only [pS]
      rfl
     refine two_ (i := 12) (j := 16) (Ni := some 28) (Nj := some 5) #[T, T, T, T, T, T, T, T, T, T, T, T, T, F, F, F, F, F, F] #[T, T, T, T, T, T, T, T, T, T, T, T, F, F, F, F, T, F, F] rfl rfl rfl rfl (two_of HT_.out (by kernel_rfl)) (by decide) (by decide) (fun K hK => ?_) (fun K hK => ?_)
     ·skip
      refine goes_ Try.func25 (by kernel_rfl) rfl #[.agg #[.int .i64 t234, .int .i64 t235, .int .i64 t236, .int .i64 t237], .int .i64 (Int.tmod (rd t239 0) 7), .int .i64 (rd y243 (ji8))] (by rfl) rfl rfl (by (try simp only [List.map_toArray, List.map_cons, List.map_nil]); first | done | (simp only [hji8]; rfl) | rfl | (simp only [List.length_drop, List.length_take]; rfl)) ?_
      with_reducible refine (impl_PortStep.calls k t234 t235 t236 t237 (Int.tmod (rd t239 0) 7) (rd y243 (ji8)) t248 t249 t250 t251 false _ A11.out).mono ?_
      rintro e w134 ⟨rfl, hb⟩
      have HS4_ := (hb.cell (World.block_lt_of_cell? _ _ (hHeld.2.2.2.2.1))).trans (hHeld.2.2.2.2.1)
      have HS5_ := (hb.cell (World.block_lt_of_cell? _ _ (hHeld.2.2.2.2.2))).trans (hHeld.2.2.2.2.2)
      refine ⟨_, rfl, ?_⟩
      have n0_ := Aside0.mk (Kd.R_below (rY HO241.out) hb)
      have n1_ := Aside0.mk (Kd.R_below (rY HO245.out) hb)
      have n2_ := Aside0.mk (blk_below (bY BK238.out) hb)
      have n3_ := Aside0.mk (below_step (by repeat (first | (with_reducible first | exact HB.out | apply below_alloc | apply pw_below_drewN | apply below_drew1 | refine below_set ?_ GE238.out) | exact HB.out)) hb)
      clear HO241
      clear HO245
      clear BK238
      clear HB
      have HO241 := n0_
      have HO245 := n1_
      have BK238 := n2_
      have HB := n3_
      clear n0_ n1_ n2_ n3_
      refine hK.out _ _ ⟨(blk_cell BK238.out 0).trans rfl, (blk_cell BK238.out 1).trans rfl, (blk_cell BK238.out 2).trans rfl, (blk_cell BK238.out 3).trans rfl, HS4_, HS5_⟩ (fun hHeld => ?_)
      clear hK K
      refine norm_ (a' := ?_) ?_ ?_
      rotate_left
      ·show Act.put _ (some 28) _ = _
       simp only [pS]
       rfl
      refine pure_ (i := 13) (N := some 15) (v := ?_) (a' := ?_) #[T, T, T, T, T, T, T, T, T, T, T, T, T, T, F, F, F, F, F] rfl rfl (any_of HT_.out (by kernel_rfl)) (fun _ _ _ h => h) (Or.inl ⟨by rfl, ?_⟩) ?_ ?_
      rotate_left
      ·intro w'
       go_simp
       with_reducible rfl
      rotate_left
      ·simp only [pS]
       rfl
      refine pure_ (i := 14) (N := some 29) (v := ?_) (a' := ?_) #[T, T, T, T, T, T, T, T, T, T, T, T, T, T, T, F, F, F, F] rfl rfl (any_of HT_.out (by kernel_rfl)) (fun _ _ _ h => h) (Or.inl ⟨by rfl, ?_⟩) ?_ ?_
      rotate_left
      ·intro w'
       go_simp
       with_reducible rfl
      rotate_left
      ·simp only [pS]
       rfl
      refine pure_ (i := 15) (N := some 30) (v := ?_) (a' := ?_) #[T, T, T, T, T, T, T, T, T, T, T, T, T, T, T, T, F, F, F] rfl rfl (any_of HT_.out (by kernel_rfl)) (fun _ _ _ h => h) (Or.inl ⟨by rfl, ?_⟩) ?_ ?_
      rotate_left
      ·intro w'
       go_simp
       with_reducible rfl
      rotate_left
      ·simp only [pS]
       rfl
      refine one_ (i := 16) (N := some 5) #[T, T, T, T, T, T, T, T, T, T, T, T, T, T, T, T, T, F, F] rfl rfl (one_of HT_.out (by kernel_rfl)) (by decide) (fun K hK => ?_)
      refine box_step ?hg (N := 5) ?hd (cs := #[.int .i64 0, .int .i64 0, .int .i64 0, .int .i64 0]) (t := 46) ?hr ?_; (case hd => rfl); (case hg => rfl); (case hr => first | (go_simp; done) | (go_simp; rfl))
      intro gb253 hg w135 hbox hb
      have HS4_ := (hb.cell (World.block_lt_of_cell? _ _ (hHeld.2.2.2.2.1))).trans (hHeld.2.2.2.2.1)
      have HS5_ := (hb.cell (World.block_lt_of_cell? _ _ (hHeld.2.2.2.2.2))).trans (hHeld.2.2.2.2.2)
      have n0_ := Aside0.mk (Kd.R_below (rY HO241.out) hb)
      have n1_ := Aside0.mk (Kd.R_below (rY HO245.out) hb)
      have n2_ := Aside0.mk (blk_below (bY BK238.out) hb)
      have n3_ := Aside0.mk (below_step (by repeat (first | (with_reducible first | exact HB.out | apply below_alloc | apply pw_below_drewN | apply below_drew1 | refine below_set ?_ GE238.out) | exact HB.out)) hb)
      have n4_ := Aside0.mk (hbox)
      have n5_ := Aside0.mk ((by rw [hg]; exact (below_size (by repeat (first | (with_reducible first | exact HB.out | apply below_alloc | apply pw_below_drewN | apply below_drew1 | refine below_set ?_ GE238.out) | exact HB.out))) : w.heap.size ≤ gb253))
      have n6_ := Aside0.mk ((by rw [hg]; exact (below_size (by repeat (first | (with_reducible first | exact HB.out | apply below_alloc | apply pw_below_drewN | apply below_drew1 | refine below_set ?_ GE238.out) | exact HB.out))) : w.heap.size ≤ gb253))
      have n7_ := Aside0.mk ((by rw [hg]; exact Nat.ne_of_lt (blk_lt (bY BK238.out)) : gb238 ≠ gb253))
      have n8_ := Aside0.mk ((by rw [hg]; exact Nat.ne_of_gt (blk_lt (bY BK238.out)) : gb253 ≠ gb238))
      clear HO241
      clear HO245
      clear BK238
      clear HB
      have HO241 := n0_
      have HO245 := n1_
      have BK238 := n2_
      have HB := n3_
      have BK253 := n4_
      have GW253 := n5_
      have GE253 := n6_
      have NB238_253 := n7_
      have NB253_238 := n8_
      clear n0_ n1_ n2_ n3_ n4_ n5_ n6_ n7_ n8_
      clear hb hbox hg
      refine hK.out _ _ ⟨(blk_cell BK238.out 0).trans rfl, (blk_cell BK238.out 1).trans rfl, (blk_cell BK238.out 2).trans rfl, (blk_cell BK238.out 3).trans rfl, HS4_, HS5_⟩ (fun hHeld => ?_)
      clear hK K
      refine norm_ (a' := ?_) ?_ ?_
      rotate_left
      ·show Act.put _ (some 5) _ = _
       simp only [pS]
       rfl
      exact norm_ (by simp only [putAll, Act.put, List.setIfInBounds_toArray, List.set_cons_zero, List.set_cons_succ]) (hCont (.slice (some ado133) y243.length co133, ado133, gb253) _ ⟨hHeld, (by (repeat apply rX); exact Kd.R_mono HO241.out (fun _ hk => hk.2)), (by (repeat apply rX); exact Kd.R_mono HO245.out (fun _ hk => hk.2)), ⟨_, rfl⟩, (bY BK238.out), (bY BK253.out), GW253.out, GE253.out, NB238_253.out, NB253_238.out, (by repeat (first | (with_reducible first | exact HB.out | apply below_alloc | apply pw_below_drewN | apply below_drew1 | refine below_set ?_ GE238.out | refine below_set ?_ GE253.out) | exact HB.out))⟩)
     ·skip
      refine box_step ?hg (N := 5) ?hd (cs := #[.int .i64 0, .int .i64 0, .int .i64 0, .int .i64 0]) (t := 46) ?hr ?_; (case hd => rfl); (case hg => rfl); (case hr => first | (go_simp; done) | (go_simp; rfl))
      intro gb253 hg w134 hbox hb
      have HS4_ := (hb.cell (World.block_lt_of_cell? _ _ (hHeld.2.2.2.2.1))).trans (hHeld.2.2.2.2.1)
      have HS5_ := (hb.cell (World.block_lt_of_cell? _ _ (hHeld.2.2.2.2.2))).trans (hHeld.2.2.2.2.2)
      have n0_ := Aside0.mk (Kd.R_below (rY HO241.out) hb)
      have n1_ := Aside0.mk (Kd.R_below (rY HO245.out) hb)
      have n2_ := Aside0.mk (blk_below (bY BK238.out) hb)
      have n3_ := Aside0.mk (below_step (by repeat (first | (with_reducible first | exact HB.out | apply below_alloc | apply pw_below_drewN | apply below_drew1 | refine below_set ?_ GE238.out) | exact HB.out)) hb)
      have n4_ := Aside0.mk (hbox)
      have n5_ := Aside0.mk ((by rw [hg]; exact (below_size (by repeat (first | (with_reducible first | exact HB.out | apply below_alloc | apply pw_below_drewN | apply below_drew1 | refine below_set ?_ GE238.out) | exact HB.out))) : w.heap.size ≤ gb253))
      have n6_ := Aside0.mk ((by rw [hg]; exact (below_size (by repeat (first | (with_reducible first | exact HB.out | apply below_alloc | apply pw_below_drewN | apply below_drew1 | refine below_set ?_ GE238.out) | exact HB.out))) : w.heap.size ≤ gb253))
      have n7_ := Aside0.mk ((by rw [hg]; exact Nat.ne_of_lt (blk_lt (bY BK238.out)) : gb238 ≠ gb253))
      have n8_ := Aside0.mk ((by rw [hg]; exact Nat.ne_of_gt (blk_lt (bY BK238.out)) : gb253 ≠ gb238))
      clear HO241
      clear HO245
      clear BK238
      clear HB
      have HO241 := n0_
      have HO245 := n1_
      have BK238 := n2_
      have HB := n3_
      have BK253 := n4_
      have GW253 := n5_
      have GE253 := n6_
      have NB238_253 := n7_
      have NB253_238 := n8_
      clear n0_ n1_ n2_ n3_ n4_ n5_ n6_ n7_ n8_
      clear hb hbox hg
      refine hK.out _ _ ⟨(blk_cell BK238.out 0).trans rfl, (blk_cell BK238.out 1).trans rfl, (blk_cell BK238.out 2).trans rfl, (blk_cell BK238.out 3).trans rfl, HS4_, HS5_⟩ (fun hHeld => ?_)
      clear hK K
      refine norm_ (a' := ?_) ?_ ?_
      rotate_left
      ·show Act.put _ (some 5) _ = _
       simp only [pS]
       rfl
      refine one_ (i := 12) (N := some 28) #[T, T, T, T, T, T, T, T, T, T, T, T, T, F, F, F, T, F, F] rfl rfl (one_of HT_.out (by kernel_rfl)) (by decide) (fun K hK => ?_)
      refine goes_ Try.func25 (by kernel_rfl) rfl #[.agg #[.int .i64 t234, .int .i64 t235, .int .i64 t236, .int .i64 t237], .int .i64 (Int.tmod (rd t239 0) 7), .int .i64 (rd y243 (ji8))] (by rfl) rfl rfl (by (try simp only [List.map_toArray, List.map_cons, List.map_nil]); first | done | (simp only [hji8]; rfl) | rfl | (simp only [List.length_drop, List.length_take]; rfl)) ?_
      with_reducible refine (impl_PortStep.calls k t234 t235 t236 t237 (Int.tmod (rd t239 0) 7) (rd y243 (ji8)) t248 t249 t250 t251 false _ A11.out).mono ?_
      rintro e w135 ⟨rfl, hb⟩
      have HS4_ := (hb.cell (World.block_lt_of_cell? _ _ (hHeld.2.2.2.2.1))).trans (hHeld.2.2.2.2.1)
      have HS5_ := (hb.cell (World.block_lt_of_cell? _ _ (hHeld.2.2.2.2.2))).trans (hHeld.2.2.2.2.2)
      refine ⟨_, rfl, ?_⟩
      have n0_ := Aside0.mk (Kd.R_below (rY HO241.out) hb)
      have n1_ := Aside0.mk (Kd.R_below (rY HO245.out) hb)
      have n2_ := Aside0.mk (blk_below (bY BK238.out) hb)
      have n3_ := Aside0.mk (blk_below (bY BK253.out) hb)
      have n4_ := Aside0.mk (below_step (by repeat (first | (with_reducible first | exact HB.out | apply below_alloc | apply pw_below_drewN | apply below_drew1 | refine below_set ?_ GE238.out | refine below_set ?_ GE253.out) | exact HB.out)) hb)
      clear HO241
      clear HO245
      clear BK238
      clear BK253
      clear HB
      have HO241 := n0_
      have HO245 := n1_
      have BK238 := n2_
      have BK253 := n3_
      have HB := n4_
      clear n0_ n1_ n2_ n3_ n4_
      refine hK.out _ _ ⟨(blk_cell BK238.out 0).trans rfl, (blk_cell BK238.out 1).trans rfl, (blk_cell BK238.out 2).trans rfl, (blk_cell BK238.out 3).trans rfl, HS4_, HS5_⟩ (fun hHeld => ?_)
      clear hK K
      refine norm_ (a' := ?_) ?_ ?_
      rotate_left
      ·show Act.put _ (some 28) _ = _
       simp only [pS]
       rfl
      refine pure_ (i := 13) (N := some 15) (v := ?_) (a' := ?_) #[T, T, T, T, T, T, T, T, T, T, T, T, T, T, F, F, T, F, F] rfl rfl (any_of HT_.out (by kernel_rfl)) (fun _ _ _ h => h) (Or.inl ⟨by rfl, ?_⟩) ?_ ?_
      rotate_left
      ·intro w'
       go_simp
       with_reducible rfl
      rotate_left
      ·simp only [pS]
       rfl
      refine pure_ (i := 14) (N := some 29) (v := ?_) (a' := ?_) #[T, T, T, T, T, T, T, T, T, T, T, T, T, T, T, F, T, F, F] rfl rfl (any_of HT_.out (by kernel_rfl)) (fun _ _ _ h => h) (Or.inl ⟨by rfl, ?_⟩) ?_ ?_
      rotate_left
      ·intro w'
       go_simp
       with_reducible rfl
      rotate_left
      ·simp only [pS]
       rfl
      refine pure_ (i := 15) (N := some 30) (v := ?_) (a' := ?_) #[T, T, T, T, T, T, T, T, T, T, T, T, T, T, T, T, T, F, F] rfl rfl (any_of HT_.out (by kernel_rfl)) (fun _ _ _ h => h) (Or.inl ⟨by rfl, ?_⟩) ?_ ?_
      rotate_left
      ·intro w'
       go_simp
       with_reducible rfl
      rotate_left
      ·simp only [pS]
       rfl
      exact norm_ (by simp only [putAll, Act.put, List.setIfInBounds_toArray, List.set_cons_zero, List.set_cons_succ]) (hCont (.slice (some ado133) y243.length co133, ado133, gb253) _ ⟨hHeld, (by (repeat apply rX); exact Kd.R_mono HO241.out (fun _ hk => hk.2)), (by (repeat apply rX); exact Kd.R_mono HO245.out (fun _ hk => hk.2)), ⟨_, rfl⟩, (bY BK238.out), (bY BK253.out), GW253.out, GE253.out, NB238_253.out, NB253_238.out, (by repeat (first | (with_reducible first | exact HB.out | apply below_alloc | apply pw_below_drewN | apply below_drew1 | refine below_set ?_ GE238.out | refine below_set ?_ GE253.out) | exact HB.out))⟩)
    ·skip
     refine box_step ?hg (N := 5) ?hd (cs := #[.int .i64 0, .int .i64 0, .int .i64 0, .int .i64 0]) (t := 46) ?hr ?_; (case hd => rfl); (case hg => rfl); (case hr => first | (go_simp; done) | (go_simp; rfl))
     intro gb253 hg w134 hbox hb
     have HS4_ := (hb.cell (World.block_lt_of_cell? _ _ (hHeld.2.2.2.2.1))).trans (hHeld.2.2.2.2.1)
     have HS5_ := (hb.cell (World.block_lt_of_cell? _ _ (hHeld.2.2.2.2.2))).trans (hHeld.2.2.2.2.2)
     have n0_ := Aside0.mk (Kd.R_below (rY HO241.out) hb)
     have n1_ := Aside0.mk (Kd.R_below (rY HO245.out) hb)
     have n2_ := Aside0.mk (blk_below (bY BK238.out) hb)
     have n3_ := Aside0.mk (below_step (by repeat (first | (with_reducible first | exact HB.out | apply below_alloc | apply pw_below_drewN | apply below_drew1 | refine below_set ?_ GE238.out) | exact HB.out)) hb)
     have n4_ := Aside0.mk (hbox)
     have n5_ := Aside0.mk ((by rw [hg]; exact (below_size (by repeat (first | (with_reducible first | exact HB.out | apply below_alloc | apply pw_below_drewN | apply below_drew1 | refine below_set ?_ GE238.out) | exact HB.out))) : w.heap.size ≤ gb253))
     have n6_ := Aside0.mk ((by rw [hg]; exact (below_size (by repeat (first | (with_reducible first | exact HB.out | apply below_alloc | apply pw_below_drewN | apply below_drew1 | refine below_set ?_ GE238.out) | exact HB.out))) : w.heap.size ≤ gb253))
     have n7_ := Aside0.mk ((by rw [hg]; exact Nat.ne_of_lt (blk_lt (bY BK238.out)) : gb238 ≠ gb253))
     have n8_ := Aside0.mk ((by rw [hg]; exact Nat.ne_of_gt (blk_lt (bY BK238.out)) : gb253 ≠ gb238))
     clear HO241
     clear HO245
     clear BK238
     clear HB
     have HO241 := n0_
     have HO245 := n1_
     have BK238 := n2_
     have HB := n3_
     have BK253 := n4_
     have GW253 := n5_
     have GE253 := n6_
     have NB238_253 := n7_
     have NB253_238 := n8_
     clear n0_ n1_ n2_ n3_ n4_ n5_ n6_ n7_ n8_
     clear hb hbox hg
     refine hK.out _ _ ⟨(blk_cell BK238.out 0).trans rfl, (blk_cell BK238.out 1).trans rfl, (blk_cell BK238.out 2).trans rfl, (blk_cell BK238.out 3).trans rfl, HS4_, HS5_⟩ (fun hHeld => ?_)
     clear hK K
     refine norm_ (a' := ?_) ?_ ?_
     rotate_left
     ·show Act.put _ (some 5) _ = _
      simp only [pS]
      rfl
     refine one_ (i := 11) (N := some 27) #[T, T, T, T, T, T, T, T, T, T, T, T, F, F, F, F, T, F, F] rfl rfl (one_of HT_.out (by kernel_rfl)) (by decide) (fun K hK => ?_)
     (have p247 : 0 ≤ ((ji8) : Int) := of_decide_eq_true (by first | (with_reducible assumption) | assumption); have q247 : (ji8) < (y243.length : Int) := of_decide_eq_true (by first | (with_reducible assumption) | assumption); obtain ⟨ad247, e247, hx247_0⟩ := Kd.at_int (Kd.R_reads' HO245.out).2.2 (ji8) p247 q247; obtain rfl : ado133 = ad247 := (by injection e247))
     refine value_ (w1 := ?_) (v := ?_) (by rfl) rfl ?_ ?_
     rotate_left 2
     ·go_simp
      constructor
      ·rfl
      ·rfl
     clear hx247_0
     refine hK.out _ _ ⟨(blk_cell BK238.out 0).trans rfl, (blk_cell BK238.out 1).trans rfl, (blk_cell BK238.out 2).trans rfl, (blk_cell BK238.out 3).trans rfl, hHeld.2.2.2.2.1, hHeld.2.2.2.2.2⟩ (fun hHeld => ?_)
     clear hK K
     refine norm_ (a' := ?_) ?_ ?_
     rotate_left
     ·show Act.put _ (some 27) _ = _
      simp only [pS]
      rfl
     refine one_ (i := 12) (N := some 28) #[T, T, T, T, T, T, T, T, T, T, T, T, T, F, F, F, T, F, F] rfl rfl (one_of HT_.out (by kernel_rfl)) (by decide) (fun K hK => ?_)
     refine goes_ Try.func25 (by kernel_rfl) rfl #[.agg #[.int .i64 t234, .int .i64 t235, .int .i64 t236, .int .i64 t237], .int .i64 (Int.tmod (rd t239 0) 7), .int .i64 (rd y243 (ji8))] (by rfl) rfl rfl (by (try simp only [List.map_toArray, List.map_cons, List.map_nil]); first | done | (simp only [hji8]; rfl) | rfl | (simp only [List.length_drop, List.length_take]; rfl)) ?_
     with_reducible refine (impl_PortStep.calls k t234 t235 t236 t237 (Int.tmod (rd t239 0) 7) (rd y243 (ji8)) t248 t249 t250 t251 false _ A11.out).mono ?_
     rintro e w135 ⟨rfl, hb⟩
     have HS4_ := (hb.cell (World.block_lt_of_cell? _ _ (hHeld.2.2.2.2.1))).trans (hHeld.2.2.2.2.1)
     have HS5_ := (hb.cell (World.block_lt_of_cell? _ _ (hHeld.2.2.2.2.2))).trans (hHeld.2.2.2.2.2)
     refine ⟨_, rfl, ?_⟩
     have n0_ := Aside0.mk (Kd.R_below (rY HO241.out) hb)
     have n1_ := Aside0.mk (Kd.R_below (rY HO245.out) hb)
     have n2_ := Aside0.mk (blk_below (bY BK238.out) hb)
     have n3_ := Aside0.mk (blk_below (bY BK253.out) hb)
     have n4_ := Aside0.mk (below_step (by repeat (first | (with_reducible first | exact HB.out | apply below_alloc | apply pw_below_drewN | apply below_drew1 | refine below_set ?_ GE238.out | refine below_set ?_ GE253.out) | exact HB.out)) hb)
     clear HO241
     clear HO245
     clear BK238
     clear BK253
     clear HB
     have HO241 := n0_
     have HO245 := n1_
     have BK238 := n2_
     have BK253 := n3_
     have HB := n4_
     clear n0_ n1_ n2_ n3_ n4_
     refine hK.out _ _ ⟨(blk_cell BK238.out 0).trans rfl, (blk_cell BK238.out 1).trans rfl, (blk_cell BK238.out 2).trans rfl, (blk_cell BK238.out 3).trans rfl, HS4_, HS5_⟩ (fun hHeld => ?_)
     clear hK K
     refine norm_ (a' := ?_) ?_ ?_
     rotate_left
     ·show Act.put _ (some 28) _ = _
      simp only [pS]
      rfl
     refine pure_ (i := 13) (N := some 15) (v := ?_) (a' := ?_) #[T, T, T, T, T, T, T, T, T, T, T, T, T, T, F, F, T, F, F] rfl rfl (any_of HT_.out (by kernel_rfl)) (fun _ _ _ h => h) (Or.inl ⟨by rfl, ?_⟩) ?_ ?_
     rotate_left
     ·intro w'
      go_simp
      with_reducible rfl
     rotate_left
     ·simp only [pS]
      rfl
     refine pure_ (i := 14) (N := some 29) (v := ?_) (a' := ?_) #[T, T, T, T, T, T, T, T, T, T, T, T, T, T, T, F, T, F, F] rfl rfl (any_of HT_.out (by kernel_rfl)) (fun _ _ _ h => h) (Or.inl ⟨by rfl, ?_⟩) ?_ ?_
     rotate_left
     ·intro w'
      go_simp
      with_reducible rfl
     rotate_left
     ·simp only [pS]
      rfl
     refine pure_ (i := 15) (N := some 30) (v := ?_) (a' := ?_) #[T, T, T, T, T, T, T, T, T, T, T, T, T, T, T, T, T, F, F] rfl rfl (any_of HT_.out (by kernel_rfl)) (fun _ _ _ h => h) (Or.inl ⟨by rfl, ?_⟩) ?_ ?_
     rotate_left
     ·intro w'
      go_simp
      with_reducible rfl
     rotate_left
     ·simp only [pS]
      rfl
     exact norm_ (by simp only [putAll, Act.put, List.setIfInBounds_toArray, List.set_cons_zero, List.set_cons_succ]) (hCont (.slice (some ado133) y243.length co133, ado133, gb253) _ ⟨hHeld, (by (repeat apply rX); exact Kd.R_mono HO241.out (fun _ hk => hk.2)), (by (repeat apply rX); exact Kd.R_mono HO245.out (fun _ hk => hk.2)), ⟨_, rfl⟩, (bY BK238.out), (bY BK253.out), GW253.out, GE253.out, NB238_253.out, NB253_238.out, (by repeat (first | (with_reducible first | exact HB.out | apply below_alloc | apply pw_below_drewN | apply below_drew1 | refine below_set ?_ GE238.out | refine below_set ?_ GE253.out) | exact HB.out))⟩)
   ·skip
    refine box_step ?hg (N := 5) ?hd (cs := #[.int .i64 0, .int .i64 0, .int .i64 0, .int .i64 0]) (t := 46) ?hr ?_; (case hd => rfl); (case hg => rfl); (case hr => first | (go_simp; done) | (go_simp; rfl))
    intro gb253 hg w131 hbox hb
    have HS4_ := (hb.cell (World.block_lt_of_cell? _ _ (hHeld.2.2.2.2.1))).trans (hHeld.2.2.2.2.1)
    have HS5_ := (hb.cell (World.block_lt_of_cell? _ _ (hHeld.2.2.2.2.2))).trans (hHeld.2.2.2.2.2)
    have n0_ := Aside0.mk (Kd.R_below (rY HO241.out) hb)
    have n1_ := Aside0.mk (blk_below (bY BK238.out) hb)
    have n2_ := Aside0.mk (below_step (by repeat (first | (with_reducible first | exact HB.out | apply below_alloc | apply pw_below_drewN | apply below_drew1 | refine below_set ?_ GE238.out) | exact HB.out)) hb)
    have n3_ := Aside0.mk (hbox)
    have n4_ := Aside0.mk ((by rw [hg]; exact (below_size (by repeat (first | (with_reducible first | exact HB.out | apply below_alloc | apply pw_below_drewN | apply below_drew1 | refine below_set ?_ GE238.out) | exact HB.out))) : w.heap.size ≤ gb253))
    have n5_ := Aside0.mk ((by rw [hg]; exact (below_size (by repeat (first | (with_reducible first | exact HB.out | apply below_alloc | apply pw_below_drewN | apply below_drew1 | refine below_set ?_ GE238.out) | exact HB.out))) : w.heap.size ≤ gb253))
    have n6_ := Aside0.mk ((by rw [hg]; exact Nat.ne_of_lt (blk_lt (bY BK238.out)) : gb238 ≠ gb253))
    have n7_ := Aside0.mk ((by rw [hg]; exact Nat.ne_of_gt (blk_lt (bY BK238.out)) : gb253 ≠ gb238))
    clear HO241
    clear BK238
    clear HB
    have HO241 := n0_
    have BK238 := n1_
    have HB := n2_
    have BK253 := n3_
    have GW253 := n4_
    have GE253 := n5_
    have NB238_253 := n6_
    have NB253_238 := n7_
    clear n0_ n1_ n2_ n3_ n4_ n5_ n6_ n7_
    clear hb hbox hg
    refine hK.out _ _ ⟨(blk_cell BK238.out 0).trans rfl, (blk_cell BK238.out 1).trans rfl, (blk_cell BK238.out 2).trans rfl, (blk_cell BK238.out 3).trans rfl, HS4_, HS5_⟩ (fun hHeld => ?_)
    clear hK K
    refine norm_ (a' := ?_) ?_ ?_
    rotate_left
    ·show Act.put _ (some 5) _ = _
     simp only [pS]
     rfl
    refine one_ (i := 5) (N := some 21) #[T, T, T, T, T, T, T, T, T, T, F, F, F, F, F, F, T, F, F] rfl rfl (one_of HT_.out (by kernel_rfl)) (by decide) (fun K hK => ?_)
    refine Kd.R_lit_step (Kd.int .i64) _ 3 ?hg (N := 21) ?hd (xs := ([1, 2, 4] : List Int)) (inner := [.int .i64 1, .int .i64 2, .int .i64 4]) (ok := fun _ => True) (okp := fun _ => True) ?hr ?hp (fun _ hk => hk) trivial (Below.refl _ _) (Nat.le_refl _) (by simp) ?_; (case hd => rfl); (case hg => rfl); (case hr => first | (go_simp; done) | (go_simp; rfl)); (case hp => exact (Reps.one (show Kd.M (Kd.int .i64) _ _ _ 1 [.int .i64 1] from rfl) (Reps.one (show Kd.M (Kd.int .i64) _ _ _ 2 [.int .i64 2] from rfl) (Reps.one (show Kd.M (Kd.int .i64) _ _ _ 4 [.int .i64 4] from rfl) (Reps.none _ _)))))
    intro v244 w132 ho133 hb hg_ hnew_
    have HS4_ := (hb.cell (World.block_lt_of_cell? _ _ (hHeld.2.2.2.2.1))).trans (hHeld.2.2.2.2.1)
    have HS5_ := (hb.cell (World.block_lt_of_cell? _ _ (hHeld.2.2.2.2.2))).trans (hHeld.2.2.2.2.2)
    clear hg_ hnew_
    (first | rw [← Ny243.out] at ho133 | (simp only [Int.reduceToNat] at ho133; rw [← Ny243.out] at ho133))
    have n0_ := Aside0.mk (Kd.R_elder' (rY HO241.out) (Kd.R_base ho133) hb)
    have n1_ := Aside0.mk (Kd.R_lower (Kd.R_new' ho133 (Kd.R_lt (rY HO241.out))) (below_size (by repeat (first | (with_reducible first | exact HB.out | apply below_alloc | apply pw_below_drewN | apply below_drew1 | refine below_set ?_ GE238.out | refine below_set ?_ GE253.out) | exact HB.out))))
    have n2_ := Aside0.mk (blk_below (bY BK238.out) hb)
    have n3_ := Aside0.mk (blk_below (bY BK253.out) hb)
    have n4_ := Aside0.mk (below_step (by repeat (first | (with_reducible first | exact HB.out | apply below_alloc | apply pw_below_drewN | apply below_drew1 | refine below_set ?_ GE238.out | refine below_set ?_ GE253.out) | exact HB.out)) hb)
    clear HO241
    clear BK238
    clear BK253
    clear HB
    have HO241 := n0_
    have HO245 := n1_
    have BK238 := n2_
    have BK253 := n3_
    have HB := n4_
    clear n0_ n1_ n2_ n3_ n4_
    clear hb ho133
    obtain ⟨Ao134, co134, eo134⟩ := Kd.R_slice HO245.out
    subst eo134
    obtain ⟨ado134, fo134, _⟩ := Kd.at_int (Kd.R_reads' HO245.out).2.2 0 (by decide) (by rw [Ny243.out]; simp)
    cases fo134
    refine hK.out _ _ ⟨(blk_cell BK238.out 0).trans rfl, (blk_cell BK238.out 1).trans rfl, (blk_cell BK238.out 2).trans rfl, (blk_cell BK238.out 3).trans rfl, HS4_, HS5_⟩ (fun hHeld => ?_)
    clear hK K
    refine norm_ (a' := ?_) ?_ ?_
    rotate_left
    ·show Act.put _ (some 21) _ = _
     simp only [pS]
     rfl
    refine pure_ (i := 10) (N := some 26) (v := ?_) (a' := ?_) #[T, T, T, T, T, T, T, T, T, T, T, F, F, F, F, F, T, F, F] rfl rfl (any_of HT_.out (by kernel_rfl)) (fun _ _ _ h => h) (Or.inl ⟨by rfl, ?_⟩) ?_ ?_
    rotate_left
    ·intro w'
     go_simp
     with_reducible rfl
    rotate_left
    ·simp only [pS]
     rfl
    refine one_ (i := 11) (N := some 27) #[T, T, T, T, T, T, T, T, T, T, T, T, F, F, F, F, T, F, F] rfl rfl (one_of HT_.out (by kernel_rfl)) (by decide) (fun K hK => ?_)
    (have p247 : 0 ≤ ((ji8) : Int) := of_decide_eq_true (by first | (with_reducible assumption) | assumption); have q247 : (ji8) < (y243.length : Int) := of_decide_eq_true (by first | (with_reducible assumption) | assumption); obtain ⟨ad247, e247, hx247_0⟩ := Kd.at_int (Kd.R_reads' HO245.out).2.2 (ji8) p247 q247; obtain rfl : ado134 = ad247 := (by injection e247))
    refine value_ (w1 := ?_) (v := ?_) (by rfl) rfl ?_ ?_
    rotate_left 2
    ·go_simp
     constructor
     ·rfl
     ·rfl
    clear hx247_0
    refine hK.out _ _ ⟨(blk_cell BK238.out 0).trans rfl, (blk_cell BK238.out 1).trans rfl, (blk_cell BK238.out 2).trans rfl, (blk_cell BK238.out 3).trans rfl, hHeld.2.2.2.2.1, hHeld.2.2.2.2.2⟩ (fun hHeld => ?_)
    clear hK K
    refine norm_ (a' := ?_) ?_ ?_
    rotate_left
    ·show Act.put _ (some 27) _ = _
     simp only [pS]
     rfl
    refine one_ (i := 12) (N := some 28) #[T, T, T, T, T, T, T, T, T, T, T, T, T, F, F, F, T, F, F] rfl rfl (one_of HT_.out (by kernel_rfl)) (by decide) (fun K hK => ?_)
    refine goes_ Try.func25 (by kernel_rfl) rfl #[.agg #[.int .i64 t234, .int .i64 t235, .int .i64 t236, .int .i64 t237], .int .i64 (Int.tmod (rd t239 0) 7), .int .i64 (rd y243 (ji8))] (by rfl) rfl rfl (by (try simp only [List.map_toArray, List.map_cons, List.map_nil]); first | done | (simp only [hji8]; rfl) | rfl | (simp only [List.length_drop, List.length_take]; rfl)) ?_
    with_reducible refine (impl_PortStep.calls k t234 t235 t236 t237 (Int.tmod (rd t239 0) 7) (rd y243 (ji8)) t248 t249 t250 t251 false _ A11.out).mono ?_
    rintro e w135 ⟨rfl, hb⟩
    have HS4_ := (hb.cell (World.block_lt_of_cell? _ _ (hHeld.2.2.2.2.1))).trans (hHeld.2.2.2.2.1)
    have HS5_ := (hb.cell (World.block_lt_of_cell? _ _ (hHeld.2.2.2.2.2))).trans (hHeld.2.2.2.2.2)
    refine ⟨_, rfl, ?_⟩
    have n0_ := Aside0.mk (Kd.R_below (rY HO241.out) hb)
    have n1_ := Aside0.mk (Kd.R_below (rY HO245.out) hb)
    have n2_ := Aside0.mk (blk_below (bY BK238.out) hb)
    have n3_ := Aside0.mk (blk_below (bY BK253.out) hb)
    have n4_ := Aside0.mk (below_step (by repeat (first | (with_reducible first | exact HB.out | apply below_alloc | apply pw_below_drewN | apply below_drew1 | refine below_set ?_ GE238.out | refine below_set ?_ GE253.out) | exact HB.out)) hb)
    clear HO241
    clear HO245
    clear BK238
    clear BK253
    clear HB
    have HO241 := n0_
    have HO245 := n1_
    have BK238 := n2_
    have BK253 := n3_
    have HB := n4_
    clear n0_ n1_ n2_ n3_ n4_
    refine hK.out _ _ ⟨(blk_cell BK238.out 0).trans rfl, (blk_cell BK238.out 1).trans rfl, (blk_cell BK238.out 2).trans rfl, (blk_cell BK238.out 3).trans rfl, HS4_, HS5_⟩ (fun hHeld => ?_)
    clear hK K
    refine norm_ (a' := ?_) ?_ ?_
    rotate_left
    ·show Act.put _ (some 28) _ = _
     simp only [pS]
     rfl
    refine pure_ (i := 13) (N := some 15) (v := ?_) (a' := ?_) #[T, T, T, T, T, T, T, T, T, T, T, T, T, T, F, F, T, F, F] rfl rfl (any_of HT_.out (by kernel_rfl)) (fun _ _ _ h => h) (Or.inl ⟨by rfl, ?_⟩) ?_ ?_
    rotate_left
    ·intro w'
     go_simp
     with_reducible rfl
    rotate_left
    ·simp only [pS]
     rfl
    refine pure_ (i := 14) (N := some 29) (v := ?_) (a' := ?_) #[T, T, T, T, T, T, T, T, T, T, T, T, T, T, T, F, T, F, F] rfl rfl (any_of HT_.out (by kernel_rfl)) (fun _ _ _ h => h) (Or.inl ⟨by rfl, ?_⟩) ?_ ?_
    rotate_left
    ·intro w'
     go_simp
     with_reducible rfl
    rotate_left
    ·simp only [pS]
     rfl
    refine pure_ (i := 15) (N := some 30) (v := ?_) (a' := ?_) #[T, T, T, T, T, T, T, T, T, T, T, T, T, T, T, T, T, F, F] rfl rfl (any_of HT_.out (by kernel_rfl)) (fun _ _ _ h => h) (Or.inl ⟨by rfl, ?_⟩) ?_ ?_
    rotate_left
    ·intro w'
     go_simp
     with_reducible rfl
    rotate_left
    ·simp only [pS]
     rfl
    exact norm_ (by simp only [putAll, Act.put, List.setIfInBounds_toArray, List.set_cons_zero, List.set_cons_succ]) (hCont (.slice (some ado134) y243.length co134, ado134, gb253) _ ⟨hHeld, (by (repeat apply rX); exact Kd.R_mono HO241.out (fun _ hk => hk.2)), (by (repeat apply rX); exact Kd.R_mono HO245.out (fun _ hk => hk.2)), ⟨_, rfl⟩, (bY BK238.out), (bY BK253.out), GW253.out, GE253.out, NB238_253.out, NB253_238.out, (by repeat (first | (with_reducible first | exact HB.out | apply below_alloc | apply pw_below_drewN | apply below_drew1 | refine below_set ?_ GE238.out | refine below_set ?_ GE253.out) | exact HB.out))⟩)
  rintro ⟨v244, adz_v244, gb253⟩ w136 ⟨hS_, h0_, h1_, h2_, h3_, h4_, h5_, h6_, h7_, h8_, h9_⟩
  have n0_ : Aside0 (Kd.R (Kd.int .i64) 3 w136 w.heap.size (fun k_ => some k_ ≠ (v244 : Value).ownBlock) (.slice (some ad242) t239.length co130) t239) := ⟨h0_⟩
  have n1_ : Aside0 (Kd.R (Kd.int .i64) 3 w136 w.heap.size (fun k_ => some k_ ≠ (.slice (some ad242) t239.length co130 : Value).ownBlock) v244 y243) := ⟨h1_⟩
  have n2_ : Aside0 (∃ c_, (v244 : Value) = .slice (some adz_v244) y243.length c_) := ⟨h2_⟩
  have n3_ : Aside0 (w136.heap[gb238]? = some (.cells #[.int .i64 t234, .int .i64 t235, .int .i64 t236, .int .i64 t237] 46 (0, 0))) := ⟨h3_⟩
  have n4_ : Aside0 (w136.heap[gb253]? = some (.cells #[.int .i64 0, .int .i64 0, .int .i64 0, .int .i64 0] 46 (0, 0))) := ⟨h4_⟩
  have n5_ : Aside0 (w.heap.size ≤ gb253) := ⟨h5_⟩
  have n6_ : Aside0 (w.heap.size ≤ gb253) := ⟨h6_⟩
  have n7_ : Aside0 (gb238 ≠ gb253) := ⟨h7_⟩
  have n8_ : Aside0 (gb253 ≠ gb238) := ⟨h8_⟩
  have n9_ : Aside0 (Below w.heap.size w w136) := ⟨h9_⟩
  clear HO241
  clear BK238
  clear HB
  clear h0_ h1_ h2_ h3_ h4_ h5_ h6_ h7_ h8_ h9_
  have HO241 := n0_
  have HO245 := n1_
  have HA_HO245 := n2_
  have BK238 := n3_
  have BK253 := n4_
  have GW253 := n5_
  have GE253 := n6_
  have NB238_253 := n7_
  have NB253_238 := n8_
  have HB := n9_
  clear n0_ n1_ n2_ n3_ n4_ n5_ n6_ n7_ n8_ n9_
  have hHeld : w136.cell? ⟨gb238, 0, none⟩ = some (.int .i64 t234) ∧ w136.cell? ⟨gb238, 1, none⟩ = some (.int .i64 t235) ∧ w136.cell? ⟨gb238, 2, none⟩ = some (.int .i64 t236) ∧ w136.cell? ⟨gb238, 3, none⟩ = some (.int .i64 t237) ∧ w136.cell? ad242 = some (.int .i64 (rd t239 0)) ∧ w136.cell? ⟨ad242.block, ad242.off + 1, none⟩ = some (.int .i64 (rd t239 1)) := hS_
  obtain ⟨co137, eo137⟩ := HA_HO245.out
  clear HA_HO245
  subst eo137
  refine norm_ (a' := ?_) ?_ ?_
  rotate_left
  ·simp only [putAll, Act.put, List.setIfInBounds_toArray, List.set_cons_zero, List.set_cons_succ]
   rfl
  refine one_ (i := 17) (N := none) #[T, T, T, T, T, T, T, T, T, T, T, T, T, T, T, T, T, T, F] rfl rfl (one_of HT_.out (by kernel_rfl)) (by decide) (fun K hK => ?_)
  have hs138 : w136.cell? ⟨gb253, 0, none⟩ = some (.int .i64 0) := (blk_cell BK253.out 0).trans rfl
  have hfs138 := blk_frozen BK253.out 0
  have hns138_0 := NB238_253.out
  have hms138_0 := NB253_238.out
  have hs139 : w136.cell? ⟨gb253, 1, none⟩ = some (.int .i64 0) := (blk_cell BK253.out 1).trans rfl
  have hfs139 := blk_frozen BK253.out 1
  have hns139_0 := NB238_253.out
  have hms139_0 := NB253_238.out
  have hs140 : w136.cell? ⟨gb253, 2, none⟩ = some (.int .i64 0) := (blk_cell BK253.out 2).trans rfl
  have hfs140 := blk_frozen BK253.out 2
  have hns140_0 := NB238_253.out
  have hms140_0 := NB253_238.out
  have hs141 : w136.cell? ⟨gb253, 3, none⟩ = some (.int .i64 0) := (blk_cell BK253.out 3).trans rfl
  have hfs141 := blk_frozen BK253.out 3
  have hns141_0 := NB238_253.out
  have hms141_0 := NB253_238.out
  refine skip_ (w1 := ?_) (by rfl) rfl ?_ ?_
  rotate_left
  ·go_simp
   rfl
  refine hK.out _ _ ⟨((cell_far (p := ⟨gb253, _, none⟩) NB238_253.out _).trans (((cell_far (p := ⟨gb253, _, none⟩) NB238_253.out _).trans (((cell_far (p := ⟨gb253, _, none⟩) NB238_253.out _).trans (((cell_far (p := ⟨gb253, _, none⟩) NB238_253.out _).trans (hHeld.1)))))))), ((cell_far (p := ⟨gb253, _, none⟩) NB238_253.out _).trans (((cell_far (p := ⟨gb253, _, none⟩) NB238_253.out _).trans (((cell_far (p := ⟨gb253, _, none⟩) NB238_253.out _).trans (((cell_far (p := ⟨gb253, _, none⟩) NB238_253.out _).trans (hHeld.2.1)))))))), ((cell_far (p := ⟨gb253, _, none⟩) NB238_253.out _).trans (((cell_far (p := ⟨gb253, _, none⟩) NB238_253.out _).trans (((cell_far (p := ⟨gb253, _, none⟩) NB238_253.out _).trans (((cell_far (p := ⟨gb253, _, none⟩) NB238_253.out _).trans (hHeld.2.2.1)))))))), ((cell_far (p := ⟨gb253, _, none⟩) NB238_253.out _).trans (((cell_far (p := ⟨gb253, _, none⟩) NB238_253.out _).trans (((cell_far (p := ⟨gb253, _, none⟩) NB238_253.out _).trans (((cell_far (p := ⟨gb253, _, none⟩) NB238_253.out _).trans (hHeld.2.2.2.1)))))))), ((cell_far (p := ⟨gb253, _, none⟩) (by have e_ := Kd.own_blk (Kd.R_ne HO241.out BK253.out (by decide)); first | exact e_ | (rw [add_block]; exact e_) | (dsimp only; exact e_)) _).trans (((cell_far (p := ⟨gb253, _, none⟩) (by have e_ := Kd.own_blk (Kd.R_ne HO241.out BK253.out (by decide)); first | exact e_ | (rw [add_block]; exact e_) | (dsimp only; exact e_)) _).trans (((cell_far (p := ⟨gb253, _, none⟩) (by have e_ := Kd.own_blk (Kd.R_ne HO241.out BK253.out (by decide)); first | exact e_ | (rw [add_block]; exact e_) | (dsimp only; exact e_)) _).trans (((cell_far (p := ⟨gb253, _, none⟩) (by have e_ := Kd.own_blk (Kd.R_ne HO241.out BK253.out (by decide)); first | exact e_ | (rw [add_block]; exact e_) | (dsimp only; exact e_)) _).trans (hHeld.2.2.2.2.1)))))))), ((cell_far (p := ⟨gb253, _, none⟩) (by have e_ := Kd.own_blk (Kd.R_ne HO241.out BK253.out (by decide)); first | exact e_ | (rw [add_block]; exact e_) | (dsimp only; exact e_)) _).trans (((cell_far (p := ⟨gb253, _, none⟩) (by have e_ := Kd.own_blk (Kd.R_ne HO241.out BK253.out (by decide)); first | exact e_ | (rw [add_block]; exact e_) | (dsimp only; exact e_)) _).trans (((cell_far (p := ⟨gb253, _, none⟩) (by have e_ := Kd.own_blk (Kd.R_ne HO241.out BK253.out (by decide)); first | exact e_ | (rw [add_block]; exact e_) | (dsimp only; exact e_)) _).trans (((cell_far (p := ⟨gb253, _, none⟩) (by have e_ := Kd.own_blk (Kd.R_ne HO241.out BK253.out (by decide)); first | exact e_ | (rw [add_block]; exact e_) | (dsimp only; exact e_)) _).trans (hHeld.2.2.2.2.2))))))))⟩ (fun hHeld => ?_)
  clear hK K
  refine pure_ (i := 18) (N := some 6) (v := ?_) (a' := ?_) #[T, T, T, T, T, T, T, T, T, T, T, T, T, T, T, T, T, T, T] rfl rfl (any_of HT_.out (by kernel_rfl)) (fun _ _ _ h => h) (Or.inl ⟨by rfl, ?_⟩) ?_ ?_
  rotate_left
  ·intro w'
   go_simp
   with_reducible rfl
  rotate_left
  ·simp only [pS]
   rfl
  refine done_ (done_of HT_.out (by kernel_rfl)) ?_
  have hnb142 := NB238_253.out
  have hnc142 := NB253_238.out
  have hcz143_0 : w136.cell? ⟨gb238, 0, none⟩ = some (.int .i64 t234) := (blk_cell BK238.out 0).trans rfl
  have hcz143_1 : w136.cell? ⟨gb238, 1, none⟩ = some (.int .i64 t235) := (blk_cell BK238.out 1).trans rfl
  have hcz143_2 : w136.cell? ⟨gb238, 2, none⟩ = some (.int .i64 t236) := (blk_cell BK238.out 2).trans rfl
  have hcz143_3 : w136.cell? ⟨gb238, 3, none⟩ = some (.int .i64 t237) := (blk_cell BK238.out 3).trans rfl
  have hfz143_0 := blk_frozen BK238.out 0
  have hfz143_1 := blk_frozen BK238.out 1
  have hfz143_2 := blk_frozen BK238.out 2
  have hfz143_3 := blk_frozen BK238.out 3
  try go_wp2_with (first | ((with_reducible refine gate_callee (f := 25) rfl ?_); refine goesL_ (some 33) rfl rfl Try.func25 (by kernel_rfl) rfl #[.agg #[.int .i64 t234, .int .i64 t235, .int .i64 t236, .int .i64 t237], .int .i64 4, .int .i64 1] rfl (by (try simp only [List.map_toArray, List.map_cons, List.map_nil]); first | done | rfl) ?_; (with_reducible refine (impl_PortStep.calls k t234 t235 t236 t237 4 1 t254 t255 t256 t257 false _ A12.out).mono ?_); rintro e w144 ⟨rfl, hb⟩; refine ⟨_, rfl, ?_⟩; have n0_ := Aside0.mk (Kd.R_below (by (repeat apply rX); exact (Kd.R_mono (Kd.R_far (p := ⟨gb253, 3, none⟩) (Kd.R_far (p := ⟨gb253, 2, none⟩) (Kd.R_far (p := ⟨gb253, 1, none⟩) (Kd.R_far (p := ⟨gb253, 0, none⟩) (Kd.R_types HO241.out BK253.out (by decide)) (fun _ hk => hk.2) (.int .i64 t248)) (fun _ hk => hk.2) (.int .i64 t249)) (fun _ hk => hk.2) (.int .i64 t250)) (fun _ hk => hk.2) (.int .i64 t251)) (fun _ h_ => h_.1))) hb); have n1_ := Aside0.mk (Kd.R_below (by (repeat apply rX); exact (Kd.R_mono (Kd.R_far (p := ⟨gb253, 3, none⟩) (Kd.R_far (p := ⟨gb253, 2, none⟩) (Kd.R_far (p := ⟨gb253, 1, none⟩) (Kd.R_far (p := ⟨gb253, 0, none⟩) (Kd.R_types HO245.out BK253.out (by decide)) (fun _ hk => hk.2) (.int .i64 t248)) (fun _ hk => hk.2) (.int .i64 t249)) (fun _ hk => hk.2) (.int .i64 t250)) (fun _ hk => hk.2) (.int .i64 t251)) (fun _ h_ => h_.1))) hb); have n2_ := Aside0.mk (blk_below (g := gb238) (o := .cells #[.int .i64 t234, .int .i64 t235, .int .i64 t236, .int .i64 t237] 46 (0, 0)) (by (repeat apply bX); refine blk_far ?_ NB238_253.out _; (repeat apply bX); refine blk_far ?_ NB238_253.out _; (repeat apply bX); refine blk_far ?_ NB238_253.out _; (repeat apply bX); refine blk_far ?_ NB238_253.out _; (repeat apply bX); exact BK238.out) hb); have n3_ := Aside0.mk (blk_below (g := gb253) (o := .cells #[.int .i64 t248, .int .i64 t249, .int .i64 t250, .int .i64 t251] 46 (0, 0)) (by (repeat apply bX); refine blk_put (cs := #[.int .i64 t248, .int .i64 t249, .int .i64 t250, .int .i64 0]) ?_ 3 _ rfl; (repeat apply bX); refine blk_put (cs := #[.int .i64 t248, .int .i64 t249, .int .i64 0, .int .i64 0]) ?_ 2 _ rfl; (repeat apply bX); refine blk_put (cs := #[.int .i64 t248, .int .i64 0, .int .i64 0, .int .i64 0]) ?_ 1 _ rfl; (repeat apply bX); refine blk_put (cs := #[.int .i64 0, .int .i64 0, .int .i64 0, .int .i64 0]) ?_ 0 _ rfl; (repeat apply bX); exact BK253.out) hb); have n4_ := Aside0.mk (below_step (by repeat (first | (with_reducible first | exact HB.out | apply below_alloc | apply pw_below_drewN | apply below_drew1 | refine below_set ?_ GE238.out | refine below_set ?_ GE253.out) | exact HB.out)) hb); clear HO241; clear HO245; clear BK238; clear BK253; clear HB; have HO241 := n0_; have HO245 := n1_; have BK238 := n2_; have BK253 := n3_; have HB := n4_; clear n0_ n1_ n2_ n3_ n4_; (try clear hb); (try clear hb2); (try clear hk); (try clear hi)) | ((with_reducible refine gate_dst (N := 7) rfl ?_); refine box_event ?hg (N := 7) ?hd (cs := #[.int .i64 0, .int .i64 0, .int .i64 0, .int .i64 0]) (t := 46) ?hr ?_; (case hd => rfl); (case hg => rfl); (case hr => first | (go_simp; done) | (go_simp; rfl)); intro gb259 hg w145 hbox hb; have n0_ := Aside0.mk (Kd.R_below (rY HO241.out) hb); have n1_ := Aside0.mk (Kd.R_below (rY HO245.out) hb); have n2_ := Aside0.mk (blk_below (bY BK238.out) hb); have n3_ := Aside0.mk (blk_below (bY BK253.out) hb); have n4_ := Aside0.mk (below_step (by repeat (first | (with_reducible first | exact HB.out | apply below_alloc | apply pw_below_drewN | apply below_drew1 | refine below_set ?_ GE238.out | refine below_set ?_ GE253.out) | exact HB.out)) hb); have n5_ := Aside0.mk (hbox); have n6_ := Aside0.mk ((by rw [hg]; exact (below_size (by repeat (first | (with_reducible first | exact HB.out | apply below_alloc | apply pw_below_drewN | apply below_drew1 | refine below_set ?_ GE238.out | refine below_set ?_ GE253.out) | exact HB.out))) : w.heap.size ≤ gb259)); have n7_ := Aside0.mk ((by rw [hg]; exact (below_size (by repeat (first | (with_reducible first | exact HB.out | apply below_alloc | apply pw_below_drewN | apply below_drew1 | refine below_set ?_ GE238.out | refine below_set ?_ GE253.out) | exact HB.out))) : w.heap.size ≤ gb259)); have n8_ := Aside0.mk ((by rw [hg]; exact Nat.ne_of_lt (blk_lt (bY BK238.out)) : gb238 ≠ gb259)); have n9_ := Aside0.mk ((by rw [hg]; exact Nat.ne_of_gt (blk_lt (bY BK238.out)) : gb259 ≠ gb238)); have n10_ := Aside0.mk ((by rw [hg]; exact Nat.ne_of_lt (blk_lt (bY BK253.out)) : gb253 ≠ gb259)); have n11_ := Aside0.mk ((by rw [hg]; exact Nat.ne_of_gt (blk_lt (bY BK253.out)) : gb259 ≠ gb253)); clear HO241; clear HO245; clear BK238; clear BK253; clear HB; have HO241 := n0_; have HO245 := n1_; have BK238 := n2_; have BK253 := n3_; have HB := n4_; have BK259 := n5_; have GW259 := n6_; have GE259 := n7_; have NB238_259 := n8_; have NB259_238 := n9_; have NB253_259 := n10_; have NB259_253 := n11_; clear n0_ n1_ n2_ n3_ n4_ n5_ n6_ n7_ n8_ n9_ n10_ n11_; clear hb hbox hg; have hnb146 := NB259_238.out; have hnc146 := NB238_259.out; have hnb147 := NB259_253.out; have hnc147 := NB253_259.out; have hcz148_0 : w145.cell? ⟨gb259, 0, none⟩ = some (.int .i64 0) := (blk_cell BK259.out 0).trans rfl; have hcz148_1 : w145.cell? ⟨gb259, 1, none⟩ = some (.int .i64 0) := (blk_cell BK259.out 1).trans rfl; have hcz148_2 : w145.cell? ⟨gb259, 2, none⟩ = some (.int .i64 0) := (blk_cell BK259.out 2).trans rfl; have hcz148_3 : w145.cell? ⟨gb259, 3, none⟩ = some (.int .i64 0) := (blk_cell BK259.out 3).trans rfl; have hfz148_0 := blk_frozen BK259.out 0; have hfz148_1 := blk_frozen BK259.out 1; have hfz148_2 := blk_frozen BK259.out 2; have hfz148_3 := blk_frozen BK259.out 3; have hcz149_0 : w145.cell? ⟨gb238, 0, none⟩ = some (.int .i64 t234) := (blk_cell BK238.out 0).trans rfl; have hcz149_1 : w145.cell? ⟨gb238, 1, none⟩ = some (.int .i64 t235) := (blk_cell BK238.out 1).trans rfl; have hcz149_2 : w145.cell? ⟨gb238, 2, none⟩ = some (.int .i64 t236) := (blk_cell BK238.out 2).trans rfl; have hcz149_3 : w145.cell? ⟨gb238, 3, none⟩ = some (.int .i64 t237) := (blk_cell BK238.out 3).trans rfl; have hfz149_0 := blk_frozen BK238.out 0; have hfz149_1 := blk_frozen BK238.out 1; have hfz149_2 := blk_frozen BK238.out 2; have hfz149_3 := blk_frozen BK238.out 3) | ((with_reducible refine gate_callee (f := 26) rfl ?_); refine goesL_ (some 37) rfl rfl Try.func26 (by kernel_rfl) rfl #[.agg #[.int .i64 t234, .int .i64 t235, .int .i64 t236, .int .i64 t237]] rfl (by (try simp only [List.map_toArray, List.map_cons, List.map_nil]); first | done | rfl) ?_; (with_reducible refine (impl_PortOk.calls k t234 t235 t236 t237 true _ A13.out).mono ?_); rintro e w150 ⟨rfl, hb⟩; refine ⟨_, rfl, ?_⟩; have n0_ := Aside0.mk (Kd.R_below (by (repeat apply rX); exact (Kd.R_mono (Kd.R_far (p := ⟨gb259, 3, none⟩) (Kd.R_far (p := ⟨gb259, 2, none⟩) (Kd.R_far (p := ⟨gb259, 1, none⟩) (Kd.R_far (p := ⟨gb259, 0, none⟩) (Kd.R_types HO241.out BK259.out (by decide)) (fun _ hk => hk.2) (.int .i64 t254)) (fun _ hk => hk.2) (.int .i64 t255)) (fun _ hk => hk.2) (.int .i64 t256)) (fun _ hk => hk.2) (.int .i64 t257)) (fun _ h_ => h_.1))) hb); have n1_ := Aside0.mk (Kd.R_below (by (repeat apply rX); exact (Kd.R_mono (Kd.R_far (p := ⟨gb259, 3, none⟩) (Kd.R_far (p := ⟨gb259, 2, none⟩) (Kd.R_far (p := ⟨gb259, 1, none⟩) (Kd.R_far (p := ⟨gb259, 0, none⟩) (Kd.R_types HO245.out BK259.out (by decide)) (fun _ hk => hk.2) (.int .i64 t254)) (fun _ hk => hk.2) (.int .i64 t255)) (fun _ hk => hk.2) (.int .i64 t256)) (fun _ hk => hk.2) (.int .i64 t257)) (fun _ h_ => h_.1))) hb); have n2_ := Aside0.mk (blk_below (g := gb238) (o := .cells #[.int .i64 t234, .int .i64 t235, .int .i64 t236, .int .i64 t237] 46 (0, 0)) (by (repeat apply bX); refine blk_far ?_ NB238_259.out _; (repeat apply bX); refine blk_far ?_ NB238_259.out _; (repeat apply bX); refine blk_far ?_ NB238_259.out _; (repeat apply bX); refine blk_far ?_ NB238_259.out _; (repeat apply bX); exact BK238.out) hb); have n3_ := Aside0.mk (blk_below (g := gb253) (o := .cells #[.int .i64 t248, .int .i64 t249, .int .i64 t250, .int .i64 t251] 46 (0, 0)) (by (repeat apply bX); refine blk_far ?_ NB253_259.out _; (repeat apply bX); refine blk_far ?_ NB253_259.out _; (repeat apply bX); refine blk_far ?_ NB253_259.out _; (repeat apply bX); refine blk_far ?_ NB253_259.out _; (repeat apply bX); exact BK253.out) hb); have n4_ := Aside0.mk (blk_below (g := gb259) (o := .cells #[.int .i64 t254, .int .i64 t255, .int .i64 t256, .int .i64 t257] 46 (0, 0)) (by (repeat apply bX); refine blk_put (cs := #[.int .i64 t254, .int .i64 t255, .int .i64 t256, .int .i64 0]) ?_ 3 _ rfl; (repeat apply bX); refine blk_put (cs := #[.int .i64 t254, .int .i64 t255, .int .i64 0, .int .i64 0]) ?_ 2 _ rfl; (repeat apply bX); refine blk_put (cs := #[.int .i64 t254, .int .i64 0, .int .i64 0, .int .i64 0]) ?_ 1 _ rfl; (repeat apply bX); refine blk_put (cs := #[.int .i64 0, .int .i64 0, .int .i64 0, .int .i64 0]) ?_ 0 _ rfl; (repeat apply bX); exact BK259.out) hb); have n5_ := Aside0.mk (below_step (by repeat (first | (with_reducible first | exact HB.out | apply below_alloc | apply pw_below_drewN | apply below_drew1 | refine below_set ?_ GE238.out | refine below_set ?_ GE253.out | refine below_set ?_ GE259.out) | exact HB.out)) hb); clear HO241; clear HO245; clear BK238; clear BK253; clear BK259; clear HB; have HO241 := n0_; have HO245 := n1_; have BK238 := n2_; have BK253 := n3_; have BK259 := n4_; have HB := n5_; clear n0_ n1_ n2_ n3_ n4_ n5_; (try clear hb); (try clear hb2); (try clear hk); (try clear hi); have hcz151_0 : w150.cell? ⟨gb253, 0, none⟩ = some (.int .i64 t248) := (blk_cell BK253.out 0).trans rfl; have hcz151_1 : w150.cell? ⟨gb253, 1, none⟩ = some (.int .i64 t249) := (blk_cell BK253.out 1).trans rfl; have hcz151_2 : w150.cell? ⟨gb253, 2, none⟩ = some (.int .i64 t250) := (blk_cell BK253.out 2).trans rfl; have hcz151_3 : w150.cell? ⟨gb253, 3, none⟩ = some (.int .i64 t251) := (blk_cell BK253.out 3).trans rfl; have hfz151_0 := blk_frozen BK253.out 0; have hfz151_1 := blk_frozen BK253.out 1; have hfz151_2 := blk_frozen BK253.out 2; have hfz151_3 := blk_frozen BK253.out 3) | (go_at_call 26; (with_reducible refine (impl_PortOk.calls k t248 t249 t250 t251 true _ A15.out).mono ?_); rintro e w152 ⟨rfl, hb⟩; have n0_ := Aside0.mk (Kd.R_below (rY HO241.out) hb); have n1_ := Aside0.mk (Kd.R_below (rY HO245.out) hb); have n2_ := Aside0.mk (blk_below (bY BK238.out) hb); have n3_ := Aside0.mk (blk_below (bY BK253.out) hb); have n4_ := Aside0.mk (blk_below (bY BK259.out) hb); have n5_ := Aside0.mk (below_step (by repeat (first | (with_reducible first | exact HB.out | apply below_alloc | apply pw_below_drewN | apply below_drew1 | refine below_set ?_ GE238.out | refine below_set ?_ GE253.out | refine below_set ?_ GE259.out) | exact HB.out)) hb); clear HO241; clear HO245; clear BK238; clear BK253; clear BK259; clear HB; have HO241 := n0_; have HO245 := n1_; have BK238 := n2_; have BK253 := n3_; have BK259 := n4_; have HB := n5_; clear n0_ n1_ n2_ n3_ n4_ n5_; (try clear hb); (try clear hb2); (try clear hk); (try clear hi); have hcz153_0 : w152.cell? ⟨gb253, 0, none⟩ = some (.int .i64 t248) := (blk_cell BK253.out 0).trans rfl; have hcz153_1 : w152.cell? ⟨gb253, 1, none⟩ = some (.int .i64 t249) := (blk_cell BK253.out 1).trans rfl; have hcz153_2 : w152.cell? ⟨gb253, 2, none⟩ = some (.int .i64 t250) := (blk_cell BK253.out 2).trans rfl; have hcz153_3 : w152.cell? ⟨gb253, 3, none⟩ = some (.int .i64 t251) := (blk_cell BK253.out 3).trans rfl; have hfz153_0 := blk_frozen BK253.out 0; have hfz153_1 := blk_frozen BK253.out 1; have hfz153_2 := blk_frozen BK253.out 2; have hfz153_3 := blk_frozen BK253.out 3; have hcz154_0 : w152.cell? ⟨gb238, 0, none⟩ = some (.int .i64 t234) := (blk_cell BK238.out 0).trans rfl; have hcz154_1 : w152.cell? ⟨gb238, 1, none⟩ = some (.int .i64 t235) := (blk_cell BK238.out 1).trans rfl; have hcz154_2 : w152.cell? ⟨gb238, 2, none⟩ = some (.int .i64 t236) := (blk_cell BK238.out 2).trans rfl; have hcz154_3 : w152.cell? ⟨gb238, 3, none⟩ = some (.int .i64 t237) := (blk_cell BK238.out 3).trans rfl; have hfz154_0 := blk_frozen BK238.out 0; have hfz154_1 := blk_frozen BK238.out 1; have hfz154_2 := blk_frozen BK238.out 2; have hfz154_3 := blk_frozen BK238.out 3) | (go_at_call 27; (with_reducible refine (impl_StateName.calls t234 t265 _ A124.out).mono ?_); rintro e w' ⟨rfl, ⟨nd, rfl⟩⟩))
  go_ret
  exact ⟨by first | rfl | (generalize t265.toList = z_; cases z_ <;> first | rfl | (simp; done)) | (simp [errW_none, errW_some] <;> rfl) | (simp only [← hji8]; first | rfl | (simp [errW_none, errW_some] <;> rfl)) | (simp [*, errW_none, errW_some] <;> rfl), by repeat (first | (with_reducible first | exact HB.out | apply below_alloc | apply pw_below_drewN | apply below_drew1 | refine below_set ?_ GE238.out | refine below_set ?_ GE253.out | refine below_set ?_ GE259.out) | exact HB.out)⟩
  all_goals (exfalso; rename_i hn_; simp only [Bool.and_eq_true, beq_iff_eq] at c86b0; exact hn_ ⟨c86b0.1, c86b0.2.1, c86b0.2.2.2⟩)
 subst c89
 have H1 : (if t254 = 0 then (if t255 = 0 then ((impl_StateName.f t234).bind fun t264 => (some (t264.toList != ([] : List UInt8)))) else (some false)) else (some false)) = some r := by rw [if_pos rfl] at H; exact H
 clear H
 have H := H1
 clear H1
 by_cases c90 : t254 = 0
 rotate_left
 ·rw [if_neg c90] at H
  have c90b0 : (t254 == 0) = false := beq_eq_false_iff_ne.mpr c90
  have c90b1 : (t254 != 0) = true := bne_iff_ne.mpr c90
  exact absurd (H.trans (congrArg some hrt.out)) (by simp)
 rw [if_pos c90] at H
 have c90b0 : (t254 == 0) = true := beq_iff_eq.mpr c90
 have c90b1 : (t254 != 0) = false := bne_eq_false_iff_eq.mpr c90
 clear c90
 by_cases c91 : t255 = 0
 rotate_left
 ·rw [if_neg c91] at H
  have c91b0 : (t255 == 0) = false := beq_eq_false_iff_ne.mpr c91
  have c91b1 : (t255 != 0) = true := bne_iff_ne.mpr c91
  exact absurd (H.trans (congrArg some hrt.out)) (by simp)
 rw [if_pos c91] at H
 have c91b0 : (t255 == 0) = true := beq_iff_eq.mpr c91
 have c91b1 : (t255 != 0) = false := bne_eq_false_iff_eq.mpr c91
 clear c91
 replace H := Option.bind_eq_some_iff.mp H
 obtain ⟨t264, A920, H⟩ := H
 have A92 := Aside0.mk A920
 clear A920
 obtain rfl := Option.some.inj H
 go_enter Try.func6, Try.ntmps6
 try go_wp2_with (first | ((with_reducible refine gate_callee (f := 7) rfl ?_); refine goesL_ (some 10) rfl rfl Try.func7 (by kernel_rfl) rfl #[.slice A0 l0.length c0] rfl (by (try simp only [List.map_toArray, List.map_cons, List.map_nil]); first | done | rfl) ?_; (with_reducible refine (laws_big.calls _ _ l0 false _ ?side1 ?side2 A2.out).mono ?_); (case side1 => repeat (first | exact HR0.out | (with_reducible refine Kd.C_alloc ?_ _) | (with_reducible refine Kd.C_drewN ?_ _) | (with_reducible refine Kd.C_drew ?_))); (case side2 => exact HC0.out); rintro e w' ⟨rfl, ⟨nd, rfl⟩⟩; refine ⟨_, rfl, ?_⟩) | ((with_reducible refine gate_callee (f := 23) rfl ?_); refine goesL_ (some 12) rfl rfl Try.func23 (by kernel_rfl) rfl #[.slice A0 l0.length c0] rfl (by (try simp only [List.map_toArray, List.map_cons, List.map_nil]); first | done | rfl) ?_; (with_reducible refine (spec_DrawPort.calls k _ _ l0 t234 t235 t236 t237 _ ?side1 ?side2 A4.out).mono ?_); (case side1 => repeat (first | exact HR0.out | (with_reducible refine Kd.C_alloc ?_ _) | (with_reducible refine Kd.C_drewN ?_ _) | (with_reducible refine Kd.C_drew ?_))); (case side2 => exact HC0.out); rintro e w93 ⟨rfl, hb⟩; refine ⟨_, rfl, ?_⟩; have n0_ := Aside0.mk (below_step (by repeat (first | (with_reducible first | exact HB.out | apply below_alloc | apply pw_below_drewN | apply below_drew1) | exact HB.out)) hb); clear HB; have HB := n0_; clear n0_; (try clear hb); (try clear hb2); (try clear hk); (try clear hi)) | ((with_reducible refine gate_dst (N := 3) rfl ?_); refine box_event ?hg (N := 3) ?hd (cs := #[.int .i64 0, .int .i64 0, .int .i64 0, .int .i64 0]) (t := 46) ?hr ?_; (case hd => rfl); (case hg => rfl); (case hr => first | (go_simp; done) | (go_simp; rfl)); intro gb238 hg w94 hbox hb; have n0_ := Aside0.mk (below_step (by repeat (first | (with_reducible first | exact HB.out | apply below_alloc | apply pw_below_drewN | apply below_drew1) | exact HB.out)) hb); have n1_ := Aside0.mk (hbox); have n2_ := Aside0.mk ((by rw [hg]; exact (below_size (by repeat (first | (with_reducible first | exact HB.out | apply below_alloc | apply pw_below_drewN | apply below_drew1) | exact HB.out))) : w.heap.size ≤ gb238)); have n3_ := Aside0.mk ((by rw [hg]; exact (below_size (by repeat (first | (with_reducible first | exact HB.out | apply below_alloc | apply pw_below_drewN | apply below_drew1) | exact HB.out))) : w.heap.size ≤ gb238)); clear HB; have HB := n0_; have BK238 := n1_; have GW238 := n2_; have GE238 := n3_; clear n0_ n1_ n2_ n3_; clear hb hbox hg; have hcz95_0 : w94.cell? ⟨gb238, 0, none⟩ = some (.int .i64 0) := (blk_cell BK238.out 0).trans rfl; have hcz95_1 : w94.cell? ⟨gb238, 1, none⟩ = some (.int .i64 0) := (blk_cell BK238.out 1).trans rfl; have hcz95_2 : w94.cell? ⟨gb238, 2, none⟩ = some (.int .i64 0) := (blk_cell BK238.out 2).trans rfl; have hcz95_3 : w94.cell? ⟨gb238, 3, none⟩ = some (.int .i64 0) := (blk_cell BK238.out 3).trans rfl; have hfz95_0 := blk_frozen BK238.out 0; have hfz95_1 := blk_frozen BK238.out 1; have hfz95_2 := blk_frozen BK238.out 2; have hfz95_3 := blk_frozen BK238.out 3) | ((with_reducible refine gate_callee (f := 24) rfl ?_); refine goesL_ (some 14) rfl rfl Try.func24 (by kernel_rfl) rfl #[.slice A0 l0.length c0] rfl (by (try simp only [List.map_toArray, List.map_cons, List.map_nil]); first | done | rfl) ?_; (with_reducible refine (spec_DrawPlaces.calls k _ _ l0 t239 _ ?side1 ?side2 A5.out).mono ?_); (case side1 => exact Kd.C_below HR0.out (by repeat (first | (with_reducible first | exact HB.out | apply below_alloc | apply pw_below_drewN | apply below_drew1 | refine below_set ?_ GE238.out) | exact HB.out))); (case side2 => exact HC0.out); rintro e w96 ⟨v240, rfl, ho0, hb⟩; refine ⟨_, rfl, ?_⟩; have n0_ := Aside0.mk (Kd.R_lower ho0 (below_size (by repeat (first | (with_reducible first | exact HB.out | apply below_alloc | apply pw_below_drewN | apply below_drew1 | refine below_set ?_ GE238.out) | exact HB.out)))); have n1_ := Aside0.mk (blk_below (g := gb238) (o := .cells #[.int .i64 t234, .int .i64 t235, .int .i64 t236, .int .i64 t237] 46 (0, 0)) (by (repeat apply bX); refine blk_put (cs := #[.int .i64 t234, .int .i64 t235, .int .i64 t236, .int .i64 0]) ?_ 3 _ rfl; (repeat apply bX); refine blk_put (cs := #[.int .i64 t234, .int .i64 t235, .int .i64 0, .int .i64 0]) ?_ 2 _ rfl; (repeat apply bX); refine blk_put (cs := #[.int .i64 t234, .int .i64 0, .int .i64 0, .int .i64 0]) ?_ 1 _ rfl; (repeat apply bX); refine blk_put (cs := #[.int .i64 0, .int .i64 0, .int .i64 0, .int .i64 0]) ?_ 0 _ rfl; (repeat apply bX); exact BK238.out) hb); have n2_ := Aside0.mk (below_step (by repeat (first | (with_reducible first | exact HB.out | apply below_alloc | apply pw_below_drewN | apply below_drew1 | refine below_set ?_ GE238.out) | exact HB.out)) hb); clear BK238; clear HB; have HO241 := n0_; have BK238 := n1_; have HB := n2_; clear n0_ n1_ n2_; (try clear hb); (try clear hb2); (try clear hk); (try clear hi); (try clear ho0)))
 have pi247 : (0 ≤ ((ji8) : Int)) = True := eq_true (of_decide_eq_true (by first | (with_reducible assumption) | assumption))
 have qi247 : ((ji8) < (y243.length : Int)) = True := eq_true (of_decide_eq_true (by first | (with_reducible assumption) | assumption))
 have n0_ := Aside0.mk (Kd.R_drew HO241.out)
 have n1_ := Aside0.mk (blk_drew BK238.out)
 have n2_ := Aside0.mk (below_drew1 HB.out)
 clear HO241
 clear BK238
 clear HB
 have HO241 := n0_
 have BK238 := n1_
 have HB := n2_
 clear n0_ n1_ n2_
 obtain ⟨Ao98, co98, eo98⟩ := Kd.R_slice HO241.out
 (first | subst eo98 | (injection eo98 with f1_ f2_ f3_; have f4_ := f1_.symm; have f5_ := f3_.symm; clear f1_ f2_ f3_; subst f4_; subst f5_))
 have p242 : 0 ≤ (0 : Int) := (by omega)
 have q242 : 0 < (t239.length : Int) := of_decide_eq_true (by first | (with_reducible assumption) | assumption)
 obtain ⟨ad242, e242, hx242_0⟩ := Kd.at_int (Kd.R_reads' HO241.out).2.2 0 p242 q242
 cases e242
 have qi242 : (0 < t239.length) = True := eq_true (by omega)
 (try rw [show ((0 : Int)).toNat = 0 from rfl] at hx242_0)
 (try rw [Addr.add_zero'] at hx242_0)
 replace p242 := eq_true p242
 replace q242 := eq_true q242
 have p246 : 0 ≤ (1 : Int) := (by omega)
 have q246 : 1 < (t239.length : Int) := of_decide_eq_true (by first | (with_reducible assumption) | assumption)
 obtain ⟨ad246, e246, hx246_0⟩ := Kd.at_int (Kd.R_reads' HO241.out).2.2 1 p246 q246
 obtain rfl : ad242 = ad246 := (by injection e246)
 (try simp only [show (1 : Int).toNat = 1 from rfl, Nat.reduceMul, Nat.reduceEqDiff, Go.Addr.add, ↓reduceIte] at hx246_0)
 have qi246 : (1 < t239.length) = True := eq_true (by omega)
 (try rw [show ((1 : Int)).toNat = 1 from rfl] at hx246_0)
 replace p246 := eq_true p246
 replace q246 := eq_true q246
 refine start_ (n := 19) (S := fun w' => w'.cell? ⟨gb238, 0, none⟩ = some (.int .i64 t234) ∧ w'.cell? ⟨gb238, 1, none⟩ = some (.int .i64 t235) ∧ w'.cell? ⟨gb238, 2, none⟩ = some (.int .i64 t236) ∧ w'.cell? ⟨gb238, 3, none⟩ = some (.int .i64 t237) ∧ w'.cell? ad242 = some (.int .i64 (rd t239 0)) ∧ w'.cell? ⟨ad242.block, ad242.off + 1, none⟩ = some (.int .i64 (rd t239 1))) (ds := []) #[F, F, F, F, F, F, F, F, F, F, F, F, F, F, F, F, F, F, F] (by kernel_rfl) rfl rfl ⟨(blk_cell BK238.out 0).trans rfl, (blk_cell BK238.out 1).trans rfl, (blk_cell BK238.out 2).trans rfl, (blk_cell BK238.out 3).trans rfl, hx242_0, hx246_0⟩ (fun hHeld => ?_); refine with_tabW laws_FnPorts.tab5 laws_FnPorts.bits5 (fun HT_ HW_ => ?_)
 generalize w96.drew = w97 at HO241 BK238 HB hx242_0 hx246_0 hHeld ⊢
 refine pure_ (i := 1) (N := some 17) (v := ?_) (a' := ?_) #[F, T, F, F, F, F, F, F, F, F, F, F, F, F, F, F, F, F, F] rfl rfl (any_of HT_.out (by kernel_rfl)) (fun _ _ _ h => h) (Or.inl ⟨by rfl, ?_⟩) ?_ ?_
 rotate_left
 ·intro w'
  go_simp
  with_reducible rfl
 rotate_left
 ·simp only [pS]
  rfl
 refine pure_ (i := 2) (N := some 18) (v := ?_) (a' := ?_) #[F, T, T, F, F, F, F, F, F, F, F, F, F, F, F, F, F, F, F] rfl rfl (any_of HT_.out (by kernel_rfl)) (fun _ _ _ h => h) (Or.inl ⟨by rfl, ?_⟩) ?_ ?_
 rotate_left
 ·intro w'
  go_simp
  with_reducible rfl
 rotate_left
 ·simp only [pS]
  rfl
 refine pure_ (i := 6) (N := some 22) (v := ?_) (a' := ?_) #[F, T, T, F, F, F, T, F, F, F, F, F, F, F, F, F, F, F, F] rfl rfl (any_of HT_.out (by kernel_rfl)) (fun _ _ _ h => h) (Or.inl ⟨by rfl, ?_⟩) ?_ ?_
 rotate_left
 ·intro w'
  go_simp
  with_reducible rfl
 rotate_left
 ·simp only [pS]
  rfl
 refine pure_ (i := 7) (N := some 23) (v := ?_) (a' := ?_) #[F, T, T, F, F, F, T, T, F, F, F, F, F, F, F, F, F, F, F] rfl rfl (any_of HT_.out (by kernel_rfl)) (fun _ _ _ h => h) (Or.inl ⟨by rfl, ?_⟩) ?_ ?_
 rotate_left
 ·intro w'
  go_simp
  with_reducible rfl
 rotate_left
 ·simp only [pS]
  rfl
 refine take_ (i := 0) (N := some 16) (v := ?_) (a' := ?_) #[T, T, T, F, F, F, T, T, F, F, F, F, F, F, F, F, F, F, F] rfl rfl (take_ofW HT_.out HW_.out (by kernel_rfl)) (fun _ _ _ h => h) (Or.inl ⟨by rfl, ?_⟩) hHeld ?_ ?_
 rotate_left
 ·rintro w' ⟨s0, s1, s2, s3, s4, s5⟩
  go_simp
  with_reducible rfl
 rotate_left
 ·simp only [pS]
  rfl
 refine take_ (i := 3) (N := some 19) (v := ?_) (a' := ?_) #[T, T, T, T, F, F, T, T, F, F, F, F, F, F, F, F, F, F, F] rfl rfl (take_ofW HT_.out HW_.out (by kernel_rfl)) (fun _ _ _ h => h) (Or.inl ⟨by rfl, ?_⟩) hHeld ?_ ?_
 rotate_left
 ·rintro w' ⟨s0, s1, s2, s3, s4, s5⟩
  go_simp
  with_reducible rfl
 rotate_left
 ·simp only [pS]
  rfl
 refine pure_ (i := 4) (N := some 20) (v := ?_) (a' := ?_) #[T, T, T, T, T, F, T, T, F, F, F, F, F, F, F, F, F, F, F] rfl rfl (any_of HT_.out (by kernel_rfl)) (fun _ _ _ h => h) (Or.inl ⟨by rfl, ?_⟩) ?_ ?_
 rotate_left
 ·intro w'
  go_simp
  with_reducible rfl
 rotate_left
 ·simp only [pS]
  rfl
 refine take_ (i := 8) (N := some 24) (v := ?_) (a' := ?_) #[T, T, T, T, T, F, T, T, T, F, F, F, F, F, F, F, F, F, F] rfl rfl (take_ofW HT_.out HW_.out (by kernel_rfl)) (fun _ _ _ h => h) (Or.inl ⟨by rfl, ?_⟩) hHeld ?_ ?_
 rotate_left
 ·rintro w' ⟨s0, s1, s2, s3, s4, s5⟩
  go_simp
  with_reducible rfl
 rotate_left
 ·simp only [pS]
  rfl
 refine pure_ (i := 9) (N := some 25) (v := ?_) (a' := ?_) #[T, T, T, T, T, F, T, T, T, T, F, F, F, F, F, F, F, F, F] rfl rfl (any_of HT_.out (by kernel_rfl)) (fun _ _ _ h => h) (Or.inl ⟨by rfl, ?_⟩) ?_ ?_
 rotate_left
 ·intro w'
  go_simp
  with_reducible rfl
 rotate_left
 ·simp only [pS]
  rfl
 refine join_ (σ := Value × Addr × Nat) 2 #[T, T, T, T, T, T, T, T, T, T, T, T, T, T, T, T, T, F, F] (fun s_ => [(21, s_.1), (27, .int .i64 (rd y243 (ji8))), (28, .tuple #[.agg #[.int .i64 t248, .int .i64 t249, .int .i64 t250, .int .i64 t251], .bool false]), (5, .pointer (some ⟨s_.2.2, 0, none⟩)), (26, .pointer (some (s_.2.1.add ((ji8)).toNat))), (15, .tuple #[.agg #[.int .i64 t248, .int .i64 t249, .int .i64 t250, .int .i64 t251], .bool false]), (29, .agg #[.int .i64 t248, .int .i64 t249, .int .i64 t250, .int .i64 t251]), (30, .bool false)]) (fun s_ w' => (w'.cell? ⟨gb238, 0, none⟩ = some (.int .i64 t234) ∧ w'.cell? ⟨gb238, 1, none⟩ = some (.int .i64 t235) ∧ w'.cell? ⟨gb238, 2, none⟩ = some (.int .i64 t236) ∧ w'.cell? ⟨gb238, 3, none⟩ = some (.int .i64 t237) ∧ w'.cell? ad242 = some (.int .i64 (rd t239 0)) ∧ w'.cell? ⟨ad242.block, ad242.off + 1, none⟩ = some (.int .i64 (rd t239 1))) ∧ (Kd.R (Kd.int .i64) 3 w' w.heap.size (fun k_ => some k_ ≠ (s_.1 : Value).ownBlock) (.slice (some ad242) t239.length co98) t239) ∧ (Kd.R (Kd.int .i64) 3 w' w.heap.size (fun k_ => some k_ ≠ (.slice (some ad242) t239.length co98 : Value).ownBlock) s_.1 y243) ∧ (∃ c_, (s_.1 : Value) = .slice (some s_.2.1) y243.length c_) ∧ (w'.heap[gb238]? = some (.cells #[.int .i64 t234, .int .i64 t235, .int .i64 t236, .int .i64 t237] 46 (0, 0))) ∧ (w'.heap[s_.2.2]? = some (.cells #[.int .i64 0, .int .i64 0, .int .i64 0, .int .i64 0] 46 (0, 0))) ∧ (w.heap.size ≤ s_.2.2) ∧ (w.heap.size ≤ s_.2.2) ∧ (gb238 ≠ s_.2.2) ∧ (s_.2.2 ≠ gb238) ∧ (Below w.heap.size w w')) ?_ ?_
 rotate_left
 ·intro hCont
  refine two_ (i := 5) (j := 16) (Ni := some 21) (Nj := some 5) #[T, T, T, T, T, T, T, T, T, T, F, F, F, F, F, F, F, F, F] #[T, T, T, T, T, F, T, T, T, T, F, F, F, F, F, F, T, F, F] rfl rfl rfl rfl (two_of HT_.out (by kernel_rfl)) (by decide) (by decide) (fun K hK => ?_) (fun K hK => ?_)
  ·skip
   refine Kd.R_lit_step (Kd.int .i64) _ 3 ?hg (N := 21) ?hd (xs := ([1, 2, 4] : List Int)) (inner := [.int .i64 1, .int .i64 2, .int .i64 4]) (ok := fun _ => True) (okp := fun _ => True) ?hr ?hp (fun _ hk => hk) trivial (Below.refl _ _) (Nat.le_refl _) (by simp) ?_; (case hd => rfl); (case hg => rfl); (case hr => first | (go_simp; done) | (go_simp; rfl)); (case hp => exact (Reps.one (show Kd.M (Kd.int .i64) _ _ _ 1 [.int .i64 1] from rfl) (Reps.one (show Kd.M (Kd.int .i64) _ _ _ 2 [.int .i64 2] from rfl) (Reps.one (show Kd.M (Kd.int .i64) _ _ _ 4 [.int .i64 4] from rfl) (Reps.none _ _)))))
   intro v244 w99 ho100 hb hg_ hnew_
   have HS4_ := (hb.cell (World.block_lt_of_cell? _ _ (hHeld.2.2.2.2.1))).trans (hHeld.2.2.2.2.1)
   have HS5_ := (hb.cell (World.block_lt_of_cell? _ _ (hHeld.2.2.2.2.2))).trans (hHeld.2.2.2.2.2)
   clear hg_ hnew_
   (first | rw [← Ny243.out] at ho100 | (simp only [Int.reduceToNat] at ho100; rw [← Ny243.out] at ho100))
   have n0_ := Aside0.mk (Kd.R_elder' (rY HO241.out) (Kd.R_base ho100) hb)
   have n1_ := Aside0.mk (Kd.R_lower (Kd.R_new' ho100 (Kd.R_lt (rY HO241.out))) (below_size (by repeat (first | (with_reducible first | exact HB.out | apply below_alloc | apply pw_below_drewN | apply below_drew1 | refine below_set ?_ GE238.out) | exact HB.out))))
   have n2_ := Aside0.mk (blk_below (bY BK238.out) hb)
   have n3_ := Aside0.mk (below_step (by repeat (first | (with_reducible first | exact HB.out | apply below_alloc | apply pw_below_drewN | apply below_drew1 | refine below_set ?_ GE238.out) | exact HB.out)) hb)
   clear HO241
   clear BK238
   clear HB
   have HO241 := n0_
   have HO245 := n1_
   have BK238 := n2_
   have HB := n3_
   clear n0_ n1_ n2_ n3_
   clear hb ho100
   obtain ⟨Ao101, co101, eo101⟩ := Kd.R_slice HO245.out
   subst eo101
   obtain ⟨ado101, fo101, _⟩ := Kd.at_int (Kd.R_reads' HO245.out).2.2 0 (by decide) (by rw [Ny243.out]; simp)
   cases fo101
   refine hK.out _ _ ⟨(blk_cell BK238.out 0).trans rfl, (blk_cell BK238.out 1).trans rfl, (blk_cell BK238.out 2).trans rfl, (blk_cell BK238.out 3).trans rfl, HS4_, HS5_⟩ (fun hHeld => ?_)
   clear hK K
   refine norm_ (a' := ?_) ?_ ?_
   rotate_left
   ·show Act.put _ (some 21) _ = _
    simp only [pS]
    rfl
   refine pure_ (i := 10) (N := some 26) (v := ?_) (a' := ?_) #[T, T, T, T, T, T, T, T, T, T, T, F, F, F, F, F, F, F, F] rfl rfl (any_of HT_.out (by kernel_rfl)) (fun _ _ _ h => h) (Or.inl ⟨by rfl, ?_⟩) ?_ ?_
   rotate_left
   ·intro w'
    go_simp
    with_reducible rfl
   rotate_left
   ·simp only [pS]
    rfl
   refine two_ (i := 11) (j := 16) (Ni := some 27) (Nj := some 5) #[T, T, T, T, T, T, T, T, T, T, T, T, F, F, F, F, F, F, F] #[T, T, T, T, T, T, T, T, T, T, T, F, F, F, F, F, T, F, F] rfl rfl rfl rfl (two_of HT_.out (by kernel_rfl)) (by decide) (by decide) (fun K hK => ?_) (fun K hK => ?_)
   ·skip
    (have p247 : 0 ≤ ((ji8) : Int) := of_decide_eq_true (by first | (with_reducible assumption) | assumption); have q247 : (ji8) < (y243.length : Int) := of_decide_eq_true (by first | (with_reducible assumption) | assumption); obtain ⟨ad247, e247, hx247_0⟩ := Kd.at_int (Kd.R_reads' HO245.out).2.2 (ji8) p247 q247; obtain rfl : ado101 = ad247 := (by injection e247))
    refine value_ (w1 := ?_) (v := ?_) (by rfl) rfl ?_ ?_
    rotate_left 2
    ·go_simp
     constructor
     ·rfl
     ·rfl
    clear hx247_0
    refine hK.out _ _ ⟨(blk_cell BK238.out 0).trans rfl, (blk_cell BK238.out 1).trans rfl, (blk_cell BK238.out 2).trans rfl, (blk_cell BK238.out 3).trans rfl, hHeld.2.2.2.2.1, hHeld.2.2.2.2.2⟩ (fun hHeld => ?_)
    clear hK K
    refine norm_ (a' := ?_) ?_ ?_
    rotate_left
    ·show Act.put _ (some 27) _ = _
     simp only [pS]
     rfl
    refine two_ (i := 12) (j := 16) (Ni := some 28) (Nj := some 5) #[T, T, T, T, T, T, T, T, T, T, T, T, T, F, F, F, F, F, F] #[T, T, T, T, T, T, T, T, T, T, T, T, F, F, F, F, T, F, F] rfl rfl rfl rfl (two_of HT_.out (by kernel_rfl)) (by decide) (by decide) (fun K hK => ?_) (fun K hK => ?_)
    ·skip
     refine goes_ Try.func25 (by kernel_rfl) rfl #[.agg #[.int .i64 t234, .int .i64 t235, .int .i64 t236, .int .i64 t237], .int .i64 (Int.tmod (rd t239 0) 7), .int .i64 (rd y243 (ji8))] (by rfl) rfl rfl (by (try simp only [List.map_toArray, List.map_cons, List.map_nil]); first | done | (simp only [hji8]; rfl) | rfl | (simp only [List.length_drop, List.length_take]; rfl)) ?_
     with_reducible refine (impl_PortStep.calls k t234 t235 t236 t237 (Int.tmod (rd t239 0) 7) (rd y243 (ji8)) t248 t249 t250 t251 false _ A11.out).mono ?_
     rintro e w102 ⟨rfl, hb⟩
     have HS4_ := (hb.cell (World.block_lt_of_cell? _ _ (hHeld.2.2.2.2.1))).trans (hHeld.2.2.2.2.1)
     have HS5_ := (hb.cell (World.block_lt_of_cell? _ _ (hHeld.2.2.2.2.2))).trans (hHeld.2.2.2.2.2)
     refine ⟨_, rfl, ?_⟩
     have n0_ := Aside0.mk (Kd.R_below (rY HO241.out) hb)
     have n1_ := Aside0.mk (Kd.R_below (rY HO245.out) hb)
     have n2_ := Aside0.mk (blk_below (bY BK238.out) hb)
     have n3_ := Aside0.mk (below_step (by repeat (first | (with_reducible first | exact HB.out | apply below_alloc | apply pw_below_drewN | apply below_drew1 | refine below_set ?_ GE238.out) | exact HB.out)) hb)
     clear HO241
     clear HO245
     clear BK238
     clear HB
     have HO241 := n0_
     have HO245 := n1_
     have BK238 := n2_
     have HB := n3_
     clear n0_ n1_ n2_ n3_
     refine hK.out _ _ ⟨(blk_cell BK238.out 0).trans rfl, (blk_cell BK238.out 1).trans rfl, (blk_cell BK238.out 2).trans rfl, (blk_cell BK238.out 3).trans rfl, HS4_, HS5_⟩ (fun hHeld => ?_)
     clear hK K
     refine norm_ (a' := ?_) ?_ ?_
     rotate_left
     ·show Act.put _ (some 28) _ = _
      simp only [pS]
      rfl
     refine pure_ (i := 13) (N := some 15) (v := ?_) (a' := ?_) #[T, T, T, T, T, T, T, T, T, T, T, T, T, T, F, F, F, F, F] rfl rfl (any_of HT_.out (by kernel_rfl)) (fun _ _ _ h => h) (Or.inl ⟨by rfl, ?_⟩) ?_ ?_
     rotate_left
     ·intro w'
      go_simp
      with_reducible rfl
     rotate_left
     ·simp only [pS]
      rfl
     refine pure_ (i := 14) (N := some 29) (v := ?_) (a' := ?_) #[T, T, T, T, T, T, T, T, T, T, T, T, T, T, T, F, F, F, F] rfl rfl (any_of HT_.out (by kernel_rfl)) (fun _ _ _ h => h) (Or.inl ⟨by rfl, ?_⟩) ?_ ?_
     rotate_left
     ·intro w'
      go_simp
      with_reducible rfl
     rotate_left
     ·simp only [pS]
      rfl
     refine pure_ (i := 15) (N := some 30) (v := ?_) (a' := ?_) #[T, T, T, T, T, T, T, T, T, T, T, T, T, T, T, T, F, F, F] rfl rfl (any_of HT_.out (by kernel_rfl)) (fun _ _ _ h => h) (Or.inl ⟨by rfl, ?_⟩) ?_ ?_
     rotate_left
     ·intro w'
      go_simp
      with_reducible rfl
     rotate_left
     ·simp only [pS]
      rfl
     refine one_ (i := 16) (N := some 5) #[T, T, T, T, T, T, T, T, T, T, T, T, T, T, T, T, T, F, F] rfl rfl (one_of HT_.out (by kernel_rfl)) (by decide) (fun K hK => ?_)
     refine box_step ?hg (N := 5) ?hd (cs := #[.int .i64 0, .int .i64 0, .int .i64 0, .int .i64 0]) (t := 46) ?hr ?_; (case hd => rfl); (case hg => rfl); (case hr => first | (go_simp; done) | (go_simp; rfl))
     intro gb253 hg w103 hbox hb
     have HS4_ := (hb.cell (World.block_lt_of_cell? _ _ (hHeld.2.2.2.2.1))).trans (hHeld.2.2.2.2.1)
     have HS5_ := (hb.cell (World.block_lt_of_cell? _ _ (hHeld.2.2.2.2.2))).trans (hHeld.2.2.2.2.2)
     have n0_ := Aside0.mk (Kd.R_below (rY HO241.out) hb)
     have n1_ := Aside0.mk (Kd.R_below (rY HO245.out) hb)
     have n2_ := Aside0.mk (blk_below (bY BK238.out) hb)
     have n3_ := Aside0.mk (below_step (by repeat (first | (with_reducible first | exact HB.out | apply below_alloc | apply pw_below_drewN | apply below_drew1 | refine below_set ?_ GE238.out) | exact HB.out)) hb)
     have n4_ := Aside0.mk (hbox)
     have n5_ := Aside0.mk ((by rw [hg]; exact (below_size (by repeat (first | (with_reducible first | exact HB.out | apply below_alloc | apply pw_below_drewN | apply below_drew1 | refine below_set ?_ GE238.out) | exact HB.out))) : w.heap.size ≤ gb253))
     have n6_ := Aside0.mk ((by rw [hg]; exact (below_size (by repeat (first | (with_reducible first | exact HB.out | apply below_alloc | apply pw_below_drewN | apply below_drew1 | refine below_set ?_ GE238.out) | exact HB.out))) : w.heap.size ≤ gb253))
     have n7_ := Aside0.mk ((by rw [hg]; exact Nat.ne_of_lt (blk_lt (bY BK238.out)) : gb238 ≠ gb253))
     have n8_ := Aside0.mk ((by rw [hg]; exact Nat.ne_of_gt (blk_lt (bY BK238.out)) : gb253 ≠ gb238))
     clear HO241
     clear HO245
     clear BK238
     clear HB
     have HO241 := n0_
     have HO245 := n1_
     have BK238 := n2_
     have HB := n3_
     have BK253 := n4_
     have GW253 := n5_
     have GE253 := n6_
     have NB238_253 := n7_
     have NB253_238 := n8_
     clear n0_ n1_ n2_ n3_ n4_ n5_ n6_ n7_ n8_
     clear hb hbox hg
     refine hK.out _ _ ⟨(blk_cell BK238.out 0).trans rfl, (blk_cell BK238.out 1).trans rfl, (blk_cell BK238.out 2).trans rfl, (blk_cell BK238.out 3).trans rfl, HS4_, HS5_⟩ (fun hHeld => ?_)
     clear hK K
     refine norm_ (a' := ?_) ?_ ?_
     rotate_left
     ·show Act.put _ (some 5) _ = _
      simp only [pS]
      rfl
     exact norm_ (by simp only [putAll, Act.put, List.setIfInBounds_toArray, List.set_cons_zero, List.set_cons_succ]) (hCont (.slice (some ado101) y243.length co101, ado101, gb253) _ ⟨hHeld, (by (repeat apply rX); exact Kd.R_mono HO241.out (fun _ hk => hk.2)), (by (repeat apply rX); exact Kd.R_mono HO245.out (fun _ hk => hk.2)), ⟨_, rfl⟩, (bY BK238.out), (bY BK253.out), GW253.out, GE253.out, NB238_253.out, NB253_238.out, (by repeat (first | (with_reducible first | exact HB.out | apply below_alloc | apply pw_below_drewN | apply below_drew1 | refine below_set ?_ GE238.out | refine below_set ?_ GE253.out) | exact HB.out))⟩)
    ·skip
     refine box_step ?hg (N := 5) ?hd (cs := #[.int .i64 0, .int .i64 0, .int .i64 0, .int .i64 0]) (t := 46) ?hr ?_; (case hd => rfl); (case hg => rfl); (case hr => first | (go_simp; done) | (go_simp; rfl))
     intro gb253 hg w102 hbox hb
     have HS4_ := (hb.cell (World.block_lt_of_cell? _ _ (hHeld.2.2.2.2.1))).trans (hHeld.2.2.2.2.1)
     have HS5_ := (hb.cell (World.block_lt_of_cell? _ _ (hHeld.2.2.2.2.2))).trans (hHeld.2.2.2.2.2)
     have n0_ := Aside0.mk (Kd.R_below (rY HO241.out) hb)
     have n1_ := Aside0.mk (Kd.R_below (rY HO245.out) hb)
     have n2_ := Aside0.mk (blk_below (bY BK238.out) hb)
     have n3_ := Aside0.mk (below_step (by repeat (first | (with_reducible first | exact HB.out | apply below_alloc | apply pw_below_drewN | apply below_drew1 | refine below_set ?_ GE238.out) | exact HB.out)) hb)
     have n4_ := Aside0.mk (hbox)
     have n5_ := Aside0.mk ((by rw [hg]; exact (below_size (by repeat (first | (with_reducible first | exact HB.out | apply below_alloc | apply pw_below_drewN | apply below_drew1 | refine below_set ?_ GE238.out) | exact HB.out))) : w.heap.size ≤ gb253))
     have n6_ := Aside0.mk ((by rw [hg]; exact (below_size (by repeat (first | (with_reducible first | exact HB.out | apply below_alloc | apply pw_below_drewN | apply below_drew1 | refine below_set ?_ GE238.out) | exact HB.out))) : w.heap.size ≤ gb253))
     have n7_ := Aside0.mk ((by rw [hg]; exact Nat.ne_of_lt (blk_lt (bY BK238.out)) : gb238 ≠ gb253))
     have n8_ := Aside0.mk ((by rw [hg]; exact Nat.ne_of_gt (blk_lt (bY BK238.out)) : gb253 ≠ gb238))
     clear HO241
     clear HO245
     clear BK238
     clear HB
     have HO241 := n0_
     have HO245 := n1_
     have BK238 := n2_
     have HB := n3_
     have BK253 := n4_
     have GW253 := n5_
     have GE253 := n6_
     have NB238_253 := n7_
     have NB253_238 := n8_
     clear n0_ n1_ n2_ n3_ n4_ n5_ n6_ n7_ n8_
     clear hb hbox hg
     refine hK.out _ _ ⟨(blk_cell BK238.out 0).trans rfl, (blk_cell BK238.out 1).trans rfl, (blk_cell BK238.out 2).trans rfl, (blk_cell BK238.out 3).trans rfl, HS4_, HS5_⟩ (fun hHeld => ?_)
     clear hK K
     refine norm_ (a' := ?_) ?_ ?_
     rotate_left
     ·show Act.put _ (some 5) _ = _
      simp only [pS]
      rfl
     refine one_ (i := 12) (N := some 28) #[T, T, T, T, T, T, T, T, T, T, T, T, T, F, F, F, T, F, F] rfl rfl (one_of HT_.out (by kernel_rfl)) (by decide) (fun K hK => ?_)
     refine goes_ Try.func25 (by kernel_rfl) rfl #[.agg #[.int .i64 t234, .int .i64 t235, .int .i64 t236, .int .i64 t237], .int .i64 (Int.tmod (rd t239 0) 7), .int .i64 (rd y243 (ji8))] (by rfl) rfl rfl (by (try simp only [List.map_toArray, List.map_cons, List.map_nil]); first | done | (simp only [hji8]; rfl) | rfl | (simp only [List.length_drop, List.length_take]; rfl)) ?_
     with_reducible refine (impl_PortStep.calls k t234 t235 t236 t237 (Int.tmod (rd t239 0) 7) (rd y243 (ji8)) t248 t249 t250 t251 false _ A11.out).mono ?_
     rintro e w103 ⟨rfl, hb⟩
     have HS4_ := (hb.cell (World.block_lt_of_cell? _ _ (hHeld.2.2.2.2.1))).trans (hHeld.2.2.2.2.1)
     have HS5_ := (hb.cell (World.block_lt_of_cell? _ _ (hHeld.2.2.2.2.2))).trans (hHeld.2.2.2.2.2)
     refine ⟨_, rfl, ?_⟩
     have n0_ := Aside0.mk (Kd.R_below (rY HO241.out) hb)
     have n1_ := Aside0.mk (Kd.R_below (rY HO245.out) hb)
     have n2_ := Aside0.mk (blk_below (bY BK238.out) hb)
     have n3_ := Aside0.mk (blk_below (bY BK253.out) hb)
     have n4_ := Aside0.mk (below_step (by repeat (first | (with_reducible first | exact HB.out | apply below_alloc | apply pw_below_drewN | apply below_drew1 | refine below_set ?_ GE238.out | refine below_set ?_ GE253.out) | exact HB.out)) hb)
     clear HO241
     clear HO245
     clear BK238
     clear BK253
     clear HB
     have HO241 := n0_
     have HO245 := n1_
     have BK238 := n2_
     have BK253 := n3_
     have HB := n4_
     clear n0_ n1_ n2_ n3_ n4_
     refine hK.out _ _ ⟨(blk_cell BK238.out 0).trans rfl, (blk_cell BK238.out 1).trans rfl, (blk_cell BK238.out 2).trans rfl, (blk_cell BK238.out 3).trans rfl, HS4_, HS5_⟩ (fun hHeld => ?_)
     clear hK K
     refine norm_ (a' := ?_) ?_ ?_
     rotate_left
     ·show Act.put _ (some 28) _ = _
      simp only [pS]
      rfl
     refine pure_ (i := 13) (N := some 15) (v := ?_) (a' := ?_) #[T, T, T, T, T, T, T, T, T, T, T, T, T, T, F, F, T, F, F] rfl rfl (any_of HT_.out (by kernel_rfl)) (fun _ _ _ h => h) (Or.inl ⟨by rfl, ?_⟩) ?_ ?_
     rotate_left
     ·intro w'
      go_simp
      with_reducible rfl
     rotate_left
     ·simp only [pS]
      rfl
     refine pure_ (i := 14) (N := some 29) (v := ?_) (a' := ?_) #[T, T, T, T, T, T, T, T, T, T, T, T, T, T, T, F, T, F, F] rfl rfl (any_of HT_.out (by kernel_rfl)) (fun _ _ _ h => h) (Or.inl ⟨by rfl, ?_⟩) ?_ ?_
     rotate_left
     ·intro w'
      go_simp
      with_reducible rfl
     rotate_left
     ·simp only [pS]
      rfl
     refine pure_ (i := 15) (N := some 30) (v := ?_) (a' := ?_) #[T, T, T, T, T, T, T, T, T, T, T, T, T, T, T, T, T, F, F] rfl rfl (any_of HT_.out (by kernel_rfl)) (fun _ _ _ h => h) (Or.inl ⟨by rfl, ?_⟩) ?_ ?_
     rotate_left
     ·intro w'
      go_simp
      with_reducible rfl
     rotate_left
     ·simp only [pS]
      rfl
     exact norm_ (by simp only [putAll, Act.put, List.setIfInBounds_toArray, List.set_cons_zero, List.set_cons_succ]) (hCont (.slice (some ado101) y243.length co101, ado101, gb253) _ ⟨hHeld, (by (repeat apply rX); exact Kd.R_mono HO241.out (fun _ hk => hk.2)), (by (repeat apply rX); exact Kd.R_mono HO245.out (fun _ hk => hk.2)), ⟨_, rfl⟩, (bY BK238.out), (bY BK253.out), GW253.out, GE253.out, NB238_253.out, NB253_238.out, (by repeat (first | (with_reducible first | exact HB.out | apply below_alloc | apply pw_below_drewN | apply below_drew1 | refine below_set ?_ GE238.out | refine below_set ?_ GE253.out) | exact HB.out))⟩)
   ·skip
    refine box_step ?hg (N := 5) ?hd (cs := #[.int .i64 0, .int .i64 0, .int .i64 0, .int .i64 0]) (t := 46) ?hr ?_; (case hd => rfl); (case hg => rfl); (case hr => first | (go_simp; done) | (go_simp; rfl))
    intro gb253 hg w102 hbox hb
    have HS4_ := (hb.cell (World.block_lt_of_cell? _ _ (hHeld.2.2.2.2.1))).trans (hHeld.2.2.2.2.1)
    have HS5_ := (hb.cell (World.block_lt_of_cell? _ _ (hHeld.2.2.2.2.2))).trans (hHeld.2.2.2.2.2)
    have n0_ := Aside0.mk (Kd.R_below (rY HO241.out) hb)
    have n1_ := Aside0.mk (Kd.R_below (rY HO245.out) hb)
    have n2_ := Aside0.mk (blk_below (bY BK238.out) hb)
    have n3_ := Aside0.mk (below_step (by repeat (first | (with_reducible first | exact HB.out | apply below_alloc | apply pw_below_drewN | apply below_drew1 | refine below_set ?_ GE238.out) | exact HB.out)) hb)
    have n4_ := Aside0.mk (hbox)
    have n5_ := Aside0.mk ((by rw [hg]; exact (below_size (by repeat (first | (with_reducible first | exact HB.out | apply below_alloc | apply pw_below_drewN | apply below_drew1 | refine below_set ?_ GE238.out) | exact HB.out))) : w.heap.size ≤ gb253))
    have n6_ := Aside0.mk ((by rw [hg]; exact (below_size (by repeat (first | (with_reducible first | exact HB.out | apply below_alloc | apply pw_below_drewN | apply below_drew1 | refine below_set ?_ GE238.out) | exact HB.out))) : w.heap.size ≤ gb253))
    have n7_ := Aside0.mk ((by rw [hg]; exact Nat.ne_of_lt (blk_lt (bY BK238.out)) : gb238 ≠ gb253))
    have n8_ := Aside0.mk ((by rw [hg]; exact Nat.ne_of_gt (blk_lt (bY BK238.out)) : gb253 ≠ gb238))
    clear HO241
    clear HO245
    clear BK238
    clear HB
    have HO241 := n0_
    have HO245 := n1_
    have BK238 := n2_
    have HB := n3_
    have BK253 := n4_
    have GW253 := n5_
    have GE253 := n6_
    have NB238_253 := n7_
    have NB253_238 := n8_
    clear n0_ n1_ n2_ n3_ n4_ n5_ n6_ n7_ n8_
    clear hb hbox hg
    refine hK.out _ _ ⟨(blk_cell BK238.out 0).trans rfl, (blk_cell BK238.out 1).trans rfl, (blk_cell BK238.out 2).trans rfl, (blk_cell BK238.out 3).trans rfl, HS4_, HS5_⟩ (fun hHeld => ?_)
    clear hK K
    refine norm_ (a' := ?_) ?_ ?_
    rotate_left
    ·show Act.put _ (some 5) _ = _
     simp only [pS]
     rfl
    refine one_ (i := 11) (N := some 27) #[T, T, T, T, T, T, T, T, T, T, T, T, F, F, F, F, T, F, F] rfl rfl (one_of HT_.out (by kernel_rfl)) (by decide) (fun K hK => ?_)
    (have p247 : 0 ≤ ((ji8) : Int) := of_decide_eq_true (by first | (with_reducible assumption) | assumption); have q247 : (ji8) < (y243.length : Int) := of_decide_eq_true (by first | (with_reducible assumption) | assumption); obtain ⟨ad247, e247, hx247_0⟩ := Kd.at_int (Kd.R_reads' HO245.out).2.2 (ji8) p247 q247; obtain rfl : ado101 = ad247 := (by injection e247))
    refine value_ (w1 := ?_) (v := ?_) (by rfl) rfl ?_ ?_
    rotate_left 2
    ·go_simp
     constructor
     ·rfl
     ·rfl
    clear hx247_0
    refine hK.out _ _ ⟨(blk_cell BK238.out 0).trans rfl, (blk_cell BK238.out 1).trans rfl, (blk_cell BK238.out 2).trans rfl, (blk_cell BK238.out 3).trans rfl, hHeld.2.2.2.2.1, hHeld.2.2.2.2.2⟩ (fun hHeld => ?_)
    clear hK K
    refine norm_ (a' := ?_) ?_ ?_
    rotate_left
    ·show Act.put _ (some 27) _ = _
     simp only [pS]
     rfl
    refine one_ (i := 12) (N := some 28) #[T, T, T, T, T, T, T, T, T, T, T, T, T, F, F, F, T, F, F] rfl rfl (one_of HT_.out (by kernel_rfl)) (by decide) (fun K hK => ?_)
    refine goes_ Try.func25 (by kernel_rfl) rfl #[.agg #[.int .i64 t234, .int .i64 t235, .int .i64 t236, .int .i64 t237], .int .i64 (Int.tmod (rd t239 0) 7), .int .i64 (rd y243 (ji8))] (by rfl) rfl rfl (by (try simp only [List.map_toArray, List.map_cons, List.map_nil]); first | done | (simp only [hji8]; rfl) | rfl | (simp only [List.length_drop, List.length_take]; rfl)) ?_
    with_reducible refine (impl_PortStep.calls k t234 t235 t236 t237 (Int.tmod (rd t239 0) 7) (rd y243 (ji8)) t248 t249 t250 t251 false _ A11.out).mono ?_
    rintro e w103 ⟨rfl, hb⟩
    have HS4_ := (hb.cell (World.block_lt_of_cell? _ _ (hHeld.2.2.2.2.1))).trans (hHeld.2.2.2.2.1)
    have HS5_ := (hb.cell (World.block_lt_of_cell? _ _ (hHeld.2.2.2.2.2))).trans (hHeld.2.2.2.2.2)
    refine ⟨_, rfl, ?_⟩
    have n0_ := Aside0.mk (Kd.R_below (rY HO241.out) hb)
    have n1_ := Aside0.mk (Kd.R_below (rY HO245.out) hb)
    have n2_ := Aside0.mk (blk_below (bY BK238.out) hb)
    have n3_ := Aside0.mk (blk_below (bY BK253.out) hb)
    have n4_ := Aside0.mk (below_step (by repeat (first | (with_reducible first | exact HB.out | apply below_alloc | apply pw_below_drewN | apply below_drew1 | refine below_set ?_ GE238.out | refine below_set ?_ GE253.out) | exact HB.out)) hb)
    clear HO241
    clear HO245
    clear BK238
    clear BK253
    clear HB
    have HO241 := n0_
    have HO245 := n1_
    have BK238 := n2_
    have BK253 := n3_
    have HB := n4_
    clear n0_ n1_ n2_ n3_ n4_
    refine hK.out _ _ ⟨(blk_cell BK238.out 0).trans rfl, (blk_cell BK238.out 1).trans rfl, (blk_cell BK238.out 2).trans rfl, (blk_cell BK238.out 3).trans rfl, HS4_, HS5_⟩ (fun hHeld => ?_)
    clear hK K
    refine norm_ (a' := ?_) ?_ ?_
    rotate_left
    ·show Act.put _ (some 28) _ = _
     simp only [pS]
     rfl
    refine pure_ (i := 13) (N := some 15) (v := ?_) (a' := ?_) #[T, T, T, T, T, T, T, T, T, T, T, T, T, T, F, F, T, F, F] rfl rfl (any_of HT_.out (by kernel_rfl)) (fun _ _ _ h => h) (Or.inl ⟨by rfl, ?_⟩) ?_ ?_
    rotate_left
    ·intro w'
     go_simp
     with_reducible rfl
    rotate_left
    ·simp only [pS]
     rfl
    refine pure_ (i := 14) (N := some 29) (v := ?_) (a' := ?_) #[T, T, T, T, T, T, T, T, T, T, T, T, T, T, T, F, T, F, F] rfl rfl (any_of HT_.out (by kernel_rfl)) (fun _ _ _ h => h) (Or.inl ⟨by rfl, ?_⟩) ?_ ?_
    rotate_left
    ·intro w'
     go_simp
     with_reducible rfl
    rotate_left
    ·simp only [pS]
     rfl
    refine pure_ (i := 15) (N := some 30) (v := ?_) (a' := ?_) #[T, T, T, T, T, T, T, T, T, T, T, T, T, T, T, T, T, F, F] rfl rfl (any_of HT_.out (by kernel_rfl)) (fun _ _ _ h => h) (Or.inl ⟨by rfl, ?_⟩) ?_ ?_
    rotate_left
    ·intro w'
     go_simp
     with_reducible rfl
    rotate_left
    ·simp only [pS]
     rfl
    exact norm_ (by simp only [putAll, Act.put, List.setIfInBounds_toArray, List.set_cons_zero, List.set_cons_succ]) (hCont (.slice (some ado101) y243.length co101, ado101, gb253) _ ⟨hHeld, (by (repeat apply rX); exact Kd.R_mono HO241.out (fun _ hk => hk.2)), (by (repeat apply rX); exact Kd.R_mono HO245.out (fun _ hk => hk.2)), ⟨_, rfl⟩, (bY BK238.out), (bY BK253.out), GW253.out, GE253.out, NB238_253.out, NB253_238.out, (by repeat (first | (with_reducible first | exact HB.out | apply below_alloc | apply pw_below_drewN | apply below_drew1 | refine below_set ?_ GE238.out | refine below_set ?_ GE253.out) | exact HB.out))⟩)
  ·skip
   refine box_step ?hg (N := 5) ?hd (cs := #[.int .i64 0, .int .i64 0, .int .i64 0, .int .i64 0]) (t := 46) ?hr ?_; (case hd => rfl); (case hg => rfl); (case hr => first | (go_simp; done) | (go_simp; rfl))
   intro gb253 hg w99 hbox hb
   have HS4_ := (hb.cell (World.block_lt_of_cell? _ _ (hHeld.2.2.2.2.1))).trans (hHeld.2.2.2.2.1)
   have HS5_ := (hb.cell (World.block_lt_of_cell? _ _ (hHeld.2.2.2.2.2))).trans (hHeld.2.2.2.2.2)
   have n0_ := Aside0.mk (Kd.R_below (rY HO241.out) hb)
   have n1_ := Aside0.mk (blk_below (bY BK238.out) hb)
   have n2_ := Aside0.mk (below_step (by repeat (first | (with_reducible first | exact HB.out | apply below_alloc | apply pw_below_drewN | apply below_drew1 | refine below_set ?_ GE238.out) | exact HB.out)) hb)
   have n3_ := Aside0.mk (hbox)
   have n4_ := Aside0.mk ((by rw [hg]; exact (below_size (by repeat (first | (with_reducible first | exact HB.out | apply below_alloc | apply pw_below_drewN | apply below_drew1 | refine below_set ?_ GE238.out) | exact HB.out))) : w.heap.size ≤ gb253))
   have n5_ := Aside0.mk ((by rw [hg]; exact (below_size (by repeat (first | (with_reducible first | exact HB.out | apply below_alloc | apply pw_below_drewN | apply below_drew1 | refine below_set ?_ GE238.out) | exact HB.out))) : w.heap.size ≤ gb253))
   have n6_ := Aside0.mk ((by rw [hg]; exact Nat.ne_of_lt (blk_lt (bY BK238.out)) : gb238 ≠ gb253))
   have n7_ := Aside0.mk ((by rw [hg]; exact Nat.ne_of_gt (blk_lt (bY BK238.out)) : gb253 ≠ gb238))
   clear HO241
   clear BK238
   clear HB
   have HO241 := n0_
   have BK238 := n1_
   have HB := n2_
   have BK253 := n3_
   have GW253 := n4_
   have GE253 := n5_
   have NB238_253 := n6_
   have NB253_238 := n7_
   clear n0_ n1_ n2_ n3_ n4_ n5_ n6_ n7_
   clear hb hbox hg
   refine hK.out _ _ ⟨(blk_cell BK238.out 0).trans rfl, (blk_cell BK238.out 1).trans rfl, (blk_cell BK238.out 2).trans rfl, (blk_cell BK238.out 3).trans rfl, HS4_, HS5_⟩ (fun hHeld => ?_)
   clear hK K
   refine norm_ (a' := ?_) ?_ ?_
   rotate_left
   ·show Act.put _ (some 5) _ = _
    simp only [pS]
    rfl
   refine one_ (i := 5) (N := some 21) #[T, T, T, T, T, T, T, T, T, T, F, F, F, F, F, F, T, F, F] rfl rfl (one_of HT_.out (by kernel_rfl)) (by decide) (fun K hK => ?_)
   refine Kd.R_lit_step (Kd.int .i64) _ 3 ?hg (N := 21) ?hd (xs := ([1, 2, 4] : List Int)) (inner := [.int .i64 1, .int .i64 2, .int .i64 4]) (ok := fun _ => True) (okp := fun _ => True) ?hr ?hp (fun _ hk => hk) trivial (Below.refl _ _) (Nat.le_refl _) (by simp) ?_; (case hd => rfl); (case hg => rfl); (case hr => first | (go_simp; done) | (go_simp; rfl)); (case hp => exact (Reps.one (show Kd.M (Kd.int .i64) _ _ _ 1 [.int .i64 1] from rfl) (Reps.one (show Kd.M (Kd.int .i64) _ _ _ 2 [.int .i64 2] from rfl) (Reps.one (show Kd.M (Kd.int .i64) _ _ _ 4 [.int .i64 4] from rfl) (Reps.none _ _)))))
   intro v244 w100 ho101 hb hg_ hnew_
   have HS4_ := (hb.cell (World.block_lt_of_cell? _ _ (hHeld.2.2.2.2.1))).trans (hHeld.2.2.2.2.1)
   have HS5_ := (hb.cell (World.block_lt_of_cell? _ _ (hHeld.2.2.2.2.2))).trans (hHeld.2.2.2.2.2)
   clear hg_ hnew_
   (first | rw [← Ny243.out] at ho101 | (simp only [Int.reduceToNat] at ho101; rw [← Ny243.out] at ho101))
   have n0_ := Aside0.mk (Kd.R_elder' (rY HO241.out) (Kd.R_base ho101) hb)
   have n1_ := Aside0.mk (Kd.R_lower (Kd.R_new' ho101 (Kd.R_lt (rY HO241.out))) (below_size (by repeat (first | (with_reducible first | exact HB.out | apply below_alloc | apply pw_below_drewN | apply below_drew1 | refine below_set ?_ GE238.out | refine below_set ?_ GE253.out) | exact HB.out))))
   have n2_ := Aside0.mk (blk_below (bY BK238.out) hb)
   have n3_ := Aside0.mk (blk_below (bY BK253.out) hb)
   have n4_ := Aside0.mk (below_step (by repeat (first | (with_reducible first | exact HB.out | apply below_alloc | apply pw_below_drewN | apply below_drew1 | refine below_set ?_ GE238.out | refine below_set ?_ GE253.out) | exact HB.out)) hb)
   clear HO241
   clear BK238
   clear BK253
   clear HB
   have HO241 := n0_
   have HO245 := n1_
   have BK238 := n2_
   have BK253 := n3_
   have HB := n4_
   clear n0_ n1_ n2_ n3_ n4_
   clear hb ho101
   obtain ⟨Ao102, co102, eo102⟩ := Kd.R_slice HO245.out
   subst eo102
   obtain ⟨ado102, fo102, _⟩ := Kd.at_int (Kd.R_reads' HO245.out).2.2 0 (by decide) (by rw [Ny243.out]; simp)
   cases fo102
   refine hK.out _ _ ⟨(blk_cell BK238.out 0).trans rfl, (blk_cell BK238.out 1).trans rfl, (blk_cell BK238.out 2).trans rfl, (blk_cell BK238.out 3).trans rfl, HS4_, HS5_⟩ (fun hHeld => ?_)
   clear hK K
   refine norm_ (a' := ?_) ?_ ?_
   rotate_left
   ·show Act.put _ (some 21) _ = _
    simp only [pS]
    rfl
   refine pure_ (i := 10) (N := some 26) (v := ?_) (a' := ?_) #[T, T, T, T, T, T, T, T, T, T, T, F, F, F, F, F, T, F, F] rfl rfl (any_of HT_.out (by kernel_rfl)) (fun _ _ _ h => h) (Or.inl ⟨by rfl, ?_⟩) ?_ ?_
   rotate_left
   ·intro w'
    go_simp
    with_reducible rfl
   rotate_left
   ·simp only [pS]
    rfl
   refine one_ (i := 11) (N := some 27) #[T, T, T, T, T, T, T, T, T, T, T, T, F, F, F, F, T, F, F] rfl rfl (one_of HT_.out (by kernel_rfl)) (by decide) (fun K hK => ?_)
   (have p247 : 0 ≤ ((ji8) : Int) := of_decide_eq_true (by first | (with_reducible assumption) | assumption); have q247 : (ji8) < (y243.length : Int) := of_decide_eq_true (by first | (with_reducible assumption) | assumption); obtain ⟨ad247, e247, hx247_0⟩ := Kd.at_int (Kd.R_reads' HO245.out).2.2 (ji8) p247 q247; obtain rfl : ado102 = ad247 := (by injection e247))
   refine value_ (w1 := ?_) (v := ?_) (by rfl) rfl ?_ ?_
   rotate_left 2
   ·go_simp
    constructor
    ·rfl
    ·rfl
   clear hx247_0
   refine hK.out _ _ ⟨(blk_cell BK238.out 0).trans rfl, (blk_cell BK238.out 1).trans rfl, (blk_cell BK238.out 2).trans rfl, (blk_cell BK238.out 3).trans rfl, hHeld.2.2.2.2.1, hHeld.2.2.2.2.2⟩ (fun hHeld => ?_)
   clear hK K
   refine norm_ (a' := ?_) ?_ ?_
   rotate_left
   ·show Act.put _ (some 27) _ = _
    simp only [pS]
    rfl
   refine one_ (i := 12) (N := some 28) #[T, T, T, T, T, T, T, T, T, T, T, T, T, F, F, F, T, F, F] rfl rfl (one_of HT_.out (by kernel_rfl)) (by decide) (fun K hK => ?_)
   refine goes_ Try.func25 (by kernel_rfl) rfl #[.agg #[.int .i64 t234, .int .i64 t235, .int .i64 t236, .int .i64 t237], .int .i64 (Int.tmod (rd t239 0) 7), .int .i64 (rd y243 (ji8))] (by rfl) rfl rfl (by (try simp only [List.map_toArray, List.map_cons, List.map_nil]); first | done | (simp only [hji8]; rfl) | rfl | (simp only [List.length_drop, List.length_take]; rfl)) ?_
   with_reducible refine (impl_PortStep.calls k t234 t235 t236 t237 (Int.tmod (rd t239 0) 7) (rd y243 (ji8)) t248 t249 t250 t251 false _ A11.out).mono ?_
   rintro e w103 ⟨rfl, hb⟩
   have HS4_ := (hb.cell (World.block_lt_of_cell? _ _ (hHeld.2.2.2.2.1))).trans (hHeld.2.2.2.2.1)
   have HS5_ := (hb.cell (World.block_lt_of_cell? _ _ (hHeld.2.2.2.2.2))).trans (hHeld.2.2.2.2.2)
   refine ⟨_, rfl, ?_⟩
   have n0_ := Aside0.mk (Kd.R_below (rY HO241.out) hb)
   have n1_ := Aside0.mk (Kd.R_below (rY HO245.out) hb)
   have n2_ := Aside0.mk (blk_below (bY BK238.out) hb)
   have n3_ := Aside0.mk (blk_below (bY BK253.out) hb)
   have n4_ := Aside0.mk (below_step (by repeat (first | (with_reducible first | exact HB.out | apply below_alloc | apply pw_below_drewN | apply below_drew1 | refine below_set ?_ GE238.out | refine below_set ?_ GE253.out) | exact HB.out)) hb)
   clear HO241
   clear HO245
   clear BK238
   clear BK253
   clear HB
   have HO241 := n0_
   have HO245 := n1_
   have BK238 := n2_
   have BK253 := n3_
   have HB := n4_
   clear n0_ n1_ n2_ n3_ n4_
   refine hK.out _ _ ⟨(blk_cell BK238.out 0).trans rfl, (blk_cell BK238.out 1).trans rfl, (blk_cell BK238.out 2).trans rfl, (blk_cell BK238.out 3).trans rfl, HS4_, HS5_⟩ (fun hHeld => ?_)
   clear hK K
   refine norm_ (a' := ?_) ?_ ?_
   rotate_left
   ·show Act.put _ (some 28) _ = _
    simp only [pS]
    rfl
   refine pure_ (i := 13) (N := some 15) (v := ?_) (a' := ?_) #[T, T, T, T, T, T, T, T, T, T, T, T, T, T, F, F, T, F, F] rfl rfl (any_of HT_.out (by kernel_rfl)) (fun _ _ _ h => h) (Or.inl ⟨by rfl, ?_⟩) ?_ ?_
   rotate_left
   ·intro w'
    go_simp
    with_reducible rfl
   rotate_left
   ·simp only [pS]
    rfl
   refine pure_ (i := 14) (N := some 29) (v := ?_) (a' := ?_) #[T, T, T, T, T, T, T, T, T, T, T, T, T, T, T, F, T, F, F] rfl rfl (any_of HT_.out (by kernel_rfl)) (fun _ _ _ h => h) (Or.inl ⟨by rfl, ?_⟩) ?_ ?_
   rotate_left
   ·intro w'
    go_simp
    with_reducible rfl
   rotate_left
   ·simp only [pS]
    rfl
   refine pure_ (i := 15) (N := some 30) (v := ?_) (a' := ?_) #[T, T, T, T, T, T, T, T, T, T, T, T, T, T, T, T, T, F, F] rfl rfl (any_of HT_.out (by kernel_rfl)) (fun _ _ _ h => h) (Or.inl ⟨by rfl, ?_⟩) ?_ ?_
   rotate_left
   ·intro w'
    go_simp
    with_reducible rfl
   rotate_left
   ·simp only [pS]
    rfl
   exact norm_ (by simp only [putAll, Act.put, List.setIfInBounds_toArray, List.set_cons_zero, List.set_cons_succ]) (hCont (.slice (some ado102) y243.length co102, ado102, gb253) _ ⟨hHeld, (by (repeat apply rX); exact Kd.R_mono HO241.out (fun _ hk => hk.2)), (by (repeat apply rX); exact Kd.R_mono HO245.out (fun _ hk => hk.2)), ⟨_, rfl⟩, (bY BK238.out), (bY BK253.out), GW253.out, GE253.out, NB238_253.out, NB253_238.out, (by repeat (first | (with_reducible first | exact HB.out | apply below_alloc | apply pw_below_drewN | apply below_drew1 | refine below_set ?_ GE238.out | refine below_set ?_ GE253.out) | exact HB.out))⟩)
 rintro ⟨v244, adz_v244, gb253⟩ w104 ⟨hS_, h0_, h1_, h2_, h3_, h4_, h5_, h6_, h7_, h8_, h9_⟩
 have n0_ : Aside0 (Kd.R (Kd.int .i64) 3 w104 w.heap.size (fun k_ => some k_ ≠ (v244 : Value).ownBlock) (.slice (some ad242) t239.length co98) t239) := ⟨h0_⟩
 have n1_ : Aside0 (Kd.R (Kd.int .i64) 3 w104 w.heap.size (fun k_ => some k_ ≠ (.slice (some ad242) t239.length co98 : Value).ownBlock) v244 y243) := ⟨h1_⟩
 have n2_ : Aside0 (∃ c_, (v244 : Value) = .slice (some adz_v244) y243.length c_) := ⟨h2_⟩
 have n3_ : Aside0 (w104.heap[gb238]? = some (.cells #[.int .i64 t234, .int .i64 t235, .int .i64 t236, .int .i64 t237] 46 (0, 0))) := ⟨h3_⟩
 have n4_ : Aside0 (w104.heap[gb253]? = some (.cells #[.int .i64 0, .int .i64 0, .int .i64 0, .int .i64 0] 46 (0, 0))) := ⟨h4_⟩
 have n5_ : Aside0 (w.heap.size ≤ gb253) := ⟨h5_⟩
 have n6_ : Aside0 (w.heap.size ≤ gb253) := ⟨h6_⟩
 have n7_ : Aside0 (gb238 ≠ gb253) := ⟨h7_⟩
 have n8_ : Aside0 (gb253 ≠ gb238) := ⟨h8_⟩
 have n9_ : Aside0 (Below w.heap.size w w104) := ⟨h9_⟩
 clear HO241
 clear BK238
 clear HB
 clear h0_ h1_ h2_ h3_ h4_ h5_ h6_ h7_ h8_ h9_
 have HO241 := n0_
 have HO245 := n1_
 have HA_HO245 := n2_
 have BK238 := n3_
 have BK253 := n4_
 have GW253 := n5_
 have GE253 := n6_
 have NB238_253 := n7_
 have NB253_238 := n8_
 have HB := n9_
 clear n0_ n1_ n2_ n3_ n4_ n5_ n6_ n7_ n8_ n9_
 have hHeld : w104.cell? ⟨gb238, 0, none⟩ = some (.int .i64 t234) ∧ w104.cell? ⟨gb238, 1, none⟩ = some (.int .i64 t235) ∧ w104.cell? ⟨gb238, 2, none⟩ = some (.int .i64 t236) ∧ w104.cell? ⟨gb238, 3, none⟩ = some (.int .i64 t237) ∧ w104.cell? ad242 = some (.int .i64 (rd t239 0)) ∧ w104.cell? ⟨ad242.block, ad242.off + 1, none⟩ = some (.int .i64 (rd t239 1)) := hS_
 obtain ⟨co105, eo105⟩ := HA_HO245.out
 clear HA_HO245
 subst eo105
 refine norm_ (a' := ?_) ?_ ?_
 rotate_left
 ·simp only [putAll, Act.put, List.setIfInBounds_toArray, List.set_cons_zero, List.set_cons_succ]
  rfl
 refine one_ (i := 17) (N := none) #[T, T, T, T, T, T, T, T, T, T, T, T, T, T, T, T, T, T, F] rfl rfl (one_of HT_.out (by kernel_rfl)) (by decide) (fun K hK => ?_)
 have hs106 : w104.cell? ⟨gb253, 0, none⟩ = some (.int .i64 0) := (blk_cell BK253.out 0).trans rfl
 have hfs106 := blk_frozen BK253.out 0
 have hns106_0 := NB238_253.out
 have hms106_0 := NB253_238.out
 have hs107 : w104.cell? ⟨gb253, 1, none⟩ = some (.int .i64 0) := (blk_cell BK253.out 1).trans rfl
 have hfs107 := blk_frozen BK253.out 1
 have hns107_0 := NB238_253.out
 have hms107_0 := NB253_238.out
 have hs108 : w104.cell? ⟨gb253, 2, none⟩ = some (.int .i64 0) := (blk_cell BK253.out 2).trans rfl
 have hfs108 := blk_frozen BK253.out 2
 have hns108_0 := NB238_253.out
 have hms108_0 := NB253_238.out
 have hs109 : w104.cell? ⟨gb253, 3, none⟩ = some (.int .i64 0) := (blk_cell BK253.out 3).trans rfl
 have hfs109 := blk_frozen BK253.out 3
 have hns109_0 := NB238_253.out
 have hms109_0 := NB253_238.out
 refine skip_ (w1 := ?_) (by rfl) rfl ?_ ?_
 rotate_left
 ·go_simp
  rfl
 refine hK.out _ _ ⟨((cell_far (p := ⟨gb253, _, none⟩) NB238_253.out _).trans (((cell_far (p := ⟨gb253, _, none⟩) NB238_253.out _).trans (((cell_far (p := ⟨gb253, _, none⟩) NB238_253.out _).trans (((cell_far (p := ⟨gb253, _, none⟩) NB238_253.out _).trans (hHeld.1)))))))), ((cell_far (p := ⟨gb253, _, none⟩) NB238_253.out _).trans (((cell_far (p := ⟨gb253, _, none⟩) NB238_253.out _).trans (((cell_far (p := ⟨gb253, _, none⟩) NB238_253.out _).trans (((cell_far (p := ⟨gb253, _, none⟩) NB238_253.out _).trans (hHeld.2.1)))))))), ((cell_far (p := ⟨gb253, _, none⟩) NB238_253.out _).trans (((cell_far (p := ⟨gb253, _, none⟩) NB238_253.out _).trans (((cell_far (p := ⟨gb253, _, none⟩) NB238_253.out _).trans (((cell_far (p := ⟨gb253, _, none⟩) NB238_253.out _).trans (hHeld.2.2.1)))))))), ((cell_far (p := ⟨gb253, _, none⟩) NB238_253.out _).trans (((cell_far (p := ⟨gb253, _, none⟩) NB238_253.out _).trans (((cell_far (p := ⟨gb253, _, none⟩) NB238_253.out _).trans (((cell_far (p := ⟨gb253, _, none⟩) NB238_253.out _).trans (hHeld.2.2.2.1)))))))), ((cell_far (p := ⟨gb253, _, none⟩) (by have e_ := Kd.own_blk (Kd.R_ne HO241.out BK253.out (by decide)); first | exact e_ | (rw [add_block]; exact e_) | (dsimp only; exact e_)) _).trans (((cell_far (p := ⟨gb253, _, none⟩) (by have e_ := Kd.own_blk (Kd.R_ne HO241.out BK253.out (by decide)); first | exact e_ | (rw [add_block]; exact e_) | (dsimp only; exact e_)) _).trans (((cell_far (p := ⟨gb253, _, none⟩) (by have e_ := Kd.own_blk (Kd.R_ne HO241.out BK253.out (by decide)); first | exact e_ | (rw [add_block]; exact e_) | (dsimp only; exact e_)) _).trans (((cell_far (p := ⟨gb253, _, none⟩) (by have e_ := Kd.own_blk (Kd.R_ne HO241.out BK253.out (by decide)); first | exact e_ | (rw [add_block]; exact e_) | (dsimp only; exact e_)) _).trans (hHeld.2.2.2.2.1)))))))), ((cell_far (p := ⟨gb253, _, none⟩) (by have e_ := Kd.own_blk (Kd.R_ne HO241.out BK253.out (by decide)); first | exact e_ | (rw [add_block]; exact e_) | (dsimp only; exact e_)) _).trans (((cell_far (p := ⟨gb253, _, none⟩) (by have e_ := Kd.own_blk (Kd.R_ne HO241.out BK253.out (by decide)); first | exact e_ | (rw [add_block]; exact e_) | (dsimp only; exact e_)) _).trans (((cell_far (p := ⟨gb253, _, none⟩) (by have e_ := Kd.own_blk (Kd.R_ne HO241.out BK253.out (by decide)); first | exact e_ | (rw [add_block]; exact e_) | (dsimp only; exact e_)) _).trans (((cell_far (p := ⟨gb253, _, none⟩) (by have e_ := Kd.own_blk (Kd.R_ne HO241.out BK253.out (by decide)); first | exact e_ | (rw [add_block]; exact e_) | (dsimp only; exact e_)) _).trans (hHeld.2.2.2.2.2))))))))⟩ (fun hHeld => ?_)
 clear hK K
 refine pure_ (i := 18) (N := some 6) (v := ?_) (a' := ?_) #[T, T, T, T, T, T, T, T, T, T, T, T, T, T, T, T, T, T, T] rfl rfl (any_of HT_.out (by kernel_rfl)) (fun _ _ _ h => h) (Or.inl ⟨by rfl, ?_⟩) ?_ ?_
 rotate_left
 ·intro w'
  go_simp
  with_reducible rfl
 rotate_left
 ·simp only [pS]
  rfl
 refine done_ (done_of HT_.out (by kernel_rfl)) ?_
 have hnb110 := NB238_253.out
 have hnc110 := NB253_238.out
 have hcz111_0 : w104.cell? ⟨gb238, 0, none⟩ = some (.int .i64 t234) := (blk_cell BK238.out 0).trans rfl
 have hcz111_1 : w104.cell? ⟨gb238, 1, none⟩ = some (.int .i64 t235) := (blk_cell BK238.out 1).trans rfl
 have hcz111_2 : w104.cell? ⟨gb238, 2, none⟩ = some (.int .i64 t236) := (blk_cell BK238.out 2).trans rfl
 have hcz111_3 : w104.cell? ⟨gb238, 3, none⟩ = some (.int .i64 t237) := (blk_cell BK238.out 3).trans rfl
 have hfz111_0 := blk_frozen BK238.out 0
 have hfz111_1 := blk_frozen BK238.out 1
 have hfz111_2 := blk_frozen BK238.out 2
 have hfz111_3 := blk_frozen BK238.out 3
 try go_wp2_with (first | ((with_reducible refine gate_callee (f := 25) rfl ?_); refine goesL_ (some 33) rfl rfl Try.func25 (by kernel_rfl) rfl #[.agg #[.int .i64 t234, .int .i64 t235, .int .i64 t236, .int .i64 t237], .int .i64 4, .int .i64 1] rfl (by (try simp only [List.map_toArray, List.map_cons, List.map_nil]); first | done | rfl) ?_; (with_reducible refine (impl_PortStep.calls k t234 t235 t236 t237 4 1 t254 t255 t256 t257 true _ A12.out).mono ?_); rintro e w112 ⟨rfl, hb⟩; refine ⟨_, rfl, ?_⟩; have n0_ := Aside0.mk (Kd.R_below (by (repeat apply rX); exact (Kd.R_mono (Kd.R_far (p := ⟨gb253, 3, none⟩) (Kd.R_far (p := ⟨gb253, 2, none⟩) (Kd.R_far (p := ⟨gb253, 1, none⟩) (Kd.R_far (p := ⟨gb253, 0, none⟩) (Kd.R_types HO241.out BK253.out (by decide)) (fun _ hk => hk.2) (.int .i64 t248)) (fun _ hk => hk.2) (.int .i64 t249)) (fun _ hk => hk.2) (.int .i64 t250)) (fun _ hk => hk.2) (.int .i64 t251)) (fun _ h_ => h_.1))) hb); have n1_ := Aside0.mk (Kd.R_below (by (repeat apply rX); exact (Kd.R_mono (Kd.R_far (p := ⟨gb253, 3, none⟩) (Kd.R_far (p := ⟨gb253, 2, none⟩) (Kd.R_far (p := ⟨gb253, 1, none⟩) (Kd.R_far (p := ⟨gb253, 0, none⟩) (Kd.R_types HO245.out BK253.out (by decide)) (fun _ hk => hk.2) (.int .i64 t248)) (fun _ hk => hk.2) (.int .i64 t249)) (fun _ hk => hk.2) (.int .i64 t250)) (fun _ hk => hk.2) (.int .i64 t251)) (fun _ h_ => h_.1))) hb); have n2_ := Aside0.mk (blk_below (g := gb238) (o := .cells #[.int .i64 t234, .int .i64 t235, .int .i64 t236, .int .i64 t237] 46 (0, 0)) (by (repeat apply bX); refine blk_far ?_ NB238_253.out _; (repeat apply bX); refine blk_far ?_ NB238_253.out _; (repeat apply bX); refine blk_far ?_ NB238_253.out _; (repeat apply bX); refine blk_far ?_ NB238_253.out _; (repeat apply bX); exact BK238.out) hb); have n3_ := Aside0.mk (blk_below (g := gb253) (o := .cells #[.int .i64 t248, .int .i64 t249, .int .i64 t250, .int .i64 t251] 46 (0, 0)) (by (repeat apply bX); refine blk_put (cs := #[.int .i64 t248, .int .i64 t249, .int .i64 t250, .int .i64 0]) ?_ 3 _ rfl; (repeat apply bX); refine blk_put (cs := #[.int .i64 t248, .int .i64 t249, .int .i64 0, .int .i64 0]) ?_ 2 _ rfl; (repeat apply bX); refine blk_put (cs := #[.int .i64 t248, .int .i64 0, .int .i64 0, .int .i64 0]) ?_ 1 _ rfl; (repeat apply bX); refine blk_put (cs := #[.int .i64 0, .int .i64 0, .int .i64 0, .int .i64 0]) ?_ 0 _ rfl; (repeat apply bX); exact BK253.out) hb); have n4_ := Aside0.mk (below_step (by repeat (first | (with_reducible first | exact HB.out | apply below_alloc | apply pw_below_drewN | apply below_drew1 | refine below_set ?_ GE238.out | refine below_set ?_ GE253.out) | exact HB.out)) hb); clear HO241; clear HO245; clear BK238; clear BK253; clear HB; have HO241 := n0_; have HO245 := n1_; have BK238 := n2_; have BK253 := n3_; have HB := n4_; clear n0_ n1_ n2_ n3_ n4_; (try clear hb); (try clear hb2); (try clear hk); (try clear hi)) | ((with_reducible refine gate_dst (N := 7) rfl ?_); refine box_event ?hg (N := 7) ?hd (cs := #[.int .i64 0, .int .i64 0, .int .i64 0, .int .i64 0]) (t := 46) ?hr ?_; (case hd => rfl); (case hg => rfl); (case hr => first | (go_simp; done) | (go_simp; rfl)); intro gb259 hg w113 hbox hb; have n0_ := Aside0.mk (Kd.R_below (rY HO241.out) hb); have n1_ := Aside0.mk (Kd.R_below (rY HO245.out) hb); have n2_ := Aside0.mk (blk_below (bY BK238.out) hb); have n3_ := Aside0.mk (blk_below (bY BK253.out) hb); have n4_ := Aside0.mk (below_step (by repeat (first | (with_reducible first | exact HB.out | apply below_alloc | apply pw_below_drewN | apply below_drew1 | refine below_set ?_ GE238.out | refine below_set ?_ GE253.out) | exact HB.out)) hb); have n5_ := Aside0.mk (hbox); have n6_ := Aside0.mk ((by rw [hg]; exact (below_size (by repeat (first | (with_reducible first | exact HB.out | apply below_alloc | apply pw_below_drewN | apply below_drew1 | refine below_set ?_ GE238.out | refine below_set ?_ GE253.out) | exact HB.out))) : w.heap.size ≤ gb259)); have n7_ := Aside0.mk ((by rw [hg]; exact (below_size (by repeat (first | (with_reducible first | exact HB.out | apply below_alloc | apply pw_below_drewN | apply below_drew1 | refine below_set ?_ GE238.out | refine below_set ?_ GE253.out) | exact HB.out))) : w.heap.size ≤ gb259)); have n8_ := Aside0.mk ((by rw [hg]; exact Nat.ne_of_lt (blk_lt (bY BK238.out)) : gb238 ≠ gb259)); have n9_ := Aside0.mk ((by rw [hg]; exact Nat.ne_of_gt (blk_lt (bY BK238.out)) : gb259 ≠ gb238)); have n10_ := Aside0.mk ((by rw [hg]; exact Nat.ne_of_lt (blk_lt (bY BK253.out)) : gb253 ≠ gb259)); have n11_ := Aside0.mk ((by rw [hg]; exact Nat.ne_of_gt (blk_lt (bY BK253.out)) : gb259 ≠ gb253)); clear HO241; clear HO245; clear BK238; clear BK253; clear HB; have HO241 := n0_; have HO245 := n1_; have BK238 := n2_; have BK253 := n3_; have HB := n4_; have BK259 := n5_; have GW259 := n6_; have GE259 := n7_; have NB238_259 := n8_; have NB259_238 := n9_; have NB253_259 := n10_; have NB259_253 := n11_; clear n0_ n1_ n2_ n3_ n4_ n5_ n6_ n7_ n8_ n9_ n10_ n11_; clear hb hbox hg; have hnb114 := NB259_238.out; have hnc114 := NB238_259.out; have hnb115 := NB259_253.out; have hnc115 := NB253_259.out; have hcz116_0 : w113.cell? ⟨gb259, 0, none⟩ = some (.int .i64 0) := (blk_cell BK259.out 0).trans rfl; have hcz116_1 : w113.cell? ⟨gb259, 1, none⟩ = some (.int .i64 0) := (blk_cell BK259.out 1).trans rfl; have hcz116_2 : w113.cell? ⟨gb259, 2, none⟩ = some (.int .i64 0) := (blk_cell BK259.out 2).trans rfl; have hcz116_3 : w113.cell? ⟨gb259, 3, none⟩ = some (.int .i64 0) := (blk_cell BK259.out 3).trans rfl; have hfz116_0 := blk_frozen BK259.out 0; have hfz116_1 := blk_frozen BK259.out 1; have hfz116_2 := blk_frozen BK259.out 2; have hfz116_3 := blk_frozen BK259.out 3; have hcz117_0 : w113.cell? ⟨gb238, 0, none⟩ = some (.int .i64 t234) := (blk_cell BK238.out 0).trans rfl; have hcz117_1 : w113.cell? ⟨gb238, 1, none⟩ = some (.int .i64 t235) := (blk_cell BK238.out 1).trans rfl; have hcz117_2 : w113.cell? ⟨gb238, 2, none⟩ = some (.int .i64 t236) := (blk_cell BK238.out 2).trans rfl; have hcz117_3 : w113.cell? ⟨gb238, 3, none⟩ = some (.int .i64 t237) := (blk_cell BK238.out 3).trans rfl; have hfz117_0 := blk_frozen BK238.out 0; have hfz117_1 := blk_frozen BK238.out 1; have hfz117_2 := blk_frozen BK238.out 2; have hfz117_3 := blk_frozen BK238.out 3) | ((with_reducible refine gate_callee (f := 26) rfl ?_); refine goesL_ (some 37) rfl rfl Try.func26 (by kernel_rfl) rfl #[.agg #[.int .i64 t234, .int .i64 t235, .int .i64 t236, .int .i64 t237]] rfl (by (try simp only [List.map_toArray, List.map_cons, List.map_nil]); first | done | rfl) ?_; (with_reducible refine (impl_PortOk.calls k t234 t235 t236 t237 true _ A13.out).mono ?_); rintro e w118 ⟨rfl, hb⟩; refine ⟨_, rfl, ?_⟩; have n0_ := Aside0.mk (Kd.R_below (by (repeat apply rX); exact (Kd.R_mono (Kd.R_far (p := ⟨gb259, 3, none⟩) (Kd.R_far (p := ⟨gb259, 2, none⟩) (Kd.R_far (p := ⟨gb259, 1, none⟩) (Kd.R_far (p := ⟨gb259, 0, none⟩) (Kd.R_types HO241.out BK259.out (by decide)) (fun _ hk => hk.2) (.int .i64 t254)) (fun _ hk => hk.2) (.int .i64 t255)) (fun _ hk => hk.2) (.int .i64 t256)) (fun _ hk => hk.2) (.int .i64 t257)) (fun _ h_ => h_.1))) hb); have n1_ := Aside0.mk (Kd.R_below (by (repeat apply rX); exact (Kd.R_mono (Kd.R_far (p := ⟨gb259, 3, none⟩) (Kd.R_far (p := ⟨gb259, 2, none⟩) (Kd.R_far (p := ⟨gb259, 1, none⟩) (Kd.R_far (p := ⟨gb259, 0, none⟩) (Kd.R_types HO245.out BK259.out (by decide)) (fun _ hk => hk.2) (.int .i64 t254)) (fun _ hk => hk.2) (.int .i64 t255)) (fun _ hk => hk.2) (.int .i64 t256)) (fun _ hk => hk.2) (.int .i64 t257)) (fun _ h_ => h_.1))) hb); have n2_ := Aside0.mk (blk_below (g := gb238) (o := .cells #[.int .i64 t234, .int .i64 t235, .int .i64 t236, .int .i64 t237] 46 (0, 0)) (by (repeat apply bX); refine blk_far ?_ NB238_259.out _; (repeat apply bX); refine blk_far ?_ NB238_259.out _; (repeat apply bX); refine blk_far ?_ NB238_259.out _; (repeat apply bX); refine blk_far ?_ NB238_259.out _; (repeat apply bX); exact BK238.out) hb); have n3_ := Aside0.mk (blk_below (g := gb253) (o := .cells #[.int .i64 t248, .int .i64 t249, .int .i64 t250, .int .i64 t251] 46 (0, 0)) (by (repeat apply bX); refine blk_far ?_ NB253_259.out _; (repeat apply bX); refine blk_far ?_ NB253_259.out _; (repeat apply bX); refine blk_far ?_ NB253_259.out _; (repeat apply bX); refine blk_far ?_ NB253_259.out _; (repeat apply bX); exact BK253.out) hb); have n4_ := Aside0.mk (blk_below (g := gb259) (o := .cells #[.int .i64 t254, .int .i64 t255, .int .i64 t256, .int .i64 t257] 46 (0, 0)) (by (repeat apply bX); refine blk_put (cs := #[.int .i64 t254, .int .i64 t255, .int .i64 t256, .int .i64 0]) ?_ 3 _ rfl; (repeat apply bX); refine blk_put (cs := #[.int .i64 t254, .int .i64 t255, .int .i64 0, .int .i64 0]) ?_ 2 _ rfl; (repeat apply bX); refine blk_put (cs := #[.int .i64 t254, .int .i64 0, .int .i64 0, .int .i64 0]) ?_ 1 _ rfl; (repeat apply bX); refine blk_put (cs := #[.int .i64 0, .int .i64 0, .int .i64 0, .int .i64 0]) ?_ 0 _ rfl; (repeat apply bX); exact BK259.out) hb); have n5_ := Aside0.mk (below_step (by repeat (first | (with_reducible first | exact HB.out | apply below_alloc | apply pw_below_drewN | apply below_drew1 | refine below_set ?_ GE238.out | refine below_set ?_ GE253.out | refine below_set ?_ GE259.out) | exact HB.out)) hb); clear HO241; clear HO245; clear BK238; clear BK253; clear BK259; clear HB; have HO241 := n0_; have HO245 := n1_; have BK238 := n2_; have BK253 := n3_; have BK259 := n4_; have HB := n5_; clear n0_ n1_ n2_ n3_ n4_ n5_; (try clear hb); (try clear hb2); (try clear hk); (try clear hi); have hcz119_0 : w118.cell? ⟨gb253, 0, none⟩ = some (.int .i64 t248) := (blk_cell BK253.out 0).trans rfl; have hcz119_1 : w118.cell? ⟨gb253, 1, none⟩ = some (.int .i64 t249) := (blk_cell BK253.out 1).trans rfl; have hcz119_2 : w118.cell? ⟨gb253, 2, none⟩ = some (.int .i64 t250) := (blk_cell BK253.out 2).trans rfl; have hcz119_3 : w118.cell? ⟨gb253, 3, none⟩ = some (.int .i64 t251) := (blk_cell BK253.out 3).trans rfl; have hfz119_0 := blk_frozen BK253.out 0; have hfz119_1 := blk_frozen BK253.out 1; have hfz119_2 := blk_frozen BK253.out 2; have hfz119_3 := blk_frozen BK253.out 3) | (go_at_call 26; (with_reducible refine (impl_PortOk.calls k t248 t249 t250 t251 true _ A15.out).mono ?_); rintro e w120 ⟨rfl, hb⟩; have n0_ := Aside0.mk (Kd.R_below (rY HO241.out) hb); have n1_ := Aside0.mk (Kd.R_below (rY HO245.out) hb); have n2_ := Aside0.mk (blk_below (bY BK238.out) hb); have n3_ := Aside0.mk (blk_below (bY BK253.out) hb); have n4_ := Aside0.mk (blk_below (bY BK259.out) hb); have n5_ := Aside0.mk (below_step (by repeat (first | (with_reducible first | exact HB.out | apply below_alloc | apply pw_below_drewN | apply below_drew1 | refine below_set ?_ GE238.out | refine below_set ?_ GE253.out | refine below_set ?_ GE259.out) | exact HB.out)) hb); clear HO241; clear HO245; clear BK238; clear BK253; clear BK259; clear HB; have HO241 := n0_; have HO245 := n1_; have BK238 := n2_; have BK253 := n3_; have BK259 := n4_; have HB := n5_; clear n0_ n1_ n2_ n3_ n4_ n5_; (try clear hb); (try clear hb2); (try clear hk); (try clear hi); have hcz121_0 : w120.cell? ⟨gb253, 0, none⟩ = some (.int .i64 t248) := (blk_cell BK253.out 0).trans rfl; have hcz121_1 : w120.cell? ⟨gb253, 1, none⟩ = some (.int .i64 t249) := (blk_cell BK253.out 1).trans rfl; have hcz121_2 : w120.cell? ⟨gb253, 2, none⟩ = some (.int .i64 t250) := (blk_cell BK253.out 2).trans rfl; have hcz121_3 : w120.cell? ⟨gb253, 3, none⟩ = some (.int .i64 t251) := (blk_cell BK253.out 3).trans rfl; have hfz121_0 := blk_frozen BK253.out 0; have hfz121_1 := blk_frozen BK253.out 1; have hfz121_2 := blk_frozen BK253.out 2; have hfz121_3 := blk_frozen BK253.out 3; have hcz122_0 : w120.cell? ⟨gb238, 0, none⟩ = some (.int .i64 t234) := (blk_cell BK238.out 0).trans rfl; have hcz122_1 : w120.cell? ⟨gb238, 1, none⟩ = some (.int .i64 t235) := (blk_cell BK238.out 1).trans rfl; have hcz122_2 : w120.cell? ⟨gb238, 2, none⟩ = some (.int .i64 t236) := (blk_cell BK238.out 2).trans rfl; have hcz122_3 : w120.cell? ⟨gb238, 3, none⟩ = some (.int .i64 t237) := (blk_cell BK238.out 3).trans rfl; have hfz122_0 := blk_frozen BK238.out 0; have hfz122_1 := blk_frozen BK238.out 1; have hfz122_2 := blk_frozen BK238.out 2; have hfz122_3 := blk_frozen BK238.out 3; have hcz123_0 : w120.cell? ⟨gb259, 0, none⟩ = some (.int .i64 t254) := (blk_cell BK259.out 0).trans rfl; have hcz123_1 : w120.cell? ⟨gb259, 1, none⟩ = some (.int .i64 t255) := (blk_cell BK259.out 1).trans rfl; have hcz123_2 : w120.cell? ⟨gb259, 2, none⟩ = some (.int .i64 t256) := (blk_cell BK259.out 2).trans rfl; have hcz123_3 : w120.cell? ⟨gb259, 3, none⟩ = some (.int .i64 t257) := (blk_cell BK259.out 3).trans rfl; have hfz123_0 := blk_frozen BK259.out 0; have hfz123_1 := blk_frozen BK259.out 1; have hfz123_2 := blk_frozen BK259.out 2; have hfz123_3 := blk_frozen BK259.out 3) | (go_at_call 27; (with_reducible refine (impl_StateName.calls t234 t264 _ A92.out).mono ?_); rintro e w' ⟨rfl, ⟨nd, rfl⟩⟩))
 go_ret
 exact ⟨by first | rfl | (generalize t264.toList = z_; cases z_ <;> first | rfl | (simp; done)) | (simp [errW_none, errW_some] <;> rfl) | (simp only [← hji8]; first | rfl | (simp [errW_none, errW_some] <;> rfl)) | (simp [*, errW_none, errW_some] <;> rfl), by repeat (first | (with_reducible first | exact HB.out | apply below_alloc | apply pw_below_drewN | apply below_drew1 | refine below_set ?_ GE238.out | refine below_set ?_ GE253.out | refine below_set ?_ GE259.out) | exact HB.out)⟩
 all_goals (exfalso; rename_i hn_; simp only [Bool.and_eq_true, beq_iff_eq] at c86b0; exact hn_ ⟨c86b0.1, c86b0.2.1, c86b0.2.2.2⟩)
/-- THE ONE PURE STATEMENT of laws_FnPorts: yours. -/
def laws_FnPorts.Pure : Prop := ∀ (l0 : List Int), l0.length ≤ maxLen → l0.length * 1 ≤ 140737488351232 → (∀ x ∈ l0, (Lit.int .u8 x).wf = true) → ∃ k, laws_FnPorts.f k l0 = some true
theorem laws_FnPorts.walk (P : laws_FnPorts.Pure) (a0 : Option Addr) (len0 cap0 : Nat) (z0 : List Int) (w : World) (w0 : (a0 = none ∧ len0 = 0 ∧ cap0 = 0 ∧ z0 = []) ∨ ∃ x, a0 = some x ∧ len0 ≤ cap0 ∧ cap0 ≤ maxLen ∧ z0.length = cap0 ∧ (∀ i, i < z0.length → w.cell? (x.add i) = some (.int .u8 (z0.getD i 0))) ∧ ∀ n ∈ z0, (Lit.int .u8 n).wf = true) (y0 : len0 * 1 ≤ 140737488351232) :
  Calls Try.prog 6 #[.slice a0 len0 cap0] w fun e w' => e = .returned (.bool true) ∧ Below w.heap.size w w' := by
 obtain ⟨l0, rfl, hr0, hm0, hw0, hc0⟩ := ReadsInt.ofRowC w0
 obtain ⟨k, h⟩ := P l0 hm0 y0 hw0
 refine (laws_FnPorts.calls k _ _ l0 true w (Kd.C_of_reads (d := (0 : Int)) (h1 := fun _ => rfl) hr0) hc0 ⟨rfl⟩ h).mono ?_
 rintro e w' ⟨rfl, hd⟩
 exact ⟨rfl, hd⟩

end Go.Proofs.Ytemapchppbpfmaa.PFnPorts
