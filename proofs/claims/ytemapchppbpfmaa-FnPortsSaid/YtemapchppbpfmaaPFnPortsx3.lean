-- Written by a program of this session (wip/xp): not trusted, Lean checks it.
import Derived.Test.YtemapchppbpfmaaPFnPortsx0
import Derived.Test.YtemapchppbpfmaaPFnPortsx2
namespace Go.Proofs.Ytemapchppbpfmaa.PFnPorts
open Go.RowKit Go.Proofs.YtemapchppbpfmaaW.PrintWords Go.Proofs.YtemapchppbpfmaaW.PrintLast Go.Proofs.YtemapchppbpfmaaW.PrintMore
attribute [local go_sem] max2_int min2_int max_two min_two max_three min_three max_four min_four   -- for this text's walks alone
set_option linter.unusedVariables false
set_option linter.unusedSimpArgs false

/-! ### spec_PortStep: function 66 -/
mutual
def spec_PortStep.j0 : Nat → Int → Int → Bool → Int → Int → Int → Int → Int → Int → Int → Int → Int → Int → Int → Int → Option (Int × Int × Int × Int × Bool)
 | 0, _, _, _, _, _, _, _, _, _, _, _, _, _, _, _ => none
 | k + 1, x1, x2, x19, x131000, x131001, x131002, x131003, x134000, x134001, x134002, x134003, x135000, x135001, x135002, x135003 => if x19 = true then (some (1, x134001, x134002, x134003, true)) else (if x1 = 1 then (spec_PortStep.j1 k x1 x2 (x131000 == 1) x131000 x131001 x131002 x131003 x134000 x134001 x134002 x134003 x135000 x135001 x135002 x135003) else (spec_PortStep.j1 k x1 x2 false x131000 x131001 x131002 x131003 x134000 x134001 x134002 x134003 x135000 x135001 x135002 x135003))
def spec_PortStep.j1 : Nat → Int → Int → Bool → Int → Int → Int → Int → Int → Int → Int → Int → Int → Int → Int → Int → Option (Int × Int × Int × Int × Bool)
 | 0, _, _, _, _, _, _, _, _, _, _, _, _, _, _, _ => none
 | k + 1, x1, x2, x28, x131000, x131001, x131002, x131003, x134000, x134001, x134002, x134003, x135000, x135001, x135002, x135003 => if x28 = true then (some (2, x134001, x134002, 0, true)) else (if x1 = 1 then (spec_PortStep.j2 k x1 x2 (x131000 == 4) x131000 x131001 x131002 x131003 x134000 x134001 x134002 x134003 x135000 x135001 x135002 x135003) else (spec_PortStep.j2 k x1 x2 false x131000 x131001 x131002 x131003 x134000 x134001 x134002 x134003 x135000 x135001 x135002 x135003))
def spec_PortStep.j2 : Nat → Int → Int → Bool → Int → Int → Int → Int → Int → Int → Int → Int → Int → Int → Int → Int → Option (Int × Int × Int × Int × Bool)
 | 0, _, _, _, _, _, _, _, _, _, _, _, _, _, _, _ => none
 | k + 1, x1, x2, x38, x131000, x131001, x131002, x131003, x134000, x134001, x134002, x134003, x135000, x135001, x135002, x135003 => if x38 = true then (some (3, x134001, x134002, 0, true)) else (if x1 = 2 then (if x131000 = 2 then ((spec_IsWidth.f x2).bind fun t135 => (spec_PortStep.j3 k x1 x2 t135 x131000 x131001 x131002 x131003 x134000 x134001 x134002 x134003 x135000 x135001 x135002 x135003)) else (spec_PortStep.j3 k x1 x2 false x131000 x131001 x131002 x131003 x134000 x134001 x134002 x134003 x135000 x135001 x135002 x135003)) else (spec_PortStep.j3 k x1 x2 false x131000 x131001 x131002 x131003 x134000 x134001 x134002 x134003 x135000 x135001 x135002 x135003))
def spec_PortStep.j3 : Nat → Int → Int → Bool → Int → Int → Int → Int → Int → Int → Int → Int → Int → Int → Int → Int → Option (Int × Int × Int × Int × Bool)
 | 0, _, _, _, _, _, _, _, _, _, _, _, _, _, _, _ => none
 | k + 1, x1, x2, x48, x131000, x131001, x131002, x131003, x134000, x134001, x134002, x134003, x135000, x135001, x135002, x135003 => if x48 = true then (some (3, mn x131002 x2, x134002, x134003, true)) else (if x1 = 3 then (spec_PortStep.j4 k x1 (x131000 == 3) x131000 x131001 x131002 x131003 x134000 x134001 x134002 x134003 x135000 x135001 x135002 x135003) else (spec_PortStep.j4 k x1 false x131000 x131001 x131002 x131003 x134000 x134001 x134002 x134003 x135000 x135001 x135002 x135003))
def spec_PortStep.j4 : Nat → Int → Bool → Int → Int → Int → Int → Int → Int → Int → Int → Int → Int → Int → Int → Option (Int × Int × Int × Int × Bool)
 | 0, _, _, _, _, _, _, _, _, _, _, _, _, _, _ => none
 | k + 1, x1, x66, x131000, x131001, x131002, x131003, x134000, x134001, x134002, x134003, x135000, x135001, x135002, x135003 => if x66 = true then (some (4, x134001, x134002, x134003, true)) else (if x1 = 4 then (spec_PortStep.j5 k x1 (x131000 != 5) x131000 x131001 x131002 x131003 x134000 x134001 x134002 x134003 x135000 x135001 x135002 x135003) else (spec_PortStep.j5 k x1 false x131000 x131001 x131002 x131003 x134000 x134001 x134002 x134003 x135000 x135001 x135002 x135003))
def spec_PortStep.j5 : Nat → Int → Bool → Int → Int → Int → Int → Int → Int → Int → Int → Int → Int → Int → Int → Option (Int × Int × Int × Int × Bool)
 | 0, _, _, _, _, _, _, _, _, _, _, _, _, _, _ => none
 | k + 1, x1, x75, x131000, x131001, x131002, x131003, x134000, x134001, x134002, x134003, x135000, x135001, x135002, x135003 => if x75 = true then (some (x135000, x135001, x135002, x135003, true)) else (if x1 = 5 then (some (5, x135001, x135002, x135003, true)) else (if x1 = 6 then (if x131000 = 1 then (spec_PortStep.j6 k x1 true x131000 x131001 x131002 x131003 x134000 x134001 x134002 x134003 x135000 x135001 x135002 x135003) else (if x131000 = 2 then (spec_PortStep.j6 k x1 true x131000 x131001 x131002 x131003 x134000 x134001 x134002 x134003 x135000 x135001 x135002 x135003) else (if x131000 = 4 then (spec_PortStep.j6 k x1 (x131003 == 3) x131000 x131001 x131002 x131003 x134000 x134001 x134002 x134003 x135000 x135001 x135002 x135003) else (spec_PortStep.j6 k x1 false x131000 x131001 x131002 x131003 x134000 x134001 x134002 x134003 x135000 x135001 x135002 x135003)))) else (spec_PortStep.j6 k x1 false x131000 x131001 x131002 x131003 x134000 x134001 x134002 x134003 x135000 x135001 x135002 x135003)))
def spec_PortStep.j6 : Nat → Int → Bool → Int → Int → Int → Int → Int → Int → Int → Int → Int → Int → Int → Int → Option (Int × Int × Int × Int × Bool)
 | 0, _, _, _, _, _, _, _, _, _, _, _, _, _, _ => none
 | k + 1, x1, x89, x131000, x131001, x131002, x131003, x134000, x134001, x134002, x134003, x135000, x135001, x135002, x135003 => if x89 = true then (some (x135000, x135001, x135002, x135003, true)) else (if x1 = 6 then (if x131000 = 4 then (some (x134000, x134001, x134002, wrap64 (x131003 + 1), true)) else (some (x131000, x131001, x131002, x131003, false))) else (some (x131000, x131001, x131002, x131003, false)))
end
def spec_PortStep.f (k : Nat) (a0_0 : Int) (a0_1 : Int) (a0_2 : Int) (a0_3 : Int) (a1 : Int) (a2 : Int) : Option (Int × Int × Int × Int × Bool) := (spec_PortOk.f k a0_0 a0_1 a0_2 a0_3).bind fun t132 => (if t132 = true then (if a1 = 0 then (spec_PortStep.j0 k a1 a2 (a0_0 == 0) a0_0 a0_1 a0_2 a0_3 a0_0 a0_1 a0_2 a0_3 0 0 a0_2 0) else (spec_PortStep.j0 k a1 a2 false a0_0 a0_1 a0_2 a0_3 a0_0 a0_1 a0_2 a0_3 0 0 a0_2 0)) else (some (a0_0, a0_1, a0_2, a0_3, false)))
theorem spec_PortStep.mono_l : ∀ k, (∀ y0 y1 y2 y3 y4 y5 y6 y7 y8 y9 y10 y11 y12 y13 y14, LeO (spec_PortStep.j0 k y0 y1 y2 y3 y4 y5 y6 y7 y8 y9 y10 y11 y12 y13 y14) (spec_PortStep.j0 (k + 1) y0 y1 y2 y3 y4 y5 y6 y7 y8 y9 y10 y11 y12 y13 y14)) ∧ (∀ y0 y1 y2 y3 y4 y5 y6 y7 y8 y9 y10 y11 y12 y13 y14, LeO (spec_PortStep.j1 k y0 y1 y2 y3 y4 y5 y6 y7 y8 y9 y10 y11 y12 y13 y14) (spec_PortStep.j1 (k + 1) y0 y1 y2 y3 y4 y5 y6 y7 y8 y9 y10 y11 y12 y13 y14)) ∧ (∀ y0 y1 y2 y3 y4 y5 y6 y7 y8 y9 y10 y11 y12 y13 y14, LeO (spec_PortStep.j2 k y0 y1 y2 y3 y4 y5 y6 y7 y8 y9 y10 y11 y12 y13 y14) (spec_PortStep.j2 (k + 1) y0 y1 y2 y3 y4 y5 y6 y7 y8 y9 y10 y11 y12 y13 y14)) ∧ (∀ y0 y1 y2 y3 y4 y5 y6 y7 y8 y9 y10 y11 y12 y13 y14, LeO (spec_PortStep.j3 k y0 y1 y2 y3 y4 y5 y6 y7 y8 y9 y10 y11 y12 y13 y14) (spec_PortStep.j3 (k + 1) y0 y1 y2 y3 y4 y5 y6 y7 y8 y9 y10 y11 y12 y13 y14)) ∧ (∀ y0 y1 y2 y3 y4 y5 y6 y7 y8 y9 y10 y11 y12 y13, LeO (spec_PortStep.j4 k y0 y1 y2 y3 y4 y5 y6 y7 y8 y9 y10 y11 y12 y13) (spec_PortStep.j4 (k + 1) y0 y1 y2 y3 y4 y5 y6 y7 y8 y9 y10 y11 y12 y13)) ∧ (∀ y0 y1 y2 y3 y4 y5 y6 y7 y8 y9 y10 y11 y12 y13, LeO (spec_PortStep.j5 k y0 y1 y2 y3 y4 y5 y6 y7 y8 y9 y10 y11 y12 y13) (spec_PortStep.j5 (k + 1) y0 y1 y2 y3 y4 y5 y6 y7 y8 y9 y10 y11 y12 y13)) ∧ (∀ y0 y1 y2 y3 y4 y5 y6 y7 y8 y9 y10 y11 y12 y13, LeO (spec_PortStep.j6 k y0 y1 y2 y3 y4 y5 y6 y7 y8 y9 y10 y11 y12 y13) (spec_PortStep.j6 (k + 1) y0 y1 y2 y3 y4 y5 y6 y7 y8 y9 y10 y11 y12 y13))
 | 0 => ⟨fun _ _ _ _ _ _ _ _ _ _ _ _ _ _ _ r h => by simp [spec_PortStep.j0] at h, fun _ _ _ _ _ _ _ _ _ _ _ _ _ _ _ r h => by simp [spec_PortStep.j1] at h, fun _ _ _ _ _ _ _ _ _ _ _ _ _ _ _ r h => by simp [spec_PortStep.j2] at h, fun _ _ _ _ _ _ _ _ _ _ _ _ _ _ _ r h => by simp [spec_PortStep.j3] at h, fun _ _ _ _ _ _ _ _ _ _ _ _ _ _ r h => by simp [spec_PortStep.j4] at h, fun _ _ _ _ _ _ _ _ _ _ _ _ _ _ r h => by simp [spec_PortStep.j5] at h, fun _ _ _ _ _ _ _ _ _ _ _ _ _ _ r h => by simp [spec_PortStep.j6] at h⟩
 | k + 1 => by
  obtain ⟨ih0, ih1, ih2, ih3, ih4, ih5, ih6⟩ := spec_PortStep.mono_l k
  refine ⟨?_, ?_, ?_, ?_, ?_, ?_, ?_⟩
  ·intro y0 y1 y2 y3 y4 y5 y6 y7 y8 y9 y10 y11 y12 y13 y14
   unfold spec_PortStep.j0
   repeat' first
   | (with_reducible exact ih0 _ _ _ _ _ _ _ _ _ _ _ _ _ _ _)
   | (with_reducible exact ih1 _ _ _ _ _ _ _ _ _ _ _ _ _ _ _)
   | (with_reducible exact ih2 _ _ _ _ _ _ _ _ _ _ _ _ _ _ _)
   | (with_reducible exact ih3 _ _ _ _ _ _ _ _ _ _ _ _ _ _ _)
   | (with_reducible exact ih4 _ _ _ _ _ _ _ _ _ _ _ _ _ _)
   | (with_reducible exact ih5 _ _ _ _ _ _ _ _ _ _ _ _ _ _)
   | (with_reducible exact ih6 _ _ _ _ _ _ _ _ _ _ _ _ _ _)
   | (with_reducible exact spec_PortOk.mono _ _ _ _ _)
   | (with_reducible exact LeO.refl _)
   | (with_reducible exact LeO.none _)
   | (with_reducible refine LeO.ite ?_ ?_)
   | (with_reducible refine LeO.bind ?_ (fun _ => ?_))
   | exact ih0 _ _ _ _ _ _ _ _ _ _ _ _ _ _ _
   | exact ih1 _ _ _ _ _ _ _ _ _ _ _ _ _ _ _
   | exact ih2 _ _ _ _ _ _ _ _ _ _ _ _ _ _ _
   | exact ih3 _ _ _ _ _ _ _ _ _ _ _ _ _ _ _
   | exact ih4 _ _ _ _ _ _ _ _ _ _ _ _ _ _
   | exact ih5 _ _ _ _ _ _ _ _ _ _ _ _ _ _
   | exact ih6 _ _ _ _ _ _ _ _ _ _ _ _ _ _
   | exact spec_PortOk.mono _ _ _ _ _
   | exact LeO.none _
   | refine LeO.ite ?_ ?_
   | refine LeO.bind ?_ (fun _ => ?_)
  ·intro y0 y1 y2 y3 y4 y5 y6 y7 y8 y9 y10 y11 y12 y13 y14
   unfold spec_PortStep.j1
   repeat' first
   | (with_reducible exact ih0 _ _ _ _ _ _ _ _ _ _ _ _ _ _ _)
   | (with_reducible exact ih1 _ _ _ _ _ _ _ _ _ _ _ _ _ _ _)
   | (with_reducible exact ih2 _ _ _ _ _ _ _ _ _ _ _ _ _ _ _)
   | (with_reducible exact ih3 _ _ _ _ _ _ _ _ _ _ _ _ _ _ _)
   | (with_reducible exact ih4 _ _ _ _ _ _ _ _ _ _ _ _ _ _)
   | (with_reducible exact ih5 _ _ _ _ _ _ _ _ _ _ _ _ _ _)
   | (with_reducible exact ih6 _ _ _ _ _ _ _ _ _ _ _ _ _ _)
   | (with_reducible exact spec_PortOk.mono _ _ _ _ _)
   | (with_reducible exact LeO.refl _)
   | (with_reducible exact LeO.none _)
   | (with_reducible refine LeO.ite ?_ ?_)
   | (with_reducible refine LeO.bind ?_ (fun _ => ?_))
   | exact ih0 _ _ _ _ _ _ _ _ _ _ _ _ _ _ _
   | exact ih1 _ _ _ _ _ _ _ _ _ _ _ _ _ _ _
   | exact ih2 _ _ _ _ _ _ _ _ _ _ _ _ _ _ _
   | exact ih3 _ _ _ _ _ _ _ _ _ _ _ _ _ _ _
   | exact ih4 _ _ _ _ _ _ _ _ _ _ _ _ _ _
   | exact ih5 _ _ _ _ _ _ _ _ _ _ _ _ _ _
   | exact ih6 _ _ _ _ _ _ _ _ _ _ _ _ _ _
   | exact spec_PortOk.mono _ _ _ _ _
   | exact LeO.none _
   | refine LeO.ite ?_ ?_
   | refine LeO.bind ?_ (fun _ => ?_)
  ·intro y0 y1 y2 y3 y4 y5 y6 y7 y8 y9 y10 y11 y12 y13 y14
   unfold spec_PortStep.j2
   repeat' first
   | (with_reducible exact ih0 _ _ _ _ _ _ _ _ _ _ _ _ _ _ _)
   | (with_reducible exact ih1 _ _ _ _ _ _ _ _ _ _ _ _ _ _ _)
   | (with_reducible exact ih2 _ _ _ _ _ _ _ _ _ _ _ _ _ _ _)
   | (with_reducible exact ih3 _ _ _ _ _ _ _ _ _ _ _ _ _ _ _)
   | (with_reducible exact ih4 _ _ _ _ _ _ _ _ _ _ _ _ _ _)
   | (with_reducible exact ih5 _ _ _ _ _ _ _ _ _ _ _ _ _ _)
   | (with_reducible exact ih6 _ _ _ _ _ _ _ _ _ _ _ _ _ _)
   | (with_reducible exact spec_PortOk.mono _ _ _ _ _)
   | (with_reducible exact LeO.refl _)
   | (with_reducible exact LeO.none _)
   | (with_reducible refine LeO.ite ?_ ?_)
   | (with_reducible refine LeO.bind ?_ (fun _ => ?_))
   | exact ih0 _ _ _ _ _ _ _ _ _ _ _ _ _ _ _
   | exact ih1 _ _ _ _ _ _ _ _ _ _ _ _ _ _ _
   | exact ih2 _ _ _ _ _ _ _ _ _ _ _ _ _ _ _
   | exact ih3 _ _ _ _ _ _ _ _ _ _ _ _ _ _ _
   | exact ih4 _ _ _ _ _ _ _ _ _ _ _ _ _ _
   | exact ih5 _ _ _ _ _ _ _ _ _ _ _ _ _ _
   | exact ih6 _ _ _ _ _ _ _ _ _ _ _ _ _ _
   | exact spec_PortOk.mono _ _ _ _ _
   | exact LeO.none _
   | refine LeO.ite ?_ ?_
   | refine LeO.bind ?_ (fun _ => ?_)
  ·intro y0 y1 y2 y3 y4 y5 y6 y7 y8 y9 y10 y11 y12 y13 y14
   unfold spec_PortStep.j3
   repeat' first
   | (with_reducible exact ih0 _ _ _ _ _ _ _ _ _ _ _ _ _ _ _)
   | (with_reducible exact ih1 _ _ _ _ _ _ _ _ _ _ _ _ _ _ _)
   | (with_reducible exact ih2 _ _ _ _ _ _ _ _ _ _ _ _ _ _ _)
   | (with_reducible exact ih3 _ _ _ _ _ _ _ _ _ _ _ _ _ _ _)
   | (with_reducible exact ih4 _ _ _ _ _ _ _ _ _ _ _ _ _ _)
   | (with_reducible exact ih5 _ _ _ _ _ _ _ _ _ _ _ _ _ _)
   | (with_reducible exact ih6 _ _ _ _ _ _ _ _ _ _ _ _ _ _)
   | (with_reducible exact spec_PortOk.mono _ _ _ _ _)
   | (with_reducible exact LeO.refl _)
   | (with_reducible exact LeO.none _)
   | (with_reducible refine LeO.ite ?_ ?_)
   | (with_reducible refine LeO.bind ?_ (fun _ => ?_))
   | exact ih0 _ _ _ _ _ _ _ _ _ _ _ _ _ _ _
   | exact ih1 _ _ _ _ _ _ _ _ _ _ _ _ _ _ _
   | exact ih2 _ _ _ _ _ _ _ _ _ _ _ _ _ _ _
   | exact ih3 _ _ _ _ _ _ _ _ _ _ _ _ _ _ _
   | exact ih4 _ _ _ _ _ _ _ _ _ _ _ _ _ _
   | exact ih5 _ _ _ _ _ _ _ _ _ _ _ _ _ _
   | exact ih6 _ _ _ _ _ _ _ _ _ _ _ _ _ _
   | exact spec_PortOk.mono _ _ _ _ _
   | exact LeO.none _
   | refine LeO.ite ?_ ?_
   | refine LeO.bind ?_ (fun _ => ?_)
  ·intro y0 y1 y2 y3 y4 y5 y6 y7 y8 y9 y10 y11 y12 y13
   unfold spec_PortStep.j4
   repeat' first
   | (with_reducible exact ih0 _ _ _ _ _ _ _ _ _ _ _ _ _ _ _)
   | (with_reducible exact ih1 _ _ _ _ _ _ _ _ _ _ _ _ _ _ _)
   | (with_reducible exact ih2 _ _ _ _ _ _ _ _ _ _ _ _ _ _ _)
   | (with_reducible exact ih3 _ _ _ _ _ _ _ _ _ _ _ _ _ _ _)
   | (with_reducible exact ih4 _ _ _ _ _ _ _ _ _ _ _ _ _ _)
   | (with_reducible exact ih5 _ _ _ _ _ _ _ _ _ _ _ _ _ _)
   | (with_reducible exact ih6 _ _ _ _ _ _ _ _ _ _ _ _ _ _)
   | (with_reducible exact spec_PortOk.mono _ _ _ _ _)
   | (with_reducible exact LeO.refl _)
   | (with_reducible exact LeO.none _)
   | (with_reducible refine LeO.ite ?_ ?_)
   | (with_reducible refine LeO.bind ?_ (fun _ => ?_))
   | exact ih0 _ _ _ _ _ _ _ _ _ _ _ _ _ _ _
   | exact ih1 _ _ _ _ _ _ _ _ _ _ _ _ _ _ _
   | exact ih2 _ _ _ _ _ _ _ _ _ _ _ _ _ _ _
   | exact ih3 _ _ _ _ _ _ _ _ _ _ _ _ _ _ _
   | exact ih4 _ _ _ _ _ _ _ _ _ _ _ _ _ _
   | exact ih5 _ _ _ _ _ _ _ _ _ _ _ _ _ _
   | exact ih6 _ _ _ _ _ _ _ _ _ _ _ _ _ _
   | exact spec_PortOk.mono _ _ _ _ _
   | exact LeO.none _
   | refine LeO.ite ?_ ?_
   | refine LeO.bind ?_ (fun _ => ?_)
  ·intro y0 y1 y2 y3 y4 y5 y6 y7 y8 y9 y10 y11 y12 y13
   unfold spec_PortStep.j5
   repeat' first
   | (with_reducible exact ih0 _ _ _ _ _ _ _ _ _ _ _ _ _ _ _)
   | (with_reducible exact ih1 _ _ _ _ _ _ _ _ _ _ _ _ _ _ _)
   | (with_reducible exact ih2 _ _ _ _ _ _ _ _ _ _ _ _ _ _ _)
   | (with_reducible exact ih3 _ _ _ _ _ _ _ _ _ _ _ _ _ _ _)
   | (with_reducible exact ih4 _ _ _ _ _ _ _ _ _ _ _ _ _ _)
   | (with_reducible exact ih5 _ _ _ _ _ _ _ _ _ _ _ _ _ _)
   | (with_reducible exact ih6 _ _ _ _ _ _ _ _ _ _ _ _ _ _)
   | (with_reducible exact spec_PortOk.mono _ _ _ _ _)
   | (with_reducible exact LeO.refl _)
   | (with_reducible exact LeO.none _)
   | (with_reducible refine LeO.ite ?_ ?_)
   | (with_reducible refine LeO.bind ?_ (fun _ => ?_))
   | exact ih0 _ _ _ _ _ _ _ _ _ _ _ _ _ _ _
   | exact ih1 _ _ _ _ _ _ _ _ _ _ _ _ _ _ _
   | exact ih2 _ _ _ _ _ _ _ _ _ _ _ _ _ _ _
   | exact ih3 _ _ _ _ _ _ _ _ _ _ _ _ _ _ _
   | exact ih4 _ _ _ _ _ _ _ _ _ _ _ _ _ _
   | exact ih5 _ _ _ _ _ _ _ _ _ _ _ _ _ _
   | exact ih6 _ _ _ _ _ _ _ _ _ _ _ _ _ _
   | exact spec_PortOk.mono _ _ _ _ _
   | exact LeO.none _
   | refine LeO.ite ?_ ?_
   | refine LeO.bind ?_ (fun _ => ?_)
  ·intro y0 y1 y2 y3 y4 y5 y6 y7 y8 y9 y10 y11 y12 y13
   unfold spec_PortStep.j6
   repeat' first
   | (with_reducible exact ih0 _ _ _ _ _ _ _ _ _ _ _ _ _ _ _)
   | (with_reducible exact ih1 _ _ _ _ _ _ _ _ _ _ _ _ _ _ _)
   | (with_reducible exact ih2 _ _ _ _ _ _ _ _ _ _ _ _ _ _ _)
   | (with_reducible exact ih3 _ _ _ _ _ _ _ _ _ _ _ _ _ _ _)
   | (with_reducible exact ih4 _ _ _ _ _ _ _ _ _ _ _ _ _ _)
   | (with_reducible exact ih5 _ _ _ _ _ _ _ _ _ _ _ _ _ _)
   | (with_reducible exact ih6 _ _ _ _ _ _ _ _ _ _ _ _ _ _)
   | (with_reducible exact spec_PortOk.mono _ _ _ _ _)
   | (with_reducible exact LeO.refl _)
   | (with_reducible exact LeO.none _)
   | (with_reducible refine LeO.ite ?_ ?_)
   | (with_reducible refine LeO.bind ?_ (fun _ => ?_))
   | exact ih0 _ _ _ _ _ _ _ _ _ _ _ _ _ _ _
   | exact ih1 _ _ _ _ _ _ _ _ _ _ _ _ _ _ _
   | exact ih2 _ _ _ _ _ _ _ _ _ _ _ _ _ _ _
   | exact ih3 _ _ _ _ _ _ _ _ _ _ _ _ _ _ _
   | exact ih4 _ _ _ _ _ _ _ _ _ _ _ _ _ _
   | exact ih5 _ _ _ _ _ _ _ _ _ _ _ _ _ _
   | exact ih6 _ _ _ _ _ _ _ _ _ _ _ _ _ _
   | exact spec_PortOk.mono _ _ _ _ _
   | exact LeO.none _
   | refine LeO.ite ?_ ?_
   | refine LeO.bind ?_ (fun _ => ?_)
theorem spec_PortStep.mono : ∀ a0 a1 a2 a3 a4 a5 k, LeO (spec_PortStep.f k a0 a1 a2 a3 a4 a5) (spec_PortStep.f (k + 1) a0 a1 a2 a3 a4 a5) := by
 intro a0 a1 a2 a3 a4 a5 k
 obtain ⟨ih0, ih1, ih2, ih3, ih4, ih5, ih6⟩ := spec_PortStep.mono_l k
 unfold spec_PortStep.f
 repeat' first
   | (with_reducible exact ih0 _ _ _ _ _ _ _ _ _ _ _ _ _ _ _)
   | (with_reducible exact ih1 _ _ _ _ _ _ _ _ _ _ _ _ _ _ _)
   | (with_reducible exact ih2 _ _ _ _ _ _ _ _ _ _ _ _ _ _ _)
   | (with_reducible exact ih3 _ _ _ _ _ _ _ _ _ _ _ _ _ _ _)
   | (with_reducible exact ih4 _ _ _ _ _ _ _ _ _ _ _ _ _ _)
   | (with_reducible exact ih5 _ _ _ _ _ _ _ _ _ _ _ _ _ _)
   | (with_reducible exact ih6 _ _ _ _ _ _ _ _ _ _ _ _ _ _)
   | (with_reducible exact spec_PortOk.mono _ _ _ _ _)
   | (with_reducible exact LeO.refl _)
   | (with_reducible exact LeO.none _)
   | (with_reducible refine LeO.ite ?_ ?_)
   | (with_reducible refine LeO.bind ?_ (fun _ => ?_))
   | exact ih0 _ _ _ _ _ _ _ _ _ _ _ _ _ _ _
   | exact ih1 _ _ _ _ _ _ _ _ _ _ _ _ _ _ _
   | exact ih2 _ _ _ _ _ _ _ _ _ _ _ _ _ _ _
   | exact ih3 _ _ _ _ _ _ _ _ _ _ _ _ _ _ _
   | exact ih4 _ _ _ _ _ _ _ _ _ _ _ _ _ _
   | exact ih5 _ _ _ _ _ _ _ _ _ _ _ _ _ _
   | exact ih6 _ _ _ _ _ _ _ _ _ _ _ _ _ _
   | exact spec_PortOk.mono _ _ _ _ _
   | exact LeO.none _
   | refine LeO.ite ?_ ?_
   | refine LeO.bind ?_ (fun _ => ?_)
set_option maxHeartbeats 8000000 in
set_option maxRecDepth 100000 in
theorem spec_PortStep.calls (k : Nat) (a0_0 : Int) (a0_1 : Int) (a0_2 : Int) (a0_3 : Int) (a1 : Int) (a2 : Int) (r1 : Int) (r2 : Int) (r3 : Int) (r4 : Int) (r5 : Bool) (w : World) (h : spec_PortStep.f k a0_0 a0_1 a0_2 a0_3 a1 a2 = some (r1, r2, r3, r4, r5)) :
  Calls Try.prog 66 #[.agg #[.int .i64 a0_0, .int .i64 a0_1, .int .i64 a0_2, .int .i64 a0_3], .int .i64 a1, .int .i64 a2] w fun e w' => e = .returned (.tuple #[.agg #[.int .i64 r1, .int .i64 r2, .int .i64 r3, .int .i64 r4], .bool r5]) ∧ Below w.heap.size w w' := by
 have hu46 := Try.underlying46
 have HB := Aside0.mk (Below.refl w.heap.size w)
 have H : ((spec_PortOk.f k a0_0 a0_1 a0_2 a0_3).bind fun t132 => (if t132 = true then (if a1 = 0 then (spec_PortStep.j0 k a1 a2 (a0_0 == 0) a0_0 a0_1 a0_2 a0_3 a0_0 a0_1 a0_2 a0_3 0 0 a0_2 0) else (spec_PortStep.j0 k a1 a2 false a0_0 a0_1 a0_2 a0_3 a0_0 a0_1 a0_2 a0_3 0 0 a0_2 0)) else (some (a0_0, a0_1, a0_2, a0_3, false)))) = some (r1, r2, r3, r4, r5) := h
 clear h
 replace H := Option.bind_eq_some_iff.mp H
 obtain ⟨t132, A40, H⟩ := H
 have A4 := Aside0.mk A40
 clear A40
 by_cases c5 : t132 = true
 rotate_left
 ·replace c5 := Bool.eq_false_iff.mpr c5
  subst c5
  have H1 : (some (a0_0, a0_1, a0_2, a0_3, false)) = some (r1, r2, r3, r4, r5) := by rw [if_neg (show ¬ (false = true) by decide)] at H; exact H
  clear H
  have H := H1
  clear H1
  simp only [Option.some.injEq, Prod.mk.injEq] at H
  obtain ⟨rfl, rfl, rfl, rfl, rfl⟩ := H
  go_enter Try.func66, Try.ntmps66
  go_wp2_with (first | ((with_reducible refine gate_dst (N := 3) rfl ?_); refine box_event ?hg (N := 3) ?hd (cs := #[.int .i64 a0_0, .int .i64 a0_1, .int .i64 a0_2, .int .i64 a0_3]) (t := 46) ?hr ?_; (case hd => rfl); (case hg => rfl); (case hr => first | (go_simp; done) | (go_simp; rfl)); intro gb130 hg w183 hbox hb; have n0_ := Aside0.mk (below_step (by repeat (first | (with_reducible first | exact HB.out | apply below_alloc | apply pw_below_drewN | apply below_drew1) | exact HB.out)) hb); have n1_ := Aside0.mk (hbox); have n2_ := Aside0.mk ((by rw [hg]; exact (below_size (by repeat (first | (with_reducible first | exact HB.out | apply below_alloc | apply pw_below_drewN | apply below_drew1) | exact HB.out))) : w.heap.size ≤ gb130)); have n3_ := Aside0.mk ((by rw [hg]; exact (below_size (by repeat (first | (with_reducible first | exact HB.out | apply below_alloc | apply pw_below_drewN | apply below_drew1) | exact HB.out))) : w.heap.size ≤ gb130)); clear HB; have HB := n0_; have BK130 := n1_; have GW130 := n2_; have GE130 := n3_; clear n0_ n1_ n2_ n3_; clear hb hbox hg) | ((with_reducible refine gate_dst (N := 6) rfl ?_); refine box_event ?hg (N := 6) ?hd (cs := #[.int .i64 0, .int .i64 0, .int .i64 0, .int .i64 0]) (t := 46) ?hr ?_; (case hd => rfl); (case hg => rfl); (case hr => first | (go_simp; done) | (go_simp; rfl)); intro gb131 hg w184 hbox hb; have n0_ := Aside0.mk (blk_below (bY BK130.out) hb); have n1_ := Aside0.mk (below_step (by repeat (first | (with_reducible first | exact HB.out | apply below_alloc | apply pw_below_drewN | apply below_drew1 | refine below_set ?_ GE130.out) | exact HB.out)) hb); have n2_ := Aside0.mk (hbox); have n3_ := Aside0.mk ((by rw [hg]; exact (below_size (by repeat (first | (with_reducible first | exact HB.out | apply below_alloc | apply pw_below_drewN | apply below_drew1 | refine below_set ?_ GE130.out) | exact HB.out))) : w.heap.size ≤ gb131)); have n4_ := Aside0.mk ((by rw [hg]; exact (below_size (by repeat (first | (with_reducible first | exact HB.out | apply below_alloc | apply pw_below_drewN | apply below_drew1 | refine below_set ?_ GE130.out) | exact HB.out))) : w.heap.size ≤ gb131)); have n5_ := Aside0.mk ((by rw [hg]; exact Nat.ne_of_lt (blk_lt (bY BK130.out)) : gb130 ≠ gb131)); have n6_ := Aside0.mk ((by rw [hg]; exact Nat.ne_of_gt (blk_lt (bY BK130.out)) : gb131 ≠ gb130)); clear BK130; clear HB; have BK130 := n0_; have HB := n1_; have BK131 := n2_; have GW131 := n3_; have GE131 := n4_; have NB130_131 := n5_; have NB131_130 := n6_; clear n0_ n1_ n2_ n3_ n4_ n5_ n6_; clear hb hbox hg; have hnb185 := NB130_131.out; have hnc185 := NB131_130.out; have hcz186_0 : w184.cell? ⟨gb130, 0, none⟩ = some (.int .i64 a0_0) := (blk_cell BK130.out 0).trans rfl; have hcz186_1 : w184.cell? ⟨gb130, 1, none⟩ = some (.int .i64 a0_1) := (blk_cell BK130.out 1).trans rfl; have hcz186_2 : w184.cell? ⟨gb130, 2, none⟩ = some (.int .i64 a0_2) := (blk_cell BK130.out 2).trans rfl; have hcz186_3 : w184.cell? ⟨gb130, 3, none⟩ = some (.int .i64 a0_3) := (blk_cell BK130.out 3).trans rfl; have hfz186_0 := blk_frozen BK130.out 0; have hfz186_1 := blk_frozen BK130.out 1; have hfz186_2 := blk_frozen BK130.out 2; have hfz186_3 := blk_frozen BK130.out 3) | ((with_reducible refine gate_callee (f := 67) rfl ?_); refine goesL_ (some 11) rfl rfl Try.func67 (by kernel_rfl) rfl #[.agg #[.int .i64 a0_0, .int .i64 a0_1, .int .i64 a0_2, .int .i64 a0_3]] rfl (by (try simp only [List.map_toArray, List.map_cons, List.map_nil]); first | done | rfl) ?_; (with_reducible refine (spec_PortOk.calls k a0_0 a0_1 a0_2 a0_3 false _ A4.out).mono ?_); rintro e w187 ⟨rfl, hb⟩; refine ⟨_, rfl, ?_⟩; have n0_ := Aside0.mk (blk_below (bY BK130.out) hb); have n1_ := Aside0.mk (blk_below (bY BK131.out) hb); have n2_ := Aside0.mk (below_step (by repeat (first | (with_reducible first | exact HB.out | apply below_alloc | apply pw_below_drewN | apply below_drew1 | refine below_set ?_ GE130.out | refine below_set ?_ GE131.out) | exact HB.out)) hb); clear BK130; clear BK131; clear HB; have BK130 := n0_; have BK131 := n1_; have HB := n2_; clear n0_ n1_ n2_; (try clear hb); (try clear hb2); (try clear hk); (try clear hi); have hcz188_0 : w187.cell? ⟨gb130, 0, none⟩ = some (.int .i64 a0_0) := (blk_cell BK130.out 0).trans rfl; have hcz188_1 : w187.cell? ⟨gb130, 1, none⟩ = some (.int .i64 a0_1) := (blk_cell BK130.out 1).trans rfl; have hcz188_2 : w187.cell? ⟨gb130, 2, none⟩ = some (.int .i64 a0_2) := (blk_cell BK130.out 2).trans rfl; have hcz188_3 : w187.cell? ⟨gb130, 3, none⟩ = some (.int .i64 a0_3) := (blk_cell BK130.out 3).trans rfl; have hfz188_0 := blk_frozen BK130.out 0; have hfz188_1 := blk_frozen BK130.out 1; have hfz188_2 := blk_frozen BK130.out 2; have hfz188_3 := blk_frozen BK130.out 3; have hcz189_0 : w187.cell? ⟨gb131, 0, none⟩ = some (.int .i64 0) := (blk_cell BK131.out 0).trans rfl; have hcz189_1 : w187.cell? ⟨gb131, 1, none⟩ = some (.int .i64 0) := (blk_cell BK131.out 1).trans rfl; have hcz189_2 : w187.cell? ⟨gb131, 2, none⟩ = some (.int .i64 0) := (blk_cell BK131.out 2).trans rfl; have hcz189_3 : w187.cell? ⟨gb131, 3, none⟩ = some (.int .i64 0) := (blk_cell BK131.out 3).trans rfl; have hfz189_0 := blk_frozen BK131.out 0; have hfz189_1 := blk_frozen BK131.out 1; have hfz189_2 := blk_frozen BK131.out 2; have hfz189_3 := blk_frozen BK131.out 3))
  refine bodyPost_ret (results_ct rfl _ _ gb131 46 #[.int .i64 a0_0, .int .i64 a0_1, .int .i64 a0_2, .int .i64 a0_3] (0, 0) _ rfl (by (repeat apply bX); refine blk_put (cs := #[.int .i64 a0_0, .int .i64 a0_1, .int .i64 a0_2, .int .i64 0]) ?_ 3 _ rfl; (repeat apply bX); refine blk_put (cs := #[.int .i64 a0_0, .int .i64 a0_1, .int .i64 0, .int .i64 0]) ?_ 2 _ rfl; (repeat apply bX); refine blk_put (cs := #[.int .i64 a0_0, .int .i64 0, .int .i64 0, .int .i64 0]) ?_ 1 _ rfl; (repeat apply bX); refine blk_put (cs := #[.int .i64 0, .int .i64 0, .int .i64 0, .int .i64 0]) ?_ 0 _ rfl; (repeat apply bX); exact BK131.out) Try.underlying46 rfl (by kernel_rfl)) rfl ?_
  exact ⟨by first | rfl | (simp [errW_none, errW_some] <;> rfl) | (simp [*, errW_none, errW_some] <;> rfl), by repeat (first | (with_reducible first | exact HB.out | apply below_alloc | apply pw_below_drewN | apply below_drew1 | refine below_set ?_ GE130.out | refine below_set ?_ GE131.out) | exact HB.out)⟩
 subst c5
 have H1 : (if a1 = 0 then (spec_PortStep.j0 k a1 a2 (a0_0 == 0) a0_0 a0_1 a0_2 a0_3 a0_0 a0_1 a0_2 a0_3 0 0 a0_2 0) else (spec_PortStep.j0 k a1 a2 false a0_0 a0_1 a0_2 a0_3 a0_0 a0_1 a0_2 a0_3 0 0 a0_2 0)) = some (r1, r2, r3, r4, r5) := by rw [if_pos rfl] at H; exact H
 clear H
 have H := H1
 clear H1
 have HC6 := Aside0.mk H
 clear H
 go_enter Try.func66, Try.ntmps66
 go_upto_region 6 with (first | ((with_reducible refine gate_dst (N := 3) rfl ?_); refine box_event ?hg (N := 3) ?hd (cs := #[.int .i64 a0_0, .int .i64 a0_1, .int .i64 a0_2, .int .i64 a0_3]) (t := 46) ?hr ?_; (case hd => rfl); (case hg => rfl); (case hr => first | (go_simp; done) | (go_simp; rfl)); intro gb130 hg w7 hbox hb; have n0_ := Aside0.mk (below_step (by repeat (first | (with_reducible first | exact HB.out | apply below_alloc | apply pw_below_drewN | apply below_drew1) | exact HB.out)) hb); have n1_ := Aside0.mk (hbox); have n2_ := Aside0.mk ((by rw [hg]; exact (below_size (by repeat (first | (with_reducible first | exact HB.out | apply below_alloc | apply pw_below_drewN | apply below_drew1) | exact HB.out))) : w.heap.size ≤ gb130)); have n3_ := Aside0.mk ((by rw [hg]; exact (below_size (by repeat (first | (with_reducible first | exact HB.out | apply below_alloc | apply pw_below_drewN | apply below_drew1) | exact HB.out))) : w.heap.size ≤ gb130)); clear HB; have HB := n0_; have BK130 := n1_; have GW130 := n2_; have GE130 := n3_; clear n0_ n1_ n2_ n3_; clear hb hbox hg) | ((with_reducible refine gate_dst (N := 6) rfl ?_); refine box_event ?hg (N := 6) ?hd (cs := #[.int .i64 0, .int .i64 0, .int .i64 0, .int .i64 0]) (t := 46) ?hr ?_; (case hd => rfl); (case hg => rfl); (case hr => first | (go_simp; done) | (go_simp; rfl)); intro gb131 hg w8 hbox hb; have n0_ := Aside0.mk (blk_below (bY BK130.out) hb); have n1_ := Aside0.mk (below_step (by repeat (first | (with_reducible first | exact HB.out | apply below_alloc | apply pw_below_drewN | apply below_drew1 | refine below_set ?_ GE130.out) | exact HB.out)) hb); have n2_ := Aside0.mk (hbox); have n3_ := Aside0.mk ((by rw [hg]; exact (below_size (by repeat (first | (with_reducible first | exact HB.out | apply below_alloc | apply pw_below_drewN | apply below_drew1 | refine below_set ?_ GE130.out) | exact HB.out))) : w.heap.size ≤ gb131)); have n4_ := Aside0.mk ((by rw [hg]; exact (below_size (by repeat (first | (with_reducible first | exact HB.out | apply below_alloc | apply pw_below_drewN | apply below_drew1 | refine below_set ?_ GE130.out) | exact HB.out))) : w.heap.size ≤ gb131)); have n5_ := Aside0.mk ((by rw [hg]; exact Nat.ne_of_lt (blk_lt (bY BK130.out)) : gb130 ≠ gb131)); have n6_ := Aside0.mk ((by rw [hg]; exact Nat.ne_of_gt (blk_lt (bY BK130.out)) : gb131 ≠ gb130)); clear BK130; clear HB; have BK130 := n0_; have HB := n1_; have BK131 := n2_; have GW131 := n3_; have GE131 := n4_; have NB130_131 := n5_; have NB131_130 := n6_; clear n0_ n1_ n2_ n3_ n4_ n5_ n6_; clear hb hbox hg; have hnb9 := NB130_131.out; have hnc9 := NB131_130.out; have hcz10_0 : w8.cell? ⟨gb130, 0, none⟩ = some (.int .i64 a0_0) := (blk_cell BK130.out 0).trans rfl; have hcz10_1 : w8.cell? ⟨gb130, 1, none⟩ = some (.int .i64 a0_1) := (blk_cell BK130.out 1).trans rfl; have hcz10_2 : w8.cell? ⟨gb130, 2, none⟩ = some (.int .i64 a0_2) := (blk_cell BK130.out 2).trans rfl; have hcz10_3 : w8.cell? ⟨gb130, 3, none⟩ = some (.int .i64 a0_3) := (blk_cell BK130.out 3).trans rfl; have hfz10_0 := blk_frozen BK130.out 0; have hfz10_1 := blk_frozen BK130.out 1; have hfz10_2 := blk_frozen BK130.out 2; have hfz10_3 := blk_frozen BK130.out 3) | ((with_reducible refine gate_callee (f := 67) rfl ?_); refine goesL_ (some 11) rfl rfl Try.func67 (by kernel_rfl) rfl #[.agg #[.int .i64 a0_0, .int .i64 a0_1, .int .i64 a0_2, .int .i64 a0_3]] rfl (by (try simp only [List.map_toArray, List.map_cons, List.map_nil]); first | done | rfl) ?_; (with_reducible refine (spec_PortOk.calls k a0_0 a0_1 a0_2 a0_3 true _ A4.out).mono ?_); rintro e w11 ⟨rfl, hb⟩; refine ⟨_, rfl, ?_⟩; have n0_ := Aside0.mk (blk_below (bY BK130.out) hb); have n1_ := Aside0.mk (blk_below (bY BK131.out) hb); have n2_ := Aside0.mk (below_step (by repeat (first | (with_reducible first | exact HB.out | apply below_alloc | apply pw_below_drewN | apply below_drew1 | refine below_set ?_ GE130.out | refine below_set ?_ GE131.out) | exact HB.out)) hb); clear BK130; clear BK131; clear HB; have BK130 := n0_; have BK131 := n1_; have HB := n2_; clear n0_ n1_ n2_; (try clear hb); (try clear hb2); (try clear hk); (try clear hi); have hcz12_0 : w11.cell? ⟨gb130, 0, none⟩ = some (.int .i64 a0_0) := (blk_cell BK130.out 0).trans rfl; have hcz12_1 : w11.cell? ⟨gb130, 1, none⟩ = some (.int .i64 a0_1) := (blk_cell BK130.out 1).trans rfl; have hcz12_2 : w11.cell? ⟨gb130, 2, none⟩ = some (.int .i64 a0_2) := (blk_cell BK130.out 2).trans rfl; have hcz12_3 : w11.cell? ⟨gb130, 3, none⟩ = some (.int .i64 a0_3) := (blk_cell BK130.out 3).trans rfl; have hfz12_0 := blk_frozen BK130.out 0; have hfz12_1 := blk_frozen BK130.out 1; have hfz12_2 := blk_frozen BK130.out 2; have hfz12_3 := blk_frozen BK130.out 3) | ((with_reducible refine gate_dst (N := 8) rfl ?_); refine box_event ?hg (N := 8) ?hd (cs := #[.int .i64 0, .int .i64 0, .int .i64 0, .int .i64 0]) (t := 46) ?hr ?_; (case hd => rfl); (case hg => rfl); (case hr => first | (go_simp; done) | (go_simp; rfl)); intro gb133 hg w13 hbox hb; have n0_ := Aside0.mk (blk_below (bY BK130.out) hb); have n1_ := Aside0.mk (blk_below (bY BK131.out) hb); have n2_ := Aside0.mk (below_step (by repeat (first | (with_reducible first | exact HB.out | apply below_alloc | apply pw_below_drewN | apply below_drew1 | refine below_set ?_ GE130.out | refine below_set ?_ GE131.out) | exact HB.out)) hb); have n3_ := Aside0.mk (hbox); have n4_ := Aside0.mk ((by rw [hg]; exact (below_size (by repeat (first | (with_reducible first | exact HB.out | apply below_alloc | apply pw_below_drewN | apply below_drew1 | refine below_set ?_ GE130.out | refine below_set ?_ GE131.out) | exact HB.out))) : w.heap.size ≤ gb133)); have n5_ := Aside0.mk ((by rw [hg]; exact (below_size (by repeat (first | (with_reducible first | exact HB.out | apply below_alloc | apply pw_below_drewN | apply below_drew1 | refine below_set ?_ GE130.out | refine below_set ?_ GE131.out) | exact HB.out))) : w.heap.size ≤ gb133)); have n6_ := Aside0.mk ((by rw [hg]; exact Nat.ne_of_lt (blk_lt (bY BK130.out)) : gb130 ≠ gb133)); have n7_ := Aside0.mk ((by rw [hg]; exact Nat.ne_of_gt (blk_lt (bY BK130.out)) : gb133 ≠ gb130)); have n8_ := Aside0.mk ((by rw [hg]; exact Nat.ne_of_lt (blk_lt (bY BK131.out)) : gb131 ≠ gb133)); have n9_ := Aside0.mk ((by rw [hg]; exact Nat.ne_of_gt (blk_lt (bY BK131.out)) : gb133 ≠ gb131)); clear BK130; clear BK131; clear HB; have BK130 := n0_; have BK131 := n1_; have HB := n2_; have BK133 := n3_; have GW133 := n4_; have GE133 := n5_; have NB130_133 := n6_; have NB133_130 := n7_; have NB131_133 := n8_; have NB133_131 := n9_; clear n0_ n1_ n2_ n3_ n4_ n5_ n6_ n7_ n8_ n9_; clear hb hbox hg; have hnb14 := NB133_130.out; have hnc14 := NB130_133.out; have hnb15 := NB133_131.out; have hnc15 := NB131_133.out; have hcz16_0 : w13.cell? ⟨gb133, 0, none⟩ = some (.int .i64 0) := (blk_cell BK133.out 0).trans rfl; have hcz16_1 : w13.cell? ⟨gb133, 1, none⟩ = some (.int .i64 0) := (blk_cell BK133.out 1).trans rfl; have hcz16_2 : w13.cell? ⟨gb133, 2, none⟩ = some (.int .i64 0) := (blk_cell BK133.out 2).trans rfl; have hcz16_3 : w13.cell? ⟨gb133, 3, none⟩ = some (.int .i64 0) := (blk_cell BK133.out 3).trans rfl; have hfz16_0 := blk_frozen BK133.out 0; have hfz16_1 := blk_frozen BK133.out 1; have hfz16_2 := blk_frozen BK133.out 2; have hfz16_3 := blk_frozen BK133.out 3; have hcz17_0 : w13.cell? ⟨gb130, 0, none⟩ = some (.int .i64 a0_0) := (blk_cell BK130.out 0).trans rfl; have hcz17_1 : w13.cell? ⟨gb130, 1, none⟩ = some (.int .i64 a0_1) := (blk_cell BK130.out 1).trans rfl; have hcz17_2 : w13.cell? ⟨gb130, 2, none⟩ = some (.int .i64 a0_2) := (blk_cell BK130.out 2).trans rfl; have hcz17_3 : w13.cell? ⟨gb130, 3, none⟩ = some (.int .i64 a0_3) := (blk_cell BK130.out 3).trans rfl; have hfz17_0 := blk_frozen BK130.out 0; have hfz17_1 := blk_frozen BK130.out 1; have hfz17_2 := blk_frozen BK130.out 2; have hfz17_3 := blk_frozen BK130.out 3) | ((with_reducible refine gate_dst (N := 9) rfl ?_); refine box_event ?hg (N := 9) ?hd (cs := #[.int .i64 0, .int .i64 0, .int .i64 0, .int .i64 0]) (t := 46) ?hr ?_; (case hd => rfl); (case hg => rfl); (case hr => first | (go_simp; done) | (go_simp; rfl)); intro gb134 hg w18 hbox hb; have n0_ := Aside0.mk (blk_below (g := gb130) (o := .cells #[.int .i64 a0_0, .int .i64 a0_1, .int .i64 a0_2, .int .i64 a0_3] 46 (0, 0)) (by (repeat apply bX); refine blk_far ?_ NB130_133.out _; (repeat apply bX); refine blk_far ?_ NB130_133.out _; (repeat apply bX); refine blk_far ?_ NB130_133.out _; (repeat apply bX); refine blk_far ?_ NB130_133.out _; (repeat apply bX); exact BK130.out) hb); have n1_ := Aside0.mk (blk_below (g := gb131) (o := .cells #[.int .i64 0, .int .i64 0, .int .i64 0, .int .i64 0] 46 (0, 0)) (by (repeat apply bX); refine blk_far ?_ NB131_133.out _; (repeat apply bX); refine blk_far ?_ NB131_133.out _; (repeat apply bX); refine blk_far ?_ NB131_133.out _; (repeat apply bX); refine blk_far ?_ NB131_133.out _; (repeat apply bX); exact BK131.out) hb); have n2_ := Aside0.mk (blk_below (g := gb133) (o := .cells #[.int .i64 a0_0, .int .i64 a0_1, .int .i64 a0_2, .int .i64 a0_3] 46 (0, 0)) (by (repeat apply bX); refine blk_put (cs := #[.int .i64 a0_0, .int .i64 a0_1, .int .i64 a0_2, .int .i64 0]) ?_ 3 _ rfl; (repeat apply bX); refine blk_put (cs := #[.int .i64 a0_0, .int .i64 a0_1, .int .i64 0, .int .i64 0]) ?_ 2 _ rfl; (repeat apply bX); refine blk_put (cs := #[.int .i64 a0_0, .int .i64 0, .int .i64 0, .int .i64 0]) ?_ 1 _ rfl; (repeat apply bX); refine blk_put (cs := #[.int .i64 0, .int .i64 0, .int .i64 0, .int .i64 0]) ?_ 0 _ rfl; (repeat apply bX); exact BK133.out) hb); have n3_ := Aside0.mk (below_step (by repeat (first | (with_reducible first | exact HB.out | apply below_alloc | apply pw_below_drewN | apply below_drew1 | refine below_set ?_ GE130.out | refine below_set ?_ GE131.out | refine below_set ?_ GE133.out) | exact HB.out)) hb); have n4_ := Aside0.mk (hbox); have n5_ := Aside0.mk ((by rw [hg]; exact (below_size (by repeat (first | (with_reducible first | exact HB.out | apply below_alloc | apply pw_below_drewN | apply below_drew1 | refine below_set ?_ GE130.out | refine below_set ?_ GE131.out | refine below_set ?_ GE133.out) | exact HB.out))) : w.heap.size ≤ gb134)); have n6_ := Aside0.mk ((by rw [hg]; exact (below_size (by repeat (first | (with_reducible first | exact HB.out | apply below_alloc | apply pw_below_drewN | apply below_drew1 | refine below_set ?_ GE130.out | refine below_set ?_ GE131.out | refine below_set ?_ GE133.out) | exact HB.out))) : w.heap.size ≤ gb134)); have n7_ := Aside0.mk ((by rw [hg]; exact Nat.ne_of_lt (blk_lt (g := gb130) (o := .cells #[.int .i64 a0_0, .int .i64 a0_1, .int .i64 a0_2, .int .i64 a0_3] 46 (0, 0)) (by (repeat apply bX); refine blk_far ?_ NB130_133.out _; (repeat apply bX); refine blk_far ?_ NB130_133.out _; (repeat apply bX); refine blk_far ?_ NB130_133.out _; (repeat apply bX); refine blk_far ?_ NB130_133.out _; (repeat apply bX); exact BK130.out)) : gb130 ≠ gb134)); have n8_ := Aside0.mk ((by rw [hg]; exact Nat.ne_of_gt (blk_lt (g := gb130) (o := .cells #[.int .i64 a0_0, .int .i64 a0_1, .int .i64 a0_2, .int .i64 a0_3] 46 (0, 0)) (by (repeat apply bX); refine blk_far ?_ NB130_133.out _; (repeat apply bX); refine blk_far ?_ NB130_133.out _; (repeat apply bX); refine blk_far ?_ NB130_133.out _; (repeat apply bX); refine blk_far ?_ NB130_133.out _; (repeat apply bX); exact BK130.out)) : gb134 ≠ gb130)); have n9_ := Aside0.mk ((by rw [hg]; exact Nat.ne_of_lt (blk_lt (g := gb131) (o := .cells #[.int .i64 0, .int .i64 0, .int .i64 0, .int .i64 0] 46 (0, 0)) (by (repeat apply bX); refine blk_far ?_ NB131_133.out _; (repeat apply bX); refine blk_far ?_ NB131_133.out _; (repeat apply bX); refine blk_far ?_ NB131_133.out _; (repeat apply bX); refine blk_far ?_ NB131_133.out _; (repeat apply bX); exact BK131.out)) : gb131 ≠ gb134)); have n10_ := Aside0.mk ((by rw [hg]; exact Nat.ne_of_gt (blk_lt (g := gb131) (o := .cells #[.int .i64 0, .int .i64 0, .int .i64 0, .int .i64 0] 46 (0, 0)) (by (repeat apply bX); refine blk_far ?_ NB131_133.out _; (repeat apply bX); refine blk_far ?_ NB131_133.out _; (repeat apply bX); refine blk_far ?_ NB131_133.out _; (repeat apply bX); refine blk_far ?_ NB131_133.out _; (repeat apply bX); exact BK131.out)) : gb134 ≠ gb131)); have n11_ := Aside0.mk ((by rw [hg]; exact Nat.ne_of_lt (blk_lt (g := gb133) (o := .cells #[.int .i64 a0_0, .int .i64 a0_1, .int .i64 a0_2, .int .i64 a0_3] 46 (0, 0)) (by (repeat apply bX); refine blk_put (cs := #[.int .i64 a0_0, .int .i64 a0_1, .int .i64 a0_2, .int .i64 0]) ?_ 3 _ rfl; (repeat apply bX); refine blk_put (cs := #[.int .i64 a0_0, .int .i64 a0_1, .int .i64 0, .int .i64 0]) ?_ 2 _ rfl; (repeat apply bX); refine blk_put (cs := #[.int .i64 a0_0, .int .i64 0, .int .i64 0, .int .i64 0]) ?_ 1 _ rfl; (repeat apply bX); refine blk_put (cs := #[.int .i64 0, .int .i64 0, .int .i64 0, .int .i64 0]) ?_ 0 _ rfl; (repeat apply bX); exact BK133.out)) : gb133 ≠ gb134)); have n12_ := Aside0.mk ((by rw [hg]; exact Nat.ne_of_gt (blk_lt (g := gb133) (o := .cells #[.int .i64 a0_0, .int .i64 a0_1, .int .i64 a0_2, .int .i64 a0_3] 46 (0, 0)) (by (repeat apply bX); refine blk_put (cs := #[.int .i64 a0_0, .int .i64 a0_1, .int .i64 a0_2, .int .i64 0]) ?_ 3 _ rfl; (repeat apply bX); refine blk_put (cs := #[.int .i64 a0_0, .int .i64 a0_1, .int .i64 0, .int .i64 0]) ?_ 2 _ rfl; (repeat apply bX); refine blk_put (cs := #[.int .i64 a0_0, .int .i64 0, .int .i64 0, .int .i64 0]) ?_ 1 _ rfl; (repeat apply bX); refine blk_put (cs := #[.int .i64 0, .int .i64 0, .int .i64 0, .int .i64 0]) ?_ 0 _ rfl; (repeat apply bX); exact BK133.out)) : gb134 ≠ gb133)); clear BK130; clear BK131; clear BK133; clear HB; have BK130 := n0_; have BK131 := n1_; have BK133 := n2_; have HB := n3_; have BK134 := n4_; have GW134 := n5_; have GE134 := n6_; have NB130_134 := n7_; have NB134_130 := n8_; have NB131_134 := n9_; have NB134_131 := n10_; have NB133_134 := n11_; have NB134_133 := n12_; clear n0_ n1_ n2_ n3_ n4_ n5_ n6_ n7_ n8_ n9_ n10_ n11_ n12_; clear hb hbox hg; have hnb19 := NB134_130.out; have hnc19 := NB130_134.out; have hnb20 := NB134_131.out; have hnc20 := NB131_134.out; have hnb21 := NB134_133.out; have hnc21 := NB133_134.out; have hcz22_0 : w18.cell? ⟨gb134, 0, none⟩ = some (.int .i64 0) := (blk_cell BK134.out 0).trans rfl; have hcz22_1 : w18.cell? ⟨gb134, 1, none⟩ = some (.int .i64 0) := (blk_cell BK134.out 1).trans rfl; have hcz22_2 : w18.cell? ⟨gb134, 2, none⟩ = some (.int .i64 0) := (blk_cell BK134.out 2).trans rfl; have hcz22_3 : w18.cell? ⟨gb134, 3, none⟩ = some (.int .i64 0) := (blk_cell BK134.out 3).trans rfl; have hfz22_0 := blk_frozen BK134.out 0; have hfz22_1 := blk_frozen BK134.out 1; have hfz22_2 := blk_frozen BK134.out 2; have hfz22_3 := blk_frozen BK134.out 3))
 (try simp only [Act.put, List.setIfInBounds_toArray, List.set_cons_zero, List.set_cons_succ])
 go_cut [19] (fun v19 wc => ∃ (kq : Nat) (x19_5 : Bool), v19 = .bool x19_5 ∧ Aside0 (spec_PortStep.j0 kq a1 a2 x19_5 a0_0 a0_1 a0_2 a0_3 a0_0 a0_1 a0_2 a0_3 0 0 a0_2 0 = some (r1, r2, r3, r4, r5)) ∧ Aside0 (kq ≤ k) ∧ Aside0 (wc.heap[gb130]? = some (.cells #[.int .i64 a0_0, .int .i64 a0_1, .int .i64 a0_2, .int .i64 a0_3] 46 (0, 0))) ∧ Aside0 (wc.heap[gb131]? = some (.cells #[.int .i64 0, .int .i64 0, .int .i64 0, .int .i64 0] 46 (0, 0))) ∧ Aside0 (wc.heap[gb133]? = some (.cells #[.int .i64 a0_0, .int .i64 a0_1, .int .i64 a0_2, .int .i64 a0_3] 46 (0, 0))) ∧ Aside0 (wc.heap[gb134]? = some (.cells #[.int .i64 0, .int .i64 0, .int .i64 a0_2, .int .i64 0] 46 (0, 0))) ∧ Aside0 (Below w.heap.size w wc))
 case first =>
  have H := HC6.out
  clear HC6
  by_cases c23 : a1 = 0
  rotate_left
  ·rw [if_neg c23] at H
   have c23b0 : (a1 == 0) = false := beq_eq_false_iff_ne.mpr c23
   have c23b1 : (a1 != 0) = true := bne_iff_ne.mpr c23
   (first | rw [c23b0] | (simp only [i64_w, i32_w]; rw [c23b0]) | skip)
   have H' := Aside0.mk H
   clear H
   go_wp2
   go_meet
   case rel => exact ⟨_, (false), (by first | rfl | (simp; done) | (simp [*]; done)), H', ⟨by first | omega | exact Nat.le_refl _⟩, ⟨by (repeat apply bX); refine blk_far ?_ NB130_134.out _; (repeat apply bX); refine blk_far ?_ NB130_134.out _; (repeat apply bX); refine blk_far ?_ NB130_134.out _; (repeat apply bX); refine blk_far ?_ NB130_134.out _; (repeat apply bX); exact BK130.out⟩, ⟨by (repeat apply bX); refine blk_far ?_ NB131_134.out _; (repeat apply bX); refine blk_far ?_ NB131_134.out _; (repeat apply bX); refine blk_far ?_ NB131_134.out _; (repeat apply bX); refine blk_far ?_ NB131_134.out _; (repeat apply bX); exact BK131.out⟩, ⟨by (repeat apply bX); refine blk_far ?_ NB133_134.out _; (repeat apply bX); refine blk_far ?_ NB133_134.out _; (repeat apply bX); refine blk_far ?_ NB133_134.out _; (repeat apply bX); refine blk_far ?_ NB133_134.out _; (repeat apply bX); exact BK133.out⟩, ⟨by (repeat apply bX); refine blk_put (cs := #[.int .i64 0, .int .i64 0, .int .i64 a0_2, .int .i64 0]) ?_ 3 _ rfl; (repeat apply bX); refine blk_put (cs := #[.int .i64 0, .int .i64 0, .int .i64 0, .int .i64 0]) ?_ 2 _ rfl; (repeat apply bX); refine blk_put (cs := #[.int .i64 0, .int .i64 0, .int .i64 0, .int .i64 0]) ?_ 1 _ rfl; (repeat apply bX); refine blk_put (cs := #[.int .i64 0, .int .i64 0, .int .i64 0, .int .i64 0]) ?_ 0 _ rfl; (repeat apply bX); exact BK134.out⟩, ⟨by repeat (first | (with_reducible first | exact HB.out | apply below_alloc | apply pw_below_drewN | apply below_drew1 | refine below_set ?_ GE130.out | refine below_set ?_ GE131.out | refine below_set ?_ GE133.out | refine below_set ?_ GE134.out) | exact HB.out)⟩⟩
  rw [if_pos c23] at H
  have c23b0 : (a1 == 0) = true := beq_iff_eq.mpr c23
  have c23b1 : (a1 != 0) = false := bne_eq_false_iff_eq.mpr c23
  clear c23
  (first | rw [c23b0] | (simp only [i64_w, i32_w]; rw [c23b0]) | skip)
  have H' := Aside0.mk H
  clear H
  have hnb24 := NB130_131.out
  have hnc24 := NB131_130.out
  have hnb25 := NB130_133.out
  have hnc25 := NB133_130.out
  have hnb26 := NB130_134.out
  have hnc26 := NB134_130.out
  have hcz27_0 : w18.cell? ⟨gb130, 0, none⟩ = some (.int .i64 a0_0) := (blk_cell BK130.out 0).trans rfl
  have hcz27_1 : w18.cell? ⟨gb130, 1, none⟩ = some (.int .i64 a0_1) := (blk_cell BK130.out 1).trans rfl
  have hcz27_2 : w18.cell? ⟨gb130, 2, none⟩ = some (.int .i64 a0_2) := (blk_cell BK130.out 2).trans rfl
  have hcz27_3 : w18.cell? ⟨gb130, 3, none⟩ = some (.int .i64 a0_3) := (blk_cell BK130.out 3).trans rfl
  have hfz27_0 := blk_frozen BK130.out 0
  have hfz27_1 := blk_frozen BK130.out 1
  have hfz27_2 := blk_frozen BK130.out 2
  have hfz27_3 := blk_frozen BK130.out 3
  go_wp2
  go_meet
  case rel => exact ⟨_, ((a0_0 == 0)), (by first | rfl | (simp; done) | (simp [*]; done)), H', ⟨by first | omega | exact Nat.le_refl _⟩, ⟨by (repeat apply bX); refine blk_far ?_ NB130_134.out _; (repeat apply bX); refine blk_far ?_ NB130_134.out _; (repeat apply bX); refine blk_far ?_ NB130_134.out _; (repeat apply bX); refine blk_far ?_ NB130_134.out _; (repeat apply bX); exact BK130.out⟩, ⟨by (repeat apply bX); refine blk_far ?_ NB131_134.out _; (repeat apply bX); refine blk_far ?_ NB131_134.out _; (repeat apply bX); refine blk_far ?_ NB131_134.out _; (repeat apply bX); refine blk_far ?_ NB131_134.out _; (repeat apply bX); exact BK131.out⟩, ⟨by (repeat apply bX); refine blk_far ?_ NB133_134.out _; (repeat apply bX); refine blk_far ?_ NB133_134.out _; (repeat apply bX); refine blk_far ?_ NB133_134.out _; (repeat apply bX); refine blk_far ?_ NB133_134.out _; (repeat apply bX); exact BK133.out⟩, ⟨by (repeat apply bX); refine blk_put (cs := #[.int .i64 0, .int .i64 0, .int .i64 a0_2, .int .i64 0]) ?_ 3 _ rfl; (repeat apply bX); refine blk_put (cs := #[.int .i64 0, .int .i64 0, .int .i64 0, .int .i64 0]) ?_ 2 _ rfl; (repeat apply bX); refine blk_put (cs := #[.int .i64 0, .int .i64 0, .int .i64 0, .int .i64 0]) ?_ 1 _ rfl; (repeat apply bX); refine blk_put (cs := #[.int .i64 0, .int .i64 0, .int .i64 0, .int .i64 0]) ?_ 0 _ rfl; (repeat apply bX); exact BK134.out⟩, ⟨by repeat (first | (with_reducible first | exact HB.out | apply below_alloc | apply pw_below_drewN | apply below_drew1 | refine below_set ?_ GE130.out | refine below_set ?_ GE131.out | refine below_set ?_ GE133.out | refine below_set ?_ GE134.out) | exact HB.out)⟩⟩
 case rest =>
  clear HC6
  obtain ⟨kq, x19_5, rfl, HA, HJ5, BK130, BK131, BK133, BK134, HB⟩ := hcut
  cases kq with
  | zero => exact absurd HA.out (by simp [spec_PortStep.j0])
  | succ kj5 =>
   have H := HA.out
   clear HA
   simp only [spec_PortStep.j0] at H
   by_cases c28 : x19_5 = true
   ·subst c28
    have H1 : (some (1, a0_1, a0_2, a0_3, true)) = some (r1, r2, r3, r4, r5) := by rw [if_pos rfl] at H; exact H
    clear H
    have H := H1
    clear H1
    simp only [Option.some.injEq, Prod.mk.injEq] at H
    obtain ⟨rfl, rfl, rfl, rfl, rfl⟩ := H
    have hnb29 := NB133_130.out
    have hnc29 := NB130_133.out
    have hnb30 := NB133_131.out
    have hnc30 := NB131_133.out
    have hnb31 := NB133_134.out
    have hnc31 := NB134_133.out
    have hcz32_0 : wc.cell? ⟨gb133, 0, none⟩ = some (.int .i64 a0_0) := (blk_cell BK133.out 0).trans rfl
    have hcz32_1 : wc.cell? ⟨gb133, 1, none⟩ = some (.int .i64 a0_1) := (blk_cell BK133.out 1).trans rfl
    have hcz32_2 : wc.cell? ⟨gb133, 2, none⟩ = some (.int .i64 a0_2) := (blk_cell BK133.out 2).trans rfl
    have hcz32_3 : wc.cell? ⟨gb133, 3, none⟩ = some (.int .i64 a0_3) := (blk_cell BK133.out 3).trans rfl
    have hfz32_0 := blk_frozen BK133.out 0
    have hfz32_1 := blk_frozen BK133.out 1
    have hfz32_2 := blk_frozen BK133.out 2
    have hfz32_3 := blk_frozen BK133.out 3
    have hnb33 := NB131_130.out
    have hnc33 := NB130_131.out
    have hnb34 := NB131_134.out
    have hnc34 := NB134_131.out
    have hcz35_0 : wc.cell? ⟨gb131, 0, none⟩ = some (.int .i64 0) := (blk_cell BK131.out 0).trans rfl
    have hcz35_1 : wc.cell? ⟨gb131, 1, none⟩ = some (.int .i64 0) := (blk_cell BK131.out 1).trans rfl
    have hcz35_2 : wc.cell? ⟨gb131, 2, none⟩ = some (.int .i64 0) := (blk_cell BK131.out 2).trans rfl
    have hcz35_3 : wc.cell? ⟨gb131, 3, none⟩ = some (.int .i64 0) := (blk_cell BK131.out 3).trans rfl
    have hfz35_0 := blk_frozen BK131.out 0
    have hfz35_1 := blk_frozen BK131.out 1
    have hfz35_2 := blk_frozen BK131.out 2
    have hfz35_3 := blk_frozen BK131.out 3
    go_wp2
    refine bodyPost_ret (results_ct rfl _ _ gb131 46 #[.int .i64 1, .int .i64 a0_1, .int .i64 a0_2, .int .i64 a0_3] (0, 0) _ rfl (by (repeat apply bX); refine blk_put (cs := #[.int .i64 1, .int .i64 a0_1, .int .i64 a0_2, .int .i64 0]) ?_ 3 _ rfl; (repeat apply bX); refine blk_put (cs := #[.int .i64 1, .int .i64 a0_1, .int .i64 0, .int .i64 0]) ?_ 2 _ rfl; (repeat apply bX); refine blk_put (cs := #[.int .i64 1, .int .i64 0, .int .i64 0, .int .i64 0]) ?_ 1 _ rfl; (repeat apply bX); refine blk_put (cs := #[.int .i64 0, .int .i64 0, .int .i64 0, .int .i64 0]) ?_ 0 _ rfl; (repeat apply bX); refine blk_far ?_ NB131_133.out _; (repeat apply bX); exact BK131.out) Try.underlying46 rfl (by kernel_rfl)) rfl ?_
    exact ⟨by first | rfl | (simp [errW_none, errW_some] <;> rfl) | (simp [*, errW_none, errW_some] <;> rfl), by repeat (first | (with_reducible first | exact HB.out | apply below_alloc | apply pw_below_drewN | apply below_drew1 | refine below_set ?_ GE130.out | refine below_set ?_ GE131.out | refine below_set ?_ GE133.out | refine below_set ?_ GE134.out) | exact HB.out)⟩
   replace c28 := Bool.eq_false_iff.mpr c28
   subst c28
   have H1 : (if a1 = 1 then (spec_PortStep.j1 kj5 a1 a2 (a0_0 == 1) a0_0 a0_1 a0_2 a0_3 a0_0 a0_1 a0_2 a0_3 0 0 a0_2 0) else (spec_PortStep.j1 kj5 a1 a2 false a0_0 a0_1 a0_2 a0_3 a0_0 a0_1 a0_2 a0_3 0 0 a0_2 0)) = some (r1, r2, r3, r4, r5) := by rw [if_neg (show ¬ (false = true) by decide)] at H; exact H
   clear H
   have H := H1
   clear H1
   have HC36 := Aside0.mk H
   clear H
   go_upto_region 8 with (fail)
   go_cut [28] (fun v28 wc => ∃ (kq : Nat) (x28_35 : Bool), v28 = .bool x28_35 ∧ Aside0 (spec_PortStep.j1 kq a1 a2 x28_35 a0_0 a0_1 a0_2 a0_3 a0_0 a0_1 a0_2 a0_3 0 0 a0_2 0 = some (r1, r2, r3, r4, r5)) ∧ Aside0 (kq ≤ kj5) ∧ Aside0 (wc.heap[gb130]? = some (.cells #[.int .i64 a0_0, .int .i64 a0_1, .int .i64 a0_2, .int .i64 a0_3] 46 (0, 0))) ∧ Aside0 (wc.heap[gb131]? = some (.cells #[.int .i64 0, .int .i64 0, .int .i64 0, .int .i64 0] 46 (0, 0))) ∧ Aside0 (wc.heap[gb133]? = some (.cells #[.int .i64 a0_0, .int .i64 a0_1, .int .i64 a0_2, .int .i64 a0_3] 46 (0, 0))) ∧ Aside0 (wc.heap[gb134]? = some (.cells #[.int .i64 0, .int .i64 0, .int .i64 a0_2, .int .i64 0] 46 (0, 0))) ∧ Aside0 (Below w.heap.size w wc))
   case first =>
    have H := HC36.out
    clear HC36
    by_cases c37 : a1 = 1
    rotate_left
    ·rw [if_neg c37] at H
     have c37b0 : (a1 == 1) = false := beq_eq_false_iff_ne.mpr c37
     have c37b1 : (a1 != 1) = true := bne_iff_ne.mpr c37
     (first | rw [c37b0] | (simp only [i64_w, i32_w]; rw [c37b0]) | skip)
     have H' := Aside0.mk H
     clear H
     go_wp2
     go_meet
     case rel => exact ⟨_, (false), (by first | rfl | (simp; done) | (simp [*]; done)), H', ⟨by have := HJ5.out; first | omega | exact Nat.le_refl _⟩, ⟨by (repeat apply bX); exact BK130.out⟩, ⟨by (repeat apply bX); exact BK131.out⟩, ⟨by (repeat apply bX); exact BK133.out⟩, ⟨by (repeat apply bX); exact BK134.out⟩, ⟨by repeat (first | (with_reducible first | exact HB.out | apply below_alloc | apply pw_below_drewN | apply below_drew1 | refine below_set ?_ GE130.out | refine below_set ?_ GE131.out | refine below_set ?_ GE133.out | refine below_set ?_ GE134.out) | exact HB.out)⟩⟩
    rw [if_pos c37] at H
    have c37b0 : (a1 == 1) = true := beq_iff_eq.mpr c37
    have c37b1 : (a1 != 1) = false := bne_eq_false_iff_eq.mpr c37
    clear c37
    (first | rw [c37b0] | (simp only [i64_w, i32_w]; rw [c37b0]) | skip)
    have H' := Aside0.mk H
    clear H
    have hnb38 := NB130_131.out
    have hnc38 := NB131_130.out
    have hnb39 := NB130_133.out
    have hnc39 := NB133_130.out
    have hnb40 := NB130_134.out
    have hnc40 := NB134_130.out
    have hcz41_0 : wc.cell? ⟨gb130, 0, none⟩ = some (.int .i64 a0_0) := (blk_cell BK130.out 0).trans rfl
    have hcz41_1 : wc.cell? ⟨gb130, 1, none⟩ = some (.int .i64 a0_1) := (blk_cell BK130.out 1).trans rfl
    have hcz41_2 : wc.cell? ⟨gb130, 2, none⟩ = some (.int .i64 a0_2) := (blk_cell BK130.out 2).trans rfl
    have hcz41_3 : wc.cell? ⟨gb130, 3, none⟩ = some (.int .i64 a0_3) := (blk_cell BK130.out 3).trans rfl
    have hfz41_0 := blk_frozen BK130.out 0
    have hfz41_1 := blk_frozen BK130.out 1
    have hfz41_2 := blk_frozen BK130.out 2
    have hfz41_3 := blk_frozen BK130.out 3
    go_wp2
    go_meet
    case rel => exact ⟨_, ((a0_0 == 1)), (by first | rfl | (simp; done) | (simp [*]; done)), H', ⟨by have := HJ5.out; first | omega | exact Nat.le_refl _⟩, ⟨by (repeat apply bX); exact BK130.out⟩, ⟨by (repeat apply bX); exact BK131.out⟩, ⟨by (repeat apply bX); exact BK133.out⟩, ⟨by (repeat apply bX); exact BK134.out⟩, ⟨by repeat (first | (with_reducible first | exact HB.out | apply below_alloc | apply pw_below_drewN | apply below_drew1 | refine below_set ?_ GE130.out | refine below_set ?_ GE131.out | refine below_set ?_ GE133.out | refine below_set ?_ GE134.out) | exact HB.out)⟩⟩
   case rest =>
    clear HC36
    obtain ⟨kq, x28_35, rfl, HA, HJ35, BK130, BK131, BK133, BK134, HB⟩ := hcut
    cases kq with
    | zero => exact absurd HA.out (by simp [spec_PortStep.j1])
    | succ kj35 =>
     have H := HA.out
     clear HA
     simp only [spec_PortStep.j1] at H
     by_cases c42 : x28_35 = true
     ·subst c42
      have H1 : (some (2, a0_1, a0_2, 0, true)) = some (r1, r2, r3, r4, r5) := by rw [if_pos rfl] at H; exact H
      clear H
      have H := H1
      clear H1
      simp only [Option.some.injEq, Prod.mk.injEq] at H
      obtain ⟨rfl, rfl, rfl, rfl, rfl⟩ := H
      have hnb43 := NB133_130.out
      have hnc43 := NB130_133.out
      have hnb44 := NB133_131.out
      have hnc44 := NB131_133.out
      have hnb45 := NB133_134.out
      have hnc45 := NB134_133.out
      have hcz46_0 : wc.cell? ⟨gb133, 0, none⟩ = some (.int .i64 a0_0) := (blk_cell BK133.out 0).trans rfl
      have hcz46_1 : wc.cell? ⟨gb133, 1, none⟩ = some (.int .i64 a0_1) := (blk_cell BK133.out 1).trans rfl
      have hcz46_2 : wc.cell? ⟨gb133, 2, none⟩ = some (.int .i64 a0_2) := (blk_cell BK133.out 2).trans rfl
      have hcz46_3 : wc.cell? ⟨gb133, 3, none⟩ = some (.int .i64 a0_3) := (blk_cell BK133.out 3).trans rfl
      have hfz46_0 := blk_frozen BK133.out 0
      have hfz46_1 := blk_frozen BK133.out 1
      have hfz46_2 := blk_frozen BK133.out 2
      have hfz46_3 := blk_frozen BK133.out 3
      have hnb47 := NB131_130.out
      have hnc47 := NB130_131.out
      have hnb48 := NB131_134.out
      have hnc48 := NB134_131.out
      have hcz49_0 : wc.cell? ⟨gb131, 0, none⟩ = some (.int .i64 0) := (blk_cell BK131.out 0).trans rfl
      have hcz49_1 : wc.cell? ⟨gb131, 1, none⟩ = some (.int .i64 0) := (blk_cell BK131.out 1).trans rfl
      have hcz49_2 : wc.cell? ⟨gb131, 2, none⟩ = some (.int .i64 0) := (blk_cell BK131.out 2).trans rfl
      have hcz49_3 : wc.cell? ⟨gb131, 3, none⟩ = some (.int .i64 0) := (blk_cell BK131.out 3).trans rfl
      have hfz49_0 := blk_frozen BK131.out 0
      have hfz49_1 := blk_frozen BK131.out 1
      have hfz49_2 := blk_frozen BK131.out 2
      have hfz49_3 := blk_frozen BK131.out 3
      go_wp2
      refine bodyPost_ret (results_ct rfl _ _ gb131 46 #[.int .i64 2, .int .i64 a0_1, .int .i64 a0_2, .int .i64 0] (0, 0) _ rfl (by (repeat apply bX); refine blk_put (cs := #[.int .i64 2, .int .i64 a0_1, .int .i64 a0_2, .int .i64 0]) ?_ 3 _ rfl; (repeat apply bX); refine blk_put (cs := #[.int .i64 2, .int .i64 a0_1, .int .i64 0, .int .i64 0]) ?_ 2 _ rfl; (repeat apply bX); refine blk_put (cs := #[.int .i64 2, .int .i64 0, .int .i64 0, .int .i64 0]) ?_ 1 _ rfl; (repeat apply bX); refine blk_put (cs := #[.int .i64 0, .int .i64 0, .int .i64 0, .int .i64 0]) ?_ 0 _ rfl; (repeat apply bX); refine blk_far ?_ NB131_133.out _; (repeat apply bX); refine blk_far ?_ NB131_133.out _; (repeat apply bX); exact BK131.out) Try.underlying46 rfl (by kernel_rfl)) rfl ?_
      exact ⟨by first | rfl | (simp [errW_none, errW_some] <;> rfl) | (simp [*, errW_none, errW_some] <;> rfl), by repeat (first | (with_reducible first | exact HB.out | apply below_alloc | apply pw_below_drewN | apply below_drew1 | refine below_set ?_ GE130.out | refine below_set ?_ GE131.out | refine below_set ?_ GE133.out | refine below_set ?_ GE134.out) | exact HB.out)⟩
     replace c42 := Bool.eq_false_iff.mpr c42
     subst c42
     have H1 : (if a1 = 1 then (spec_PortStep.j2 kj35 a1 a2 (a0_0 == 4) a0_0 a0_1 a0_2 a0_3 a0_0 a0_1 a0_2 a0_3 0 0 a0_2 0) else (spec_PortStep.j2 kj35 a1 a2 false a0_0 a0_1 a0_2 a0_3 a0_0 a0_1 a0_2 a0_3 0 0 a0_2 0)) = some (r1, r2, r3, r4, r5) := by rw [if_neg (show ¬ (false = true) by decide)] at H; exact H
     clear H
     have H := H1
     clear H1
     have HC50 := Aside0.mk H
     clear H
     go_upto_region 11 with (fail)
     go_cut [38] (fun v38 wc => ∃ (kq : Nat) (x38_49 : Bool), v38 = .bool x38_49 ∧ Aside0 (spec_PortStep.j2 kq a1 a2 x38_49 a0_0 a0_1 a0_2 a0_3 a0_0 a0_1 a0_2 a0_3 0 0 a0_2 0 = some (r1, r2, r3, r4, r5)) ∧ Aside0 (kq ≤ kj35) ∧ Aside0 (wc.heap[gb130]? = some (.cells #[.int .i64 a0_0, .int .i64 a0_1, .int .i64 a0_2, .int .i64 a0_3] 46 (0, 0))) ∧ Aside0 (wc.heap[gb131]? = some (.cells #[.int .i64 0, .int .i64 0, .int .i64 0, .int .i64 0] 46 (0, 0))) ∧ Aside0 (wc.heap[gb133]? = some (.cells #[.int .i64 a0_0, .int .i64 a0_1, .int .i64 a0_2, .int .i64 a0_3] 46 (0, 0))) ∧ Aside0 (wc.heap[gb134]? = some (.cells #[.int .i64 0, .int .i64 0, .int .i64 a0_2, .int .i64 0] 46 (0, 0))) ∧ Aside0 (Below w.heap.size w wc))
     case first =>
      have H := HC50.out
      clear HC50
      by_cases c51 : a1 = 1
      rotate_left
      ·rw [if_neg c51] at H
       have c51b0 : (a1 == 1) = false := beq_eq_false_iff_ne.mpr c51
       have c51b1 : (a1 != 1) = true := bne_iff_ne.mpr c51
       (first | rw [c51b0] | (simp only [i64_w, i32_w]; rw [c51b0]) | skip)
       have H' := Aside0.mk H
       clear H
       go_wp2
       go_meet
       case rel => exact ⟨_, (false), (by first | rfl | (simp; done) | (simp [*]; done)), H', ⟨by have := HJ5.out; have := HJ35.out; first | omega | exact Nat.le_refl _⟩, ⟨by (repeat apply bX); exact BK130.out⟩, ⟨by (repeat apply bX); exact BK131.out⟩, ⟨by (repeat apply bX); exact BK133.out⟩, ⟨by (repeat apply bX); exact BK134.out⟩, ⟨by repeat (first | (with_reducible first | exact HB.out | apply below_alloc | apply pw_below_drewN | apply below_drew1 | refine below_set ?_ GE130.out | refine below_set ?_ GE131.out | refine below_set ?_ GE133.out | refine below_set ?_ GE134.out) | exact HB.out)⟩⟩
      rw [if_pos c51] at H
      have c51b0 : (a1 == 1) = true := beq_iff_eq.mpr c51
      have c51b1 : (a1 != 1) = false := bne_eq_false_iff_eq.mpr c51
      clear c51
      (first | rw [c51b0] | (simp only [i64_w, i32_w]; rw [c51b0]) | skip)
      have H' := Aside0.mk H
      clear H
      have hnb52 := NB130_131.out
      have hnc52 := NB131_130.out
      have hnb53 := NB130_133.out
      have hnc53 := NB133_130.out
      have hnb54 := NB130_134.out
      have hnc54 := NB134_130.out
      have hcz55_0 : wc.cell? ⟨gb130, 0, none⟩ = some (.int .i64 a0_0) := (blk_cell BK130.out 0).trans rfl
      have hcz55_1 : wc.cell? ⟨gb130, 1, none⟩ = some (.int .i64 a0_1) := (blk_cell BK130.out 1).trans rfl
      have hcz55_2 : wc.cell? ⟨gb130, 2, none⟩ = some (.int .i64 a0_2) := (blk_cell BK130.out 2).trans rfl
      have hcz55_3 : wc.cell? ⟨gb130, 3, none⟩ = some (.int .i64 a0_3) := (blk_cell BK130.out 3).trans rfl
      have hfz55_0 := blk_frozen BK130.out 0
      have hfz55_1 := blk_frozen BK130.out 1
      have hfz55_2 := blk_frozen BK130.out 2
      have hfz55_3 := blk_frozen BK130.out 3
      go_wp2
      go_meet
      case rel => exact ⟨_, ((a0_0 == 4)), (by first | rfl | (simp; done) | (simp [*]; done)), H', ⟨by have := HJ5.out; have := HJ35.out; first | omega | exact Nat.le_refl _⟩, ⟨by (repeat apply bX); exact BK130.out⟩, ⟨by (repeat apply bX); exact BK131.out⟩, ⟨by (repeat apply bX); exact BK133.out⟩, ⟨by (repeat apply bX); exact BK134.out⟩, ⟨by repeat (first | (with_reducible first | exact HB.out | apply below_alloc | apply pw_below_drewN | apply below_drew1 | refine below_set ?_ GE130.out | refine below_set ?_ GE131.out | refine below_set ?_ GE133.out | refine below_set ?_ GE134.out) | exact HB.out)⟩⟩
     case rest =>
      clear HC50
      obtain ⟨kq, x38_49, rfl, HA, HJ49, BK130, BK131, BK133, BK134, HB⟩ := hcut
      cases kq with
      | zero => exact absurd HA.out (by simp [spec_PortStep.j2])
      | succ kj49 =>
       have H := HA.out
       clear HA
       simp only [spec_PortStep.j2] at H
       by_cases c56 : x38_49 = true
       ·subst c56
        have H1 : (some (3, a0_1, a0_2, 0, true)) = some (r1, r2, r3, r4, r5) := by rw [if_pos rfl] at H; exact H
        clear H
        have H := H1
        clear H1
        simp only [Option.some.injEq, Prod.mk.injEq] at H
        obtain ⟨rfl, rfl, rfl, rfl, rfl⟩ := H
        have hnb57 := NB133_130.out
        have hnc57 := NB130_133.out
        have hnb58 := NB133_131.out
        have hnc58 := NB131_133.out
        have hnb59 := NB133_134.out
        have hnc59 := NB134_133.out
        have hcz60_0 : wc.cell? ⟨gb133, 0, none⟩ = some (.int .i64 a0_0) := (blk_cell BK133.out 0).trans rfl
        have hcz60_1 : wc.cell? ⟨gb133, 1, none⟩ = some (.int .i64 a0_1) := (blk_cell BK133.out 1).trans rfl
        have hcz60_2 : wc.cell? ⟨gb133, 2, none⟩ = some (.int .i64 a0_2) := (blk_cell BK133.out 2).trans rfl
        have hcz60_3 : wc.cell? ⟨gb133, 3, none⟩ = some (.int .i64 a0_3) := (blk_cell BK133.out 3).trans rfl
        have hfz60_0 := blk_frozen BK133.out 0
        have hfz60_1 := blk_frozen BK133.out 1
        have hfz60_2 := blk_frozen BK133.out 2
        have hfz60_3 := blk_frozen BK133.out 3
        have hnb61 := NB131_130.out
        have hnc61 := NB130_131.out
        have hnb62 := NB131_134.out
        have hnc62 := NB134_131.out
        have hcz63_0 : wc.cell? ⟨gb131, 0, none⟩ = some (.int .i64 0) := (blk_cell BK131.out 0).trans rfl
        have hcz63_1 : wc.cell? ⟨gb131, 1, none⟩ = some (.int .i64 0) := (blk_cell BK131.out 1).trans rfl
        have hcz63_2 : wc.cell? ⟨gb131, 2, none⟩ = some (.int .i64 0) := (blk_cell BK131.out 2).trans rfl
        have hcz63_3 : wc.cell? ⟨gb131, 3, none⟩ = some (.int .i64 0) := (blk_cell BK131.out 3).trans rfl
        have hfz63_0 := blk_frozen BK131.out 0
        have hfz63_1 := blk_frozen BK131.out 1
        have hfz63_2 := blk_frozen BK131.out 2
        have hfz63_3 := blk_frozen BK131.out 3
        go_wp2
        refine bodyPost_ret (results_ct rfl _ _ gb131 46 #[.int .i64 3, .int .i64 a0_1, .int .i64 a0_2, .int .i64 0] (0, 0) _ rfl (by (repeat apply bX); refine blk_put (cs := #[.int .i64 3, .int .i64 a0_1, .int .i64 a0_2, .int .i64 0]) ?_ 3 _ rfl; (repeat apply bX); refine blk_put (cs := #[.int .i64 3, .int .i64 a0_1, .int .i64 0, .int .i64 0]) ?_ 2 _ rfl; (repeat apply bX); refine blk_put (cs := #[.int .i64 3, .int .i64 0, .int .i64 0, .int .i64 0]) ?_ 1 _ rfl; (repeat apply bX); refine blk_put (cs := #[.int .i64 0, .int .i64 0, .int .i64 0, .int .i64 0]) ?_ 0 _ rfl; (repeat apply bX); refine blk_far ?_ NB131_133.out _; (repeat apply bX); refine blk_far ?_ NB131_133.out _; (repeat apply bX); exact BK131.out) Try.underlying46 rfl (by kernel_rfl)) rfl ?_
        exact ⟨by first | rfl | (simp [errW_none, errW_some] <;> rfl) | (simp [*, errW_none, errW_some] <;> rfl), by repeat (first | (with_reducible first | exact HB.out | apply below_alloc | apply pw_below_drewN | apply below_drew1 | refine below_set ?_ GE130.out | refine below_set ?_ GE131.out | refine below_set ?_ GE133.out | refine below_set ?_ GE134.out) | exact HB.out)⟩
       replace c56 := Bool.eq_false_iff.mpr c56
       subst c56
       have H1 : (if a1 = 2 then (if a0_0 = 2 then ((spec_IsWidth.f a2).bind fun t135 => (spec_PortStep.j3 kj49 a1 a2 t135 a0_0 a0_1 a0_2 a0_3 a0_0 a0_1 a0_2 a0_3 0 0 a0_2 0)) else (spec_PortStep.j3 kj49 a1 a2 false a0_0 a0_1 a0_2 a0_3 a0_0 a0_1 a0_2 a0_3 0 0 a0_2 0)) else (spec_PortStep.j3 kj49 a1 a2 false a0_0 a0_1 a0_2 a0_3 a0_0 a0_1 a0_2 a0_3 0 0 a0_2 0)) = some (r1, r2, r3, r4, r5) := by rw [if_neg (show ¬ (false = true) by decide)] at H; exact H
       clear H
       have H := H1
       clear H1
       have HC64 := Aside0.mk H
       clear H
       go_upto_region 14 with (fail)
       go_cut [48] (fun v48 wc => ∃ (kq : Nat) (x48_63 : Bool), v48 = .bool x48_63 ∧ Aside0 (spec_PortStep.j3 kq a1 a2 x48_63 a0_0 a0_1 a0_2 a0_3 a0_0 a0_1 a0_2 a0_3 0 0 a0_2 0 = some (r1, r2, r3, r4, r5)) ∧ Aside0 (kq ≤ kj49) ∧ Aside0 (wc.heap[gb130]? = some (.cells #[.int .i64 a0_0, .int .i64 a0_1, .int .i64 a0_2, .int .i64 a0_3] 46 (0, 0))) ∧ Aside0 (wc.heap[gb131]? = some (.cells #[.int .i64 0, .int .i64 0, .int .i64 0, .int .i64 0] 46 (0, 0))) ∧ Aside0 (wc.heap[gb133]? = some (.cells #[.int .i64 a0_0, .int .i64 a0_1, .int .i64 a0_2, .int .i64 a0_3] 46 (0, 0))) ∧ Aside0 (wc.heap[gb134]? = some (.cells #[.int .i64 0, .int .i64 0, .int .i64 a0_2, .int .i64 0] 46 (0, 0))) ∧ Aside0 (Below w.heap.size w wc))
       case first =>
        have H := HC64.out
        clear HC64
        by_cases c65 : a1 = 2
        rotate_left
        ·rw [if_neg c65] at H
         have c65b0 : (a1 == 2) = false := beq_eq_false_iff_ne.mpr c65
         have c65b1 : (a1 != 2) = true := bne_iff_ne.mpr c65
         (first | rw [c65b0] | (simp only [i64_w, i32_w]; rw [c65b0]) | skip)
         have H' := Aside0.mk H
         clear H
         go_wp2
         go_meet
         case rel => exact ⟨_, (false), (by first | rfl | (simp; done) | (simp [*]; done)), H', ⟨by have := HJ5.out; have := HJ35.out; have := HJ49.out; first | omega | exact Nat.le_refl _⟩, ⟨by (repeat apply bX); exact BK130.out⟩, ⟨by (repeat apply bX); exact BK131.out⟩, ⟨by (repeat apply bX); exact BK133.out⟩, ⟨by (repeat apply bX); exact BK134.out⟩, ⟨by repeat (first | (with_reducible first | exact HB.out | apply below_alloc | apply pw_below_drewN | apply below_drew1 | refine below_set ?_ GE130.out | refine below_set ?_ GE131.out | refine below_set ?_ GE133.out | refine below_set ?_ GE134.out) | exact HB.out)⟩⟩
        rw [if_pos c65] at H
        have c65b0 : (a1 == 2) = true := beq_iff_eq.mpr c65
        have c65b1 : (a1 != 2) = false := bne_eq_false_iff_eq.mpr c65
        clear c65
        (first | rw [c65b0] | (simp only [i64_w, i32_w]; rw [c65b0]) | skip)
        by_cases c66 : a0_0 = 2
        rotate_left
        ·rw [if_neg c66] at H
         have c66b0 : (a0_0 == 2) = false := beq_eq_false_iff_ne.mpr c66
         have c66b1 : (a0_0 != 2) = true := bne_iff_ne.mpr c66
         have H' := Aside0.mk H
         clear H
         have hnb72 := NB130_131.out
         have hnc72 := NB131_130.out
         have hnb73 := NB130_133.out
         have hnc73 := NB133_130.out
         have hnb74 := NB130_134.out
         have hnc74 := NB134_130.out
         have hcz75_0 : wc.cell? ⟨gb130, 0, none⟩ = some (.int .i64 a0_0) := (blk_cell BK130.out 0).trans rfl
         have hcz75_1 : wc.cell? ⟨gb130, 1, none⟩ = some (.int .i64 a0_1) := (blk_cell BK130.out 1).trans rfl
         have hcz75_2 : wc.cell? ⟨gb130, 2, none⟩ = some (.int .i64 a0_2) := (blk_cell BK130.out 2).trans rfl
         have hcz75_3 : wc.cell? ⟨gb130, 3, none⟩ = some (.int .i64 a0_3) := (blk_cell BK130.out 3).trans rfl
         have hfz75_0 := blk_frozen BK130.out 0
         have hfz75_1 := blk_frozen BK130.out 1
         have hfz75_2 := blk_frozen BK130.out 2
         have hfz75_3 := blk_frozen BK130.out 3
         go_wp2
         go_meet
         case rel => exact ⟨_, (false), (by first | rfl | (simp; done) | (simp [*]; done)), H', ⟨by have := HJ5.out; have := HJ35.out; have := HJ49.out; first | omega | exact Nat.le_refl _⟩, ⟨by (repeat apply bX); exact BK130.out⟩, ⟨by (repeat apply bX); exact BK131.out⟩, ⟨by (repeat apply bX); exact BK133.out⟩, ⟨by (repeat apply bX); exact BK134.out⟩, ⟨by repeat (first | (with_reducible first | exact HB.out | apply below_alloc | apply pw_below_drewN | apply below_drew1 | refine below_set ?_ GE130.out | refine below_set ?_ GE131.out | refine below_set ?_ GE133.out | refine below_set ?_ GE134.out) | exact HB.out)⟩⟩
        rw [if_pos c66] at H
        have c66b0 : (a0_0 == 2) = true := beq_iff_eq.mpr c66
        have c66b1 : (a0_0 != 2) = false := bne_eq_false_iff_eq.mpr c66
        clear c66
        replace H := Option.bind_eq_some_iff.mp H
        obtain ⟨t135, A670, H⟩ := H
        have A67 := Aside0.mk A670
        clear A670
        have H' := Aside0.mk H
        clear H
        have hnb68 := NB130_131.out
        have hnc68 := NB131_130.out
        have hnb69 := NB130_133.out
        have hnc69 := NB133_130.out
        have hnb70 := NB130_134.out
        have hnc70 := NB134_130.out
        have hcz71_0 : wc.cell? ⟨gb130, 0, none⟩ = some (.int .i64 a0_0) := (blk_cell BK130.out 0).trans rfl
        have hcz71_1 : wc.cell? ⟨gb130, 1, none⟩ = some (.int .i64 a0_1) := (blk_cell BK130.out 1).trans rfl
        have hcz71_2 : wc.cell? ⟨gb130, 2, none⟩ = some (.int .i64 a0_2) := (blk_cell BK130.out 2).trans rfl
        have hcz71_3 : wc.cell? ⟨gb130, 3, none⟩ = some (.int .i64 a0_3) := (blk_cell BK130.out 3).trans rfl
        have hfz71_0 := blk_frozen BK130.out 0
        have hfz71_1 := blk_frozen BK130.out 1
        have hfz71_2 := blk_frozen BK130.out 2
        have hfz71_3 := blk_frozen BK130.out 3
        go_wp2_with (first | (go_at_call 68; (with_reducible refine (spec_IsWidth.calls a2 t135 _ A67.out).mono ?_); rintro e w' ⟨rfl, ⟨nd, rfl⟩⟩))
        go_meet
        case rel => exact ⟨_, (t135), (by first | rfl | (simp; done) | (simp [*]; done)), H', ⟨by have := HJ5.out; have := HJ35.out; have := HJ49.out; first | omega | exact Nat.le_refl _⟩, ⟨by (repeat apply bX); exact BK130.out⟩, ⟨by (repeat apply bX); exact BK131.out⟩, ⟨by (repeat apply bX); exact BK133.out⟩, ⟨by (repeat apply bX); exact BK134.out⟩, ⟨by repeat (first | (with_reducible first | exact HB.out | apply below_alloc | apply pw_below_drewN | apply below_drew1 | refine below_set ?_ GE130.out | refine below_set ?_ GE131.out | refine below_set ?_ GE133.out | refine below_set ?_ GE134.out) | exact HB.out)⟩⟩
       case rest =>
        clear HC64
        obtain ⟨kq, x48_63, rfl, HA, HJ63, BK130, BK131, BK133, BK134, HB⟩ := hcut
        cases kq with
        | zero => exact absurd HA.out (by simp [spec_PortStep.j3])
        | succ kj63 =>
         have H := HA.out
         clear HA
         simp only [spec_PortStep.j3] at H
         by_cases c76 : x48_63 = true
         ·subst c76
          have H1 : (some (3, mn a0_2 a2, a0_2, a0_3, true)) = some (r1, r2, r3, r4, r5) := by rw [if_pos rfl] at H; exact H
          clear H
          have H := H1
          clear H1
          obtain ⟨ji77, hji77⟩ : ∃ j_ : Int, (mn a0_2 a2) = j_ := ⟨_, rfl⟩
          replace H : (some (3, ji77, a0_2, a0_3, true)) = some (r1, r2, r3, r4, r5) := by first | (rw [hji77] at H; exact H) | (simp only [hji77] at H ⊢; exact H)
          have hji77_ : (if a2 < a0_2 then a2 else a0_2) = ji77 := hji77
          simp only [Option.some.injEq, Prod.mk.injEq] at H
          obtain ⟨rfl, rfl, rfl, rfl, rfl⟩ := H
          have hnb78 := NB133_130.out
          have hnc78 := NB130_133.out
          have hnb79 := NB133_131.out
          have hnc79 := NB131_133.out
          have hnb80 := NB133_134.out
          have hnc80 := NB134_133.out
          have hcz81_0 : wc.cell? ⟨gb133, 0, none⟩ = some (.int .i64 a0_0) := (blk_cell BK133.out 0).trans rfl
          have hcz81_1 : wc.cell? ⟨gb133, 1, none⟩ = some (.int .i64 a0_1) := (blk_cell BK133.out 1).trans rfl
          have hcz81_2 : wc.cell? ⟨gb133, 2, none⟩ = some (.int .i64 a0_2) := (blk_cell BK133.out 2).trans rfl
          have hcz81_3 : wc.cell? ⟨gb133, 3, none⟩ = some (.int .i64 a0_3) := (blk_cell BK133.out 3).trans rfl
          have hfz81_0 := blk_frozen BK133.out 0
          have hfz81_1 := blk_frozen BK133.out 1
          have hfz81_2 := blk_frozen BK133.out 2
          have hfz81_3 := blk_frozen BK133.out 3
          have hnb82 := NB130_131.out
          have hnc82 := NB131_130.out
          have hnb83 := NB130_134.out
          have hnc83 := NB134_130.out
          have hcz84_0 : wc.cell? ⟨gb130, 0, none⟩ = some (.int .i64 a0_0) := (blk_cell BK130.out 0).trans rfl
          have hcz84_1 : wc.cell? ⟨gb130, 1, none⟩ = some (.int .i64 a0_1) := (blk_cell BK130.out 1).trans rfl
          have hcz84_2 : wc.cell? ⟨gb130, 2, none⟩ = some (.int .i64 a0_2) := (blk_cell BK130.out 2).trans rfl
          have hcz84_3 : wc.cell? ⟨gb130, 3, none⟩ = some (.int .i64 a0_3) := (blk_cell BK130.out 3).trans rfl
          have hfz84_0 := blk_frozen BK130.out 0
          have hfz84_1 := blk_frozen BK130.out 1
          have hfz84_2 := blk_frozen BK130.out 2
          have hfz84_3 := blk_frozen BK130.out 3
          have hnb85 := NB131_134.out
          have hnc85 := NB134_131.out
          have hcz86_0 : wc.cell? ⟨gb131, 0, none⟩ = some (.int .i64 0) := (blk_cell BK131.out 0).trans rfl
          have hcz86_1 : wc.cell? ⟨gb131, 1, none⟩ = some (.int .i64 0) := (blk_cell BK131.out 1).trans rfl
          have hcz86_2 : wc.cell? ⟨gb131, 2, none⟩ = some (.int .i64 0) := (blk_cell BK131.out 2).trans rfl
          have hcz86_3 : wc.cell? ⟨gb131, 3, none⟩ = some (.int .i64 0) := (blk_cell BK131.out 3).trans rfl
          have hfz86_0 := blk_frozen BK131.out 0
          have hfz86_1 := blk_frozen BK131.out 1
          have hfz86_2 := blk_frozen BK131.out 2
          have hfz86_3 := blk_frozen BK131.out 3
          go_wp2
          refine bodyPost_ret (results_ct rfl _ _ gb131 46 #[.int .i64 3, .int .i64 ji77, .int .i64 a0_2, .int .i64 a0_3] (0, 0) _ rfl (by (repeat apply bX); refine blk_put (cs := #[.int .i64 3, .int .i64 ji77, .int .i64 a0_2, .int .i64 0]) ?_ 3 _ rfl; (repeat apply bX); refine blk_put (cs := #[.int .i64 3, .int .i64 ji77, .int .i64 0, .int .i64 0]) ?_ 2 _ rfl; (repeat apply bX); refine blk_put (cs := #[.int .i64 3, .int .i64 0, .int .i64 0, .int .i64 0]) ?_ 1 _ rfl; (repeat apply bX); refine blk_put (cs := #[.int .i64 0, .int .i64 0, .int .i64 0, .int .i64 0]) ?_ 0 _ rfl; (repeat apply bX); refine blk_far ?_ NB131_133.out _; (repeat apply bX); refine blk_far ?_ NB131_133.out _; (repeat apply bX); exact BK131.out) Try.underlying46 rfl (by kernel_rfl)) rfl ?_
          exact ⟨by first | rfl | (simp [errW_none, errW_some] <;> rfl) | (simp only [← hji77]; first | rfl | (simp [errW_none, errW_some] <;> rfl)) | (simp [*, errW_none, errW_some] <;> rfl), by repeat (first | (with_reducible first | exact HB.out | apply below_alloc | apply pw_below_drewN | apply below_drew1 | refine below_set ?_ GE130.out | refine below_set ?_ GE131.out | refine below_set ?_ GE133.out | refine below_set ?_ GE134.out) | exact HB.out)⟩
         replace c76 := Bool.eq_false_iff.mpr c76
         subst c76
         have H1 : (if a1 = 3 then (spec_PortStep.j4 kj63 a1 (a0_0 == 3) a0_0 a0_1 a0_2 a0_3 a0_0 a0_1 a0_2 a0_3 0 0 a0_2 0) else (spec_PortStep.j4 kj63 a1 false a0_0 a0_1 a0_2 a0_3 a0_0 a0_1 a0_2 a0_3 0 0 a0_2 0)) = some (r1, r2, r3, r4, r5) := by rw [if_neg (show ¬ (false = true) by decide)] at H; exact H
         clear H
         have H := H1
         clear H1
         have HC87 := Aside0.mk H
         clear H
         go_upto_region 17 with (fail)
         go_cut [66] (fun v66 wc => ∃ (kq : Nat) (x66_86 : Bool), v66 = .bool x66_86 ∧ Aside0 (spec_PortStep.j4 kq a1 x66_86 a0_0 a0_1 a0_2 a0_3 a0_0 a0_1 a0_2 a0_3 0 0 a0_2 0 = some (r1, r2, r3, r4, r5)) ∧ Aside0 (kq ≤ kj63) ∧ Aside0 (wc.heap[gb130]? = some (.cells #[.int .i64 a0_0, .int .i64 a0_1, .int .i64 a0_2, .int .i64 a0_3] 46 (0, 0))) ∧ Aside0 (wc.heap[gb131]? = some (.cells #[.int .i64 0, .int .i64 0, .int .i64 0, .int .i64 0] 46 (0, 0))) ∧ Aside0 (wc.heap[gb133]? = some (.cells #[.int .i64 a0_0, .int .i64 a0_1, .int .i64 a0_2, .int .i64 a0_3] 46 (0, 0))) ∧ Aside0 (wc.heap[gb134]? = some (.cells #[.int .i64 0, .int .i64 0, .int .i64 a0_2, .int .i64 0] 46 (0, 0))) ∧ Aside0 (Below w.heap.size w wc))
         case first =>
          have H := HC87.out
          clear HC87
          by_cases c88 : a1 = 3
          rotate_left
          ·rw [if_neg c88] at H
           have c88b0 : (a1 == 3) = false := beq_eq_false_iff_ne.mpr c88
           have c88b1 : (a1 != 3) = true := bne_iff_ne.mpr c88
           (first | rw [c88b0] | (simp only [i64_w, i32_w]; rw [c88b0]) | skip)
           have H' := Aside0.mk H
           clear H
           go_wp2
           go_meet
           case rel => exact ⟨_, (false), (by first | rfl | (simp; done) | (simp [*]; done)), H', ⟨by have := HJ5.out; have := HJ35.out; have := HJ49.out; have := HJ63.out; first | omega | exact Nat.le_refl _⟩, ⟨by (repeat apply bX); exact BK130.out⟩, ⟨by (repeat apply bX); exact BK131.out⟩, ⟨by (repeat apply bX); exact BK133.out⟩, ⟨by (repeat apply bX); exact BK134.out⟩, ⟨by repeat (first | (with_reducible first | exact HB.out | apply below_alloc | apply pw_below_drewN | apply below_drew1 | refine below_set ?_ GE130.out | refine below_set ?_ GE131.out | refine below_set ?_ GE133.out | refine below_set ?_ GE134.out) | exact HB.out)⟩⟩
          rw [if_pos c88] at H
          have c88b0 : (a1 == 3) = true := beq_iff_eq.mpr c88
          have c88b1 : (a1 != 3) = false := bne_eq_false_iff_eq.mpr c88
          clear c88
          (first | rw [c88b0] | (simp only [i64_w, i32_w]; rw [c88b0]) | skip)
          have H' := Aside0.mk H
          clear H
          have hnb89 := NB130_131.out
          have hnc89 := NB131_130.out
          have hnb90 := NB130_133.out
          have hnc90 := NB133_130.out
          have hnb91 := NB130_134.out
          have hnc91 := NB134_130.out
          have hcz92_0 : wc.cell? ⟨gb130, 0, none⟩ = some (.int .i64 a0_0) := (blk_cell BK130.out 0).trans rfl
          have hcz92_1 : wc.cell? ⟨gb130, 1, none⟩ = some (.int .i64 a0_1) := (blk_cell BK130.out 1).trans rfl
          have hcz92_2 : wc.cell? ⟨gb130, 2, none⟩ = some (.int .i64 a0_2) := (blk_cell BK130.out 2).trans rfl
          have hcz92_3 : wc.cell? ⟨gb130, 3, none⟩ = some (.int .i64 a0_3) := (blk_cell BK130.out 3).trans rfl
          have hfz92_0 := blk_frozen BK130.out 0
          have hfz92_1 := blk_frozen BK130.out 1
          have hfz92_2 := blk_frozen BK130.out 2
          have hfz92_3 := blk_frozen BK130.out 3
          go_wp2
          go_meet
          case rel => exact ⟨_, ((a0_0 == 3)), (by first | rfl | (simp; done) | (simp [*]; done)), H', ⟨by have := HJ5.out; have := HJ35.out; have := HJ49.out; have := HJ63.out; first | omega | exact Nat.le_refl _⟩, ⟨by (repeat apply bX); exact BK130.out⟩, ⟨by (repeat apply bX); exact BK131.out⟩, ⟨by (repeat apply bX); exact BK133.out⟩, ⟨by (repeat apply bX); exact BK134.out⟩, ⟨by repeat (first | (with_reducible first | exact HB.out | apply below_alloc | apply pw_below_drewN | apply below_drew1 | refine below_set ?_ GE130.out | refine below_set ?_ GE131.out | refine below_set ?_ GE133.out | refine below_set ?_ GE134.out) | exact HB.out)⟩⟩
         case rest =>
          clear HC87
          obtain ⟨kq, x66_86, rfl, HA, HJ86, BK130, BK131, BK133, BK134, HB⟩ := hcut
          cases kq with
          | zero => exact absurd HA.out (by simp [spec_PortStep.j4])
          | succ kj86 =>
           have H := HA.out
           clear HA
           simp only [spec_PortStep.j4] at H
           by_cases c93 : x66_86 = true
           ·subst c93
            have H1 : (some (4, a0_1, a0_2, a0_3, true)) = some (r1, r2, r3, r4, r5) := by rw [if_pos rfl] at H; exact H
            clear H
            have H := H1
            clear H1
            simp only [Option.some.injEq, Prod.mk.injEq] at H
            obtain ⟨rfl, rfl, rfl, rfl, rfl⟩ := H
            have hnb94 := NB133_130.out
            have hnc94 := NB130_133.out
            have hnb95 := NB133_131.out
            have hnc95 := NB131_133.out
            have hnb96 := NB133_134.out
            have hnc96 := NB134_133.out
            have hcz97_0 : wc.cell? ⟨gb133, 0, none⟩ = some (.int .i64 a0_0) := (blk_cell BK133.out 0).trans rfl
            have hcz97_1 : wc.cell? ⟨gb133, 1, none⟩ = some (.int .i64 a0_1) := (blk_cell BK133.out 1).trans rfl
            have hcz97_2 : wc.cell? ⟨gb133, 2, none⟩ = some (.int .i64 a0_2) := (blk_cell BK133.out 2).trans rfl
            have hcz97_3 : wc.cell? ⟨gb133, 3, none⟩ = some (.int .i64 a0_3) := (blk_cell BK133.out 3).trans rfl
            have hfz97_0 := blk_frozen BK133.out 0
            have hfz97_1 := blk_frozen BK133.out 1
            have hfz97_2 := blk_frozen BK133.out 2
            have hfz97_3 := blk_frozen BK133.out 3
            have hnb98 := NB131_130.out
            have hnc98 := NB130_131.out
            have hnb99 := NB131_134.out
            have hnc99 := NB134_131.out
            have hcz100_0 : wc.cell? ⟨gb131, 0, none⟩ = some (.int .i64 0) := (blk_cell BK131.out 0).trans rfl
            have hcz100_1 : wc.cell? ⟨gb131, 1, none⟩ = some (.int .i64 0) := (blk_cell BK131.out 1).trans rfl
            have hcz100_2 : wc.cell? ⟨gb131, 2, none⟩ = some (.int .i64 0) := (blk_cell BK131.out 2).trans rfl
            have hcz100_3 : wc.cell? ⟨gb131, 3, none⟩ = some (.int .i64 0) := (blk_cell BK131.out 3).trans rfl
            have hfz100_0 := blk_frozen BK131.out 0
            have hfz100_1 := blk_frozen BK131.out 1
            have hfz100_2 := blk_frozen BK131.out 2
            have hfz100_3 := blk_frozen BK131.out 3
            go_wp2
            refine bodyPost_ret (results_ct rfl _ _ gb131 46 #[.int .i64 4, .int .i64 a0_1, .int .i64 a0_2, .int .i64 a0_3] (0, 0) _ rfl (by (repeat apply bX); refine blk_put (cs := #[.int .i64 4, .int .i64 a0_1, .int .i64 a0_2, .int .i64 0]) ?_ 3 _ rfl; (repeat apply bX); refine blk_put (cs := #[.int .i64 4, .int .i64 a0_1, .int .i64 0, .int .i64 0]) ?_ 2 _ rfl; (repeat apply bX); refine blk_put (cs := #[.int .i64 4, .int .i64 0, .int .i64 0, .int .i64 0]) ?_ 1 _ rfl; (repeat apply bX); refine blk_put (cs := #[.int .i64 0, .int .i64 0, .int .i64 0, .int .i64 0]) ?_ 0 _ rfl; (repeat apply bX); refine blk_far ?_ NB131_133.out _; (repeat apply bX); exact BK131.out) Try.underlying46 rfl (by kernel_rfl)) rfl ?_
            exact ⟨by first | rfl | (simp [errW_none, errW_some] <;> rfl) | (simp [*, errW_none, errW_some] <;> rfl), by repeat (first | (with_reducible first | exact HB.out | apply below_alloc | apply pw_below_drewN | apply below_drew1 | refine below_set ?_ GE130.out | refine below_set ?_ GE131.out | refine below_set ?_ GE133.out | refine below_set ?_ GE134.out) | exact HB.out)⟩
           replace c93 := Bool.eq_false_iff.mpr c93
           subst c93
           have H1 : (if a1 = 4 then (spec_PortStep.j5 kj86 a1 (a0_0 != 5) a0_0 a0_1 a0_2 a0_3 a0_0 a0_1 a0_2 a0_3 0 0 a0_2 0) else (spec_PortStep.j5 kj86 a1 false a0_0 a0_1 a0_2 a0_3 a0_0 a0_1 a0_2 a0_3 0 0 a0_2 0)) = some (r1, r2, r3, r4, r5) := by rw [if_neg (show ¬ (false = true) by decide)] at H; exact H
           clear H
           have H := H1
           clear H1
           have HC101 := Aside0.mk H
           clear H
           go_upto_region 19 with (fail)
           go_cut [75] (fun v75 wc => ∃ (kq : Nat) (x75_100 : Bool), v75 = .bool x75_100 ∧ Aside0 (spec_PortStep.j5 kq a1 x75_100 a0_0 a0_1 a0_2 a0_3 a0_0 a0_1 a0_2 a0_3 0 0 a0_2 0 = some (r1, r2, r3, r4, r5)) ∧ Aside0 (kq ≤ kj86) ∧ Aside0 (wc.heap[gb130]? = some (.cells #[.int .i64 a0_0, .int .i64 a0_1, .int .i64 a0_2, .int .i64 a0_3] 46 (0, 0))) ∧ Aside0 (wc.heap[gb131]? = some (.cells #[.int .i64 0, .int .i64 0, .int .i64 0, .int .i64 0] 46 (0, 0))) ∧ Aside0 (wc.heap[gb133]? = some (.cells #[.int .i64 a0_0, .int .i64 a0_1, .int .i64 a0_2, .int .i64 a0_3] 46 (0, 0))) ∧ Aside0 (wc.heap[gb134]? = some (.cells #[.int .i64 0, .int .i64 0, .int .i64 a0_2, .int .i64 0] 46 (0, 0))) ∧ Aside0 (Below w.heap.size w wc))
           case first =>
            have H := HC101.out
            clear HC101
            by_cases c102 : a1 = 4
            rotate_left
            ·rw [if_neg c102] at H
             have c102b0 : (a1 == 4) = false := beq_eq_false_iff_ne.mpr c102
             have c102b1 : (a1 != 4) = true := bne_iff_ne.mpr c102
             (first | rw [c102b0] | (simp only [i64_w, i32_w]; rw [c102b0]) | skip)
             have H' := Aside0.mk H
             clear H
             go_wp2
             go_meet
             case rel => exact ⟨_, (false), (by first | rfl | (simp; done) | (simp [*]; done)), H', ⟨by have := HJ5.out; have := HJ35.out; have := HJ49.out; have := HJ63.out; have := HJ86.out; first | omega | exact Nat.le_refl _⟩, ⟨by (repeat apply bX); exact BK130.out⟩, ⟨by (repeat apply bX); exact BK131.out⟩, ⟨by (repeat apply bX); exact BK133.out⟩, ⟨by (repeat apply bX); exact BK134.out⟩, ⟨by repeat (first | (with_reducible first | exact HB.out | apply below_alloc | apply pw_below_drewN | apply below_drew1 | refine below_set ?_ GE130.out | refine below_set ?_ GE131.out | refine below_set ?_ GE133.out | refine below_set ?_ GE134.out) | exact HB.out)⟩⟩
            rw [if_pos c102] at H
            have c102b0 : (a1 == 4) = true := beq_iff_eq.mpr c102
            have c102b1 : (a1 != 4) = false := bne_eq_false_iff_eq.mpr c102
            clear c102
            (first | rw [c102b0] | (simp only [i64_w, i32_w]; rw [c102b0]) | skip)
            have H' := Aside0.mk H
            clear H
            have hnb103 := NB130_131.out
            have hnc103 := NB131_130.out
            have hnb104 := NB130_133.out
            have hnc104 := NB133_130.out
            have hnb105 := NB130_134.out
            have hnc105 := NB134_130.out
            have hcz106_0 : wc.cell? ⟨gb130, 0, none⟩ = some (.int .i64 a0_0) := (blk_cell BK130.out 0).trans rfl
            have hcz106_1 : wc.cell? ⟨gb130, 1, none⟩ = some (.int .i64 a0_1) := (blk_cell BK130.out 1).trans rfl
            have hcz106_2 : wc.cell? ⟨gb130, 2, none⟩ = some (.int .i64 a0_2) := (blk_cell BK130.out 2).trans rfl
            have hcz106_3 : wc.cell? ⟨gb130, 3, none⟩ = some (.int .i64 a0_3) := (blk_cell BK130.out 3).trans rfl
            have hfz106_0 := blk_frozen BK130.out 0
            have hfz106_1 := blk_frozen BK130.out 1
            have hfz106_2 := blk_frozen BK130.out 2
            have hfz106_3 := blk_frozen BK130.out 3
            go_wp2
            go_meet
            case rel => exact ⟨_, ((a0_0 != 5)), (by first | rfl | (simp; done) | (simp [*]; done)), H', ⟨by have := HJ5.out; have := HJ35.out; have := HJ49.out; have := HJ63.out; have := HJ86.out; first | omega | exact Nat.le_refl _⟩, ⟨by (repeat apply bX); exact BK130.out⟩, ⟨by (repeat apply bX); exact BK131.out⟩, ⟨by (repeat apply bX); exact BK133.out⟩, ⟨by (repeat apply bX); exact BK134.out⟩, ⟨by repeat (first | (with_reducible first | exact HB.out | apply below_alloc | apply pw_below_drewN | apply below_drew1 | refine below_set ?_ GE130.out | refine below_set ?_ GE131.out | refine below_set ?_ GE133.out | refine below_set ?_ GE134.out) | exact HB.out)⟩⟩
           case rest =>
            clear HC101
            obtain ⟨kq, x75_100, rfl, HA, HJ100, BK130, BK131, BK133, BK134, HB⟩ := hcut
            cases kq with
            | zero => exact absurd HA.out (by simp [spec_PortStep.j5])
            | succ kj100 =>
             have H := HA.out
             clear HA
             simp only [spec_PortStep.j5] at H
             by_cases c107 : x75_100 = true
             ·subst c107
              have H1 : (some (0, 0, a0_2, 0, true)) = some (r1, r2, r3, r4, r5) := by rw [if_pos rfl] at H; exact H
              clear H
              have H := H1
              clear H1
              simp only [Option.some.injEq, Prod.mk.injEq] at H
              obtain ⟨rfl, rfl, rfl, rfl, rfl⟩ := H
              have hnb108 := NB134_130.out
              have hnc108 := NB130_134.out
              have hnb109 := NB134_131.out
              have hnc109 := NB131_134.out
              have hnb110 := NB134_133.out
              have hnc110 := NB133_134.out
              have hcz111_0 : wc.cell? ⟨gb134, 0, none⟩ = some (.int .i64 0) := (blk_cell BK134.out 0).trans rfl
              have hcz111_1 : wc.cell? ⟨gb134, 1, none⟩ = some (.int .i64 0) := (blk_cell BK134.out 1).trans rfl
              have hcz111_2 : wc.cell? ⟨gb134, 2, none⟩ = some (.int .i64 a0_2) := (blk_cell BK134.out 2).trans rfl
              have hcz111_3 : wc.cell? ⟨gb134, 3, none⟩ = some (.int .i64 0) := (blk_cell BK134.out 3).trans rfl
              have hfz111_0 := blk_frozen BK134.out 0
              have hfz111_1 := blk_frozen BK134.out 1
              have hfz111_2 := blk_frozen BK134.out 2
              have hfz111_3 := blk_frozen BK134.out 3
              have hnb112 := NB133_130.out
              have hnc112 := NB130_133.out
              have hnb113 := NB133_131.out
              have hnc113 := NB131_133.out
              have hcz114_0 : wc.cell? ⟨gb133, 0, none⟩ = some (.int .i64 a0_0) := (blk_cell BK133.out 0).trans rfl
              have hcz114_1 : wc.cell? ⟨gb133, 1, none⟩ = some (.int .i64 a0_1) := (blk_cell BK133.out 1).trans rfl
              have hcz114_2 : wc.cell? ⟨gb133, 2, none⟩ = some (.int .i64 a0_2) := (blk_cell BK133.out 2).trans rfl
              have hcz114_3 : wc.cell? ⟨gb133, 3, none⟩ = some (.int .i64 a0_3) := (blk_cell BK133.out 3).trans rfl
              have hfz114_0 := blk_frozen BK133.out 0
              have hfz114_1 := blk_frozen BK133.out 1
              have hfz114_2 := blk_frozen BK133.out 2
              have hfz114_3 := blk_frozen BK133.out 3
              have hnb115 := NB131_130.out
              have hnc115 := NB130_131.out
              have hcz116_0 : wc.cell? ⟨gb131, 0, none⟩ = some (.int .i64 0) := (blk_cell BK131.out 0).trans rfl
              have hcz116_1 : wc.cell? ⟨gb131, 1, none⟩ = some (.int .i64 0) := (blk_cell BK131.out 1).trans rfl
              have hcz116_2 : wc.cell? ⟨gb131, 2, none⟩ = some (.int .i64 0) := (blk_cell BK131.out 2).trans rfl
              have hcz116_3 : wc.cell? ⟨gb131, 3, none⟩ = some (.int .i64 0) := (blk_cell BK131.out 3).trans rfl
              have hfz116_0 := blk_frozen BK131.out 0
              have hfz116_1 := blk_frozen BK131.out 1
              have hfz116_2 := blk_frozen BK131.out 2
              have hfz116_3 := blk_frozen BK131.out 3
              go_wp2
              refine bodyPost_ret (results_ct rfl _ _ gb131 46 #[.int .i64 0, .int .i64 0, .int .i64 a0_2, .int .i64 0] (0, 0) _ rfl (by (repeat apply bX); refine blk_put (cs := #[.int .i64 0, .int .i64 0, .int .i64 a0_2, .int .i64 0]) ?_ 3 _ rfl; (repeat apply bX); refine blk_put (cs := #[.int .i64 0, .int .i64 0, .int .i64 0, .int .i64 0]) ?_ 2 _ rfl; (repeat apply bX); refine blk_put (cs := #[.int .i64 0, .int .i64 0, .int .i64 0, .int .i64 0]) ?_ 1 _ rfl; (repeat apply bX); refine blk_put (cs := #[.int .i64 0, .int .i64 0, .int .i64 0, .int .i64 0]) ?_ 0 _ rfl; (repeat apply bX); refine blk_far ?_ NB131_133.out _; (repeat apply bX); refine blk_far ?_ NB131_133.out _; (repeat apply bX); refine blk_far ?_ NB131_133.out _; (repeat apply bX); refine blk_far ?_ NB131_133.out _; (repeat apply bX); exact BK131.out) Try.underlying46 rfl (by kernel_rfl)) rfl ?_
              exact ⟨by first | rfl | (simp [errW_none, errW_some] <;> rfl) | (simp [*, errW_none, errW_some] <;> rfl), by repeat (first | (with_reducible first | exact HB.out | apply below_alloc | apply pw_below_drewN | apply below_drew1 | refine below_set ?_ GE130.out | refine below_set ?_ GE131.out | refine below_set ?_ GE133.out | refine below_set ?_ GE134.out) | exact HB.out)⟩
             replace c107 := Bool.eq_false_iff.mpr c107
             subst c107
             have H1 : (if a1 = 5 then (some (5, 0, a0_2, 0, true)) else (if a1 = 6 then (if a0_0 = 1 then (spec_PortStep.j6 kj100 a1 true a0_0 a0_1 a0_2 a0_3 a0_0 a0_1 a0_2 a0_3 0 0 a0_2 0) else (if a0_0 = 2 then (spec_PortStep.j6 kj100 a1 true a0_0 a0_1 a0_2 a0_3 a0_0 a0_1 a0_2 a0_3 0 0 a0_2 0) else (if a0_0 = 4 then (spec_PortStep.j6 kj100 a1 (a0_3 == 3) a0_0 a0_1 a0_2 a0_3 a0_0 a0_1 a0_2 a0_3 0 0 a0_2 0) else (spec_PortStep.j6 kj100 a1 false a0_0 a0_1 a0_2 a0_3 a0_0 a0_1 a0_2 a0_3 0 0 a0_2 0)))) else (spec_PortStep.j6 kj100 a1 false a0_0 a0_1 a0_2 a0_3 a0_0 a0_1 a0_2 a0_3 0 0 a0_2 0))) = some (r1, r2, r3, r4, r5) := by rw [if_neg (show ¬ (false = true) by decide)] at H; exact H
             clear H
             have H := H1
             clear H1
             by_cases c117 : a1 = 5
             ·rw [if_pos c117] at H
              have c117b0 : (a1 == 5) = true := beq_iff_eq.mpr c117
              have c117b1 : (a1 != 5) = false := bne_eq_false_iff_eq.mpr c117
              clear c117
              simp only [Option.some.injEq, Prod.mk.injEq] at H
              obtain ⟨rfl, rfl, rfl, rfl, rfl⟩ := H
              have hnb118 := NB134_130.out
              have hnc118 := NB130_134.out
              have hnb119 := NB134_131.out
              have hnc119 := NB131_134.out
              have hnb120 := NB134_133.out
              have hnc120 := NB133_134.out
              have hcz121_0 : wc.cell? ⟨gb134, 0, none⟩ = some (.int .i64 0) := (blk_cell BK134.out 0).trans rfl
              have hcz121_1 : wc.cell? ⟨gb134, 1, none⟩ = some (.int .i64 0) := (blk_cell BK134.out 1).trans rfl
              have hcz121_2 : wc.cell? ⟨gb134, 2, none⟩ = some (.int .i64 a0_2) := (blk_cell BK134.out 2).trans rfl
              have hcz121_3 : wc.cell? ⟨gb134, 3, none⟩ = some (.int .i64 0) := (blk_cell BK134.out 3).trans rfl
              have hfz121_0 := blk_frozen BK134.out 0
              have hfz121_1 := blk_frozen BK134.out 1
              have hfz121_2 := blk_frozen BK134.out 2
              have hfz121_3 := blk_frozen BK134.out 3
              have hnb122 := NB133_130.out
              have hnc122 := NB130_133.out
              have hnb123 := NB133_131.out
              have hnc123 := NB131_133.out
              have hcz124_0 : wc.cell? ⟨gb133, 0, none⟩ = some (.int .i64 a0_0) := (blk_cell BK133.out 0).trans rfl
              have hcz124_1 : wc.cell? ⟨gb133, 1, none⟩ = some (.int .i64 a0_1) := (blk_cell BK133.out 1).trans rfl
              have hcz124_2 : wc.cell? ⟨gb133, 2, none⟩ = some (.int .i64 a0_2) := (blk_cell BK133.out 2).trans rfl
              have hcz124_3 : wc.cell? ⟨gb133, 3, none⟩ = some (.int .i64 a0_3) := (blk_cell BK133.out 3).trans rfl
              have hfz124_0 := blk_frozen BK133.out 0
              have hfz124_1 := blk_frozen BK133.out 1
              have hfz124_2 := blk_frozen BK133.out 2
              have hfz124_3 := blk_frozen BK133.out 3
              have hnb125 := NB131_130.out
              have hnc125 := NB130_131.out
              have hcz126_0 : wc.cell? ⟨gb131, 0, none⟩ = some (.int .i64 0) := (blk_cell BK131.out 0).trans rfl
              have hcz126_1 : wc.cell? ⟨gb131, 1, none⟩ = some (.int .i64 0) := (blk_cell BK131.out 1).trans rfl
              have hcz126_2 : wc.cell? ⟨gb131, 2, none⟩ = some (.int .i64 0) := (blk_cell BK131.out 2).trans rfl
              have hcz126_3 : wc.cell? ⟨gb131, 3, none⟩ = some (.int .i64 0) := (blk_cell BK131.out 3).trans rfl
              have hfz126_0 := blk_frozen BK131.out 0
              have hfz126_1 := blk_frozen BK131.out 1
              have hfz126_2 := blk_frozen BK131.out 2
              have hfz126_3 := blk_frozen BK131.out 3
              go_wp2
              refine bodyPost_ret (results_ct rfl _ _ gb131 46 #[.int .i64 5, .int .i64 0, .int .i64 a0_2, .int .i64 0] (0, 0) _ rfl (by (repeat apply bX); refine blk_put (cs := #[.int .i64 5, .int .i64 0, .int .i64 a0_2, .int .i64 0]) ?_ 3 _ rfl; (repeat apply bX); refine blk_put (cs := #[.int .i64 5, .int .i64 0, .int .i64 0, .int .i64 0]) ?_ 2 _ rfl; (repeat apply bX); refine blk_put (cs := #[.int .i64 5, .int .i64 0, .int .i64 0, .int .i64 0]) ?_ 1 _ rfl; (repeat apply bX); refine blk_put (cs := #[.int .i64 0, .int .i64 0, .int .i64 0, .int .i64 0]) ?_ 0 _ rfl; (repeat apply bX); refine blk_far ?_ NB131_133.out _; (repeat apply bX); refine blk_far ?_ NB131_133.out _; (repeat apply bX); refine blk_far ?_ NB131_133.out _; (repeat apply bX); refine blk_far ?_ NB131_133.out _; (repeat apply bX); refine blk_far ?_ NB131_133.out _; (repeat apply bX); exact BK131.out) Try.underlying46 rfl (by kernel_rfl)) rfl ?_
              exact ⟨by first | rfl | (simp [errW_none, errW_some] <;> rfl) | (simp [*, errW_none, errW_some] <;> rfl), by repeat (first | (with_reducible first | exact HB.out | apply below_alloc | apply pw_below_drewN | apply below_drew1 | refine below_set ?_ GE130.out | refine below_set ?_ GE131.out | refine below_set ?_ GE133.out | refine below_set ?_ GE134.out) | exact HB.out)⟩
             rw [if_neg c117] at H
             have c117b0 : (a1 == 5) = false := beq_eq_false_iff_ne.mpr c117
             have c117b1 : (a1 != 5) = true := bne_iff_ne.mpr c117
             have HC127 := Aside0.mk H
             clear H
             go_upto_region 24 with (fail)
             go_cut [89] (fun v89 wc => ∃ (kq : Nat) (x89_126 : Bool), v89 = .bool x89_126 ∧ Aside0 (spec_PortStep.j6 kq a1 x89_126 a0_0 a0_1 a0_2 a0_3 a0_0 a0_1 a0_2 a0_3 0 0 a0_2 0 = some (r1, r2, r3, r4, r5)) ∧ Aside0 (kq ≤ kj100) ∧ Aside0 (wc.heap[gb130]? = some (.cells #[.int .i64 a0_0, .int .i64 a0_1, .int .i64 a0_2, .int .i64 a0_3] 46 (0, 0))) ∧ Aside0 (wc.heap[gb131]? = some (.cells #[.int .i64 0, .int .i64 0, .int .i64 0, .int .i64 0] 46 (0, 0))) ∧ Aside0 (wc.heap[gb133]? = some (.cells #[.int .i64 a0_0, .int .i64 a0_1, .int .i64 a0_2, .int .i64 a0_3] 46 (0, 0))) ∧ Aside0 (wc.heap[gb134]? = some (.cells #[.int .i64 0, .int .i64 0, .int .i64 a0_2, .int .i64 0] 46 (0, 0))) ∧ Aside0 (Below w.heap.size w wc))
             case first =>
              have H := HC127.out
              clear HC127
              by_cases c128 : a1 = 6
              rotate_left
              ·rw [if_neg c128] at H
               have c128b0 : (a1 == 6) = false := beq_eq_false_iff_ne.mpr c128
               have c128b1 : (a1 != 6) = true := bne_iff_ne.mpr c128
               (first | rw [c128b0] | (simp only [i64_w, i32_w]; rw [c128b0]) | skip)
               have H' := Aside0.mk H
               clear H
               go_wp2
               go_meet
               case rel => exact ⟨_, (false), (by first | rfl | (simp; done) | (simp [*]; done)), H', ⟨by have := HJ5.out; have := HJ35.out; have := HJ49.out; have := HJ63.out; have := HJ86.out; have := HJ100.out; first | omega | exact Nat.le_refl _⟩, ⟨by (repeat apply bX); exact BK130.out⟩, ⟨by (repeat apply bX); exact BK131.out⟩, ⟨by (repeat apply bX); exact BK133.out⟩, ⟨by (repeat apply bX); exact BK134.out⟩, ⟨by repeat (first | (with_reducible first | exact HB.out | apply below_alloc | apply pw_below_drewN | apply below_drew1 | refine below_set ?_ GE130.out | refine below_set ?_ GE131.out | refine below_set ?_ GE133.out | refine below_set ?_ GE134.out) | exact HB.out)⟩⟩
              rw [if_pos c128] at H
              have c128b0 : (a1 == 6) = true := beq_iff_eq.mpr c128
              have c128b1 : (a1 != 6) = false := bne_eq_false_iff_eq.mpr c128
              clear c128
              (first | rw [c128b0] | (simp only [i64_w, i32_w]; rw [c128b0]) | skip)
              by_cases c129 : a0_0 = 1
              ·rw [if_pos c129] at H
               have c129b0 : (a0_0 == 1) = true := beq_iff_eq.mpr c129
               have c129b1 : (a0_0 != 1) = false := bne_eq_false_iff_eq.mpr c129
               clear c129
               have H' := Aside0.mk H
               clear H
               have hnb130 := NB130_131.out
               have hnc130 := NB131_130.out
               have hnb131 := NB130_133.out
               have hnc131 := NB133_130.out
               have hnb132 := NB130_134.out
               have hnc132 := NB134_130.out
               have hcz133_0 : wc.cell? ⟨gb130, 0, none⟩ = some (.int .i64 a0_0) := (blk_cell BK130.out 0).trans rfl
               have hcz133_1 : wc.cell? ⟨gb130, 1, none⟩ = some (.int .i64 a0_1) := (blk_cell BK130.out 1).trans rfl
               have hcz133_2 : wc.cell? ⟨gb130, 2, none⟩ = some (.int .i64 a0_2) := (blk_cell BK130.out 2).trans rfl
               have hcz133_3 : wc.cell? ⟨gb130, 3, none⟩ = some (.int .i64 a0_3) := (blk_cell BK130.out 3).trans rfl
               have hfz133_0 := blk_frozen BK130.out 0
               have hfz133_1 := blk_frozen BK130.out 1
               have hfz133_2 := blk_frozen BK130.out 2
               have hfz133_3 := blk_frozen BK130.out 3
               go_wp2
               go_meet
               case rel => exact ⟨_, (true), (by first | rfl | (simp; done) | (simp [*]; done)), H', ⟨by have := HJ5.out; have := HJ35.out; have := HJ49.out; have := HJ63.out; have := HJ86.out; have := HJ100.out; first | omega | exact Nat.le_refl _⟩, ⟨by (repeat apply bX); exact BK130.out⟩, ⟨by (repeat apply bX); exact BK131.out⟩, ⟨by (repeat apply bX); exact BK133.out⟩, ⟨by (repeat apply bX); exact BK134.out⟩, ⟨by repeat (first | (with_reducible first | exact HB.out | apply below_alloc | apply pw_below_drewN | apply below_drew1 | refine below_set ?_ GE130.out | refine below_set ?_ GE131.out | refine below_set ?_ GE133.out | refine below_set ?_ GE134.out) | exact HB.out)⟩⟩
              rw [if_neg c129] at H
              have c129b0 : (a0_0 == 1) = false := beq_eq_false_iff_ne.mpr c129
              have c129b1 : (a0_0 != 1) = true := bne_iff_ne.mpr c129
              by_cases c134 : a0_0 = 2
              ·rw [if_pos c134] at H
               have c134b0 : (a0_0 == 2) = true := beq_iff_eq.mpr c134
               have c134b1 : (a0_0 != 2) = false := bne_eq_false_iff_eq.mpr c134
               clear c134
               have H' := Aside0.mk H
               clear H
               have hnb135 := NB130_131.out
               have hnc135 := NB131_130.out
               have hnb136 := NB130_133.out
               have hnc136 := NB133_130.out
               have hnb137 := NB130_134.out
               have hnc137 := NB134_130.out
               have hcz138_0 : wc.cell? ⟨gb130, 0, none⟩ = some (.int .i64 a0_0) := (blk_cell BK130.out 0).trans rfl
               have hcz138_1 : wc.cell? ⟨gb130, 1, none⟩ = some (.int .i64 a0_1) := (blk_cell BK130.out 1).trans rfl
               have hcz138_2 : wc.cell? ⟨gb130, 2, none⟩ = some (.int .i64 a0_2) := (blk_cell BK130.out 2).trans rfl
               have hcz138_3 : wc.cell? ⟨gb130, 3, none⟩ = some (.int .i64 a0_3) := (blk_cell BK130.out 3).trans rfl
               have hfz138_0 := blk_frozen BK130.out 0
               have hfz138_1 := blk_frozen BK130.out 1
               have hfz138_2 := blk_frozen BK130.out 2
               have hfz138_3 := blk_frozen BK130.out 3
               go_wp2
               go_meet
               case rel => exact ⟨_, (true), (by first | rfl | (simp; done) | (simp [*]; done)), H', ⟨by have := HJ5.out; have := HJ35.out; have := HJ49.out; have := HJ63.out; have := HJ86.out; have := HJ100.out; first | omega | exact Nat.le_refl _⟩, ⟨by (repeat apply bX); exact BK130.out⟩, ⟨by (repeat apply bX); exact BK131.out⟩, ⟨by (repeat apply bX); exact BK133.out⟩, ⟨by (repeat apply bX); exact BK134.out⟩, ⟨by repeat (first | (with_reducible first | exact HB.out | apply below_alloc | apply pw_below_drewN | apply below_drew1 | refine below_set ?_ GE130.out | refine below_set ?_ GE131.out | refine below_set ?_ GE133.out | refine below_set ?_ GE134.out) | exact HB.out)⟩⟩
              rw [if_neg c134] at H
              have c134b0 : (a0_0 == 2) = false := beq_eq_false_iff_ne.mpr c134
              have c134b1 : (a0_0 != 2) = true := bne_iff_ne.mpr c134
              by_cases c139 : a0_0 = 4
              rotate_left
              ·rw [if_neg c139] at H
               have c139b0 : (a0_0 == 4) = false := beq_eq_false_iff_ne.mpr c139
               have c139b1 : (a0_0 != 4) = true := bne_iff_ne.mpr c139
               have H' := Aside0.mk H
               clear H
               have hnb144 := NB130_131.out
               have hnc144 := NB131_130.out
               have hnb145 := NB130_133.out
               have hnc145 := NB133_130.out
               have hnb146 := NB130_134.out
               have hnc146 := NB134_130.out
               have hcz147_0 : wc.cell? ⟨gb130, 0, none⟩ = some (.int .i64 a0_0) := (blk_cell BK130.out 0).trans rfl
               have hcz147_1 : wc.cell? ⟨gb130, 1, none⟩ = some (.int .i64 a0_1) := (blk_cell BK130.out 1).trans rfl
               have hcz147_2 : wc.cell? ⟨gb130, 2, none⟩ = some (.int .i64 a0_2) := (blk_cell BK130.out 2).trans rfl
               have hcz147_3 : wc.cell? ⟨gb130, 3, none⟩ = some (.int .i64 a0_3) := (blk_cell BK130.out 3).trans rfl
               have hfz147_0 := blk_frozen BK130.out 0
               have hfz147_1 := blk_frozen BK130.out 1
               have hfz147_2 := blk_frozen BK130.out 2
               have hfz147_3 := blk_frozen BK130.out 3
               go_wp2
               go_meet
               case rel => exact ⟨_, (false), (by first | rfl | (simp; done) | (simp [*]; done)), H', ⟨by have := HJ5.out; have := HJ35.out; have := HJ49.out; have := HJ63.out; have := HJ86.out; have := HJ100.out; first | omega | exact Nat.le_refl _⟩, ⟨by (repeat apply bX); exact BK130.out⟩, ⟨by (repeat apply bX); exact BK131.out⟩, ⟨by (repeat apply bX); exact BK133.out⟩, ⟨by (repeat apply bX); exact BK134.out⟩, ⟨by repeat (first | (with_reducible first | exact HB.out | apply below_alloc | apply pw_below_drewN | apply below_drew1 | refine below_set ?_ GE130.out | refine below_set ?_ GE131.out | refine below_set ?_ GE133.out | refine below_set ?_ GE134.out) | exact HB.out)⟩⟩
              rw [if_pos c139] at H
              have c139b0 : (a0_0 == 4) = true := beq_iff_eq.mpr c139
              have c139b1 : (a0_0 != 4) = false := bne_eq_false_iff_eq.mpr c139
              clear c139
              have H' := Aside0.mk H
              clear H
              have hnb140 := NB130_131.out
              have hnc140 := NB131_130.out
              have hnb141 := NB130_133.out
              have hnc141 := NB133_130.out
              have hnb142 := NB130_134.out
              have hnc142 := NB134_130.out
              have hcz143_0 : wc.cell? ⟨gb130, 0, none⟩ = some (.int .i64 a0_0) := (blk_cell BK130.out 0).trans rfl
              have hcz143_1 : wc.cell? ⟨gb130, 1, none⟩ = some (.int .i64 a0_1) := (blk_cell BK130.out 1).trans rfl
              have hcz143_2 : wc.cell? ⟨gb130, 2, none⟩ = some (.int .i64 a0_2) := (blk_cell BK130.out 2).trans rfl
              have hcz143_3 : wc.cell? ⟨gb130, 3, none⟩ = some (.int .i64 a0_3) := (blk_cell BK130.out 3).trans rfl
              have hfz143_0 := blk_frozen BK130.out 0
              have hfz143_1 := blk_frozen BK130.out 1
              have hfz143_2 := blk_frozen BK130.out 2
              have hfz143_3 := blk_frozen BK130.out 3
              go_wp2
              go_meet
              case rel => exact ⟨_, ((a0_3 == 3)), (by first | rfl | (simp; done) | (simp [*]; done)), H', ⟨by have := HJ5.out; have := HJ35.out; have := HJ49.out; have := HJ63.out; have := HJ86.out; have := HJ100.out; first | omega | exact Nat.le_refl _⟩, ⟨by (repeat apply bX); exact BK130.out⟩, ⟨by (repeat apply bX); exact BK131.out⟩, ⟨by (repeat apply bX); exact BK133.out⟩, ⟨by (repeat apply bX); exact BK134.out⟩, ⟨by repeat (first | (with_reducible first | exact HB.out | apply below_alloc | apply pw_below_drewN | apply below_drew1 | refine below_set ?_ GE130.out | refine below_set ?_ GE131.out | refine below_set ?_ GE133.out | refine below_set ?_ GE134.out) | exact HB.out)⟩⟩
             case rest =>
              clear HC127
              obtain ⟨kq, x89_126, rfl, HA, HJ126, BK130, BK131, BK133, BK134, HB⟩ := hcut
              cases kq with
              | zero => exact absurd HA.out (by simp [spec_PortStep.j6])
              | succ kj126 =>
               have H := HA.out
               clear HA
               simp only [spec_PortStep.j6] at H
               by_cases c148 : x89_126 = true
               ·subst c148
                have H1 : (some (0, 0, a0_2, 0, true)) = some (r1, r2, r3, r4, r5) := by rw [if_pos rfl] at H; exact H
                clear H
                have H := H1
                clear H1
                simp only [Option.some.injEq, Prod.mk.injEq] at H
                obtain ⟨rfl, rfl, rfl, rfl, rfl⟩ := H
                have hnb149 := NB134_130.out
                have hnc149 := NB130_134.out
                have hnb150 := NB134_131.out
                have hnc150 := NB131_134.out
                have hnb151 := NB134_133.out
                have hnc151 := NB133_134.out
                have hcz152_0 : wc.cell? ⟨gb134, 0, none⟩ = some (.int .i64 0) := (blk_cell BK134.out 0).trans rfl
                have hcz152_1 : wc.cell? ⟨gb134, 1, none⟩ = some (.int .i64 0) := (blk_cell BK134.out 1).trans rfl
                have hcz152_2 : wc.cell? ⟨gb134, 2, none⟩ = some (.int .i64 a0_2) := (blk_cell BK134.out 2).trans rfl
                have hcz152_3 : wc.cell? ⟨gb134, 3, none⟩ = some (.int .i64 0) := (blk_cell BK134.out 3).trans rfl
                have hfz152_0 := blk_frozen BK134.out 0
                have hfz152_1 := blk_frozen BK134.out 1
                have hfz152_2 := blk_frozen BK134.out 2
                have hfz152_3 := blk_frozen BK134.out 3
                have hnb153 := NB133_130.out
                have hnc153 := NB130_133.out
                have hnb154 := NB133_131.out
                have hnc154 := NB131_133.out
                have hcz155_0 : wc.cell? ⟨gb133, 0, none⟩ = some (.int .i64 a0_0) := (blk_cell BK133.out 0).trans rfl
                have hcz155_1 : wc.cell? ⟨gb133, 1, none⟩ = some (.int .i64 a0_1) := (blk_cell BK133.out 1).trans rfl
                have hcz155_2 : wc.cell? ⟨gb133, 2, none⟩ = some (.int .i64 a0_2) := (blk_cell BK133.out 2).trans rfl
                have hcz155_3 : wc.cell? ⟨gb133, 3, none⟩ = some (.int .i64 a0_3) := (blk_cell BK133.out 3).trans rfl
                have hfz155_0 := blk_frozen BK133.out 0
                have hfz155_1 := blk_frozen BK133.out 1
                have hfz155_2 := blk_frozen BK133.out 2
                have hfz155_3 := blk_frozen BK133.out 3
                have hnb156 := NB131_130.out
                have hnc156 := NB130_131.out
                have hcz157_0 : wc.cell? ⟨gb131, 0, none⟩ = some (.int .i64 0) := (blk_cell BK131.out 0).trans rfl
                have hcz157_1 : wc.cell? ⟨gb131, 1, none⟩ = some (.int .i64 0) := (blk_cell BK131.out 1).trans rfl
                have hcz157_2 : wc.cell? ⟨gb131, 2, none⟩ = some (.int .i64 0) := (blk_cell BK131.out 2).trans rfl
                have hcz157_3 : wc.cell? ⟨gb131, 3, none⟩ = some (.int .i64 0) := (blk_cell BK131.out 3).trans rfl
                have hfz157_0 := blk_frozen BK131.out 0
                have hfz157_1 := blk_frozen BK131.out 1
                have hfz157_2 := blk_frozen BK131.out 2
                have hfz157_3 := blk_frozen BK131.out 3
                go_wp2
                refine bodyPost_ret (results_ct rfl _ _ gb131 46 #[.int .i64 0, .int .i64 0, .int .i64 a0_2, .int .i64 0] (0, 0) _ rfl (by (repeat apply bX); refine blk_put (cs := #[.int .i64 0, .int .i64 0, .int .i64 a0_2, .int .i64 0]) ?_ 3 _ rfl; (repeat apply bX); refine blk_put (cs := #[.int .i64 0, .int .i64 0, .int .i64 0, .int .i64 0]) ?_ 2 _ rfl; (repeat apply bX); refine blk_put (cs := #[.int .i64 0, .int .i64 0, .int .i64 0, .int .i64 0]) ?_ 1 _ rfl; (repeat apply bX); refine blk_put (cs := #[.int .i64 0, .int .i64 0, .int .i64 0, .int .i64 0]) ?_ 0 _ rfl; (repeat apply bX); refine blk_far ?_ NB131_133.out _; (repeat apply bX); refine blk_far ?_ NB131_133.out _; (repeat apply bX); refine blk_far ?_ NB131_133.out _; (repeat apply bX); refine blk_far ?_ NB131_133.out _; (repeat apply bX); exact BK131.out) Try.underlying46 rfl (by kernel_rfl)) rfl ?_
                exact ⟨by first | rfl | (simp [errW_none, errW_some] <;> rfl) | (simp [*, errW_none, errW_some] <;> rfl), by repeat (first | (with_reducible first | exact HB.out | apply below_alloc | apply pw_below_drewN | apply below_drew1 | refine below_set ?_ GE130.out | refine below_set ?_ GE131.out | refine below_set ?_ GE133.out | refine below_set ?_ GE134.out) | exact HB.out)⟩
               replace c148 := Bool.eq_false_iff.mpr c148
               subst c148
               have H1 : (if a1 = 6 then (if a0_0 = 4 then (some (a0_0, a0_1, a0_2, wrap64 (a0_3 + 1), true)) else (some (a0_0, a0_1, a0_2, a0_3, false))) else (some (a0_0, a0_1, a0_2, a0_3, false))) = some (r1, r2, r3, r4, r5) := by rw [if_neg (show ¬ (false = true) by decide)] at H; exact H
               clear H
               have H := H1
               clear H1
               by_cases c158 : a1 = 6
               rotate_left
               ·rw [if_neg c158] at H
                have c158b0 : (a1 == 6) = false := beq_eq_false_iff_ne.mpr c158
                have c158b1 : (a1 != 6) = true := bne_iff_ne.mpr c158
                simp only [Option.some.injEq, Prod.mk.injEq] at H
                obtain ⟨rfl, rfl, rfl, rfl, rfl⟩ := H
                have hnb176 := NB130_131.out
                have hnc176 := NB131_130.out
                have hnb177 := NB130_133.out
                have hnc177 := NB133_130.out
                have hnb178 := NB130_134.out
                have hnc178 := NB134_130.out
                have hcz179_0 : wc.cell? ⟨gb130, 0, none⟩ = some (.int .i64 a0_0) := (blk_cell BK130.out 0).trans rfl
                have hcz179_1 : wc.cell? ⟨gb130, 1, none⟩ = some (.int .i64 a0_1) := (blk_cell BK130.out 1).trans rfl
                have hcz179_2 : wc.cell? ⟨gb130, 2, none⟩ = some (.int .i64 a0_2) := (blk_cell BK130.out 2).trans rfl
                have hcz179_3 : wc.cell? ⟨gb130, 3, none⟩ = some (.int .i64 a0_3) := (blk_cell BK130.out 3).trans rfl
                have hfz179_0 := blk_frozen BK130.out 0
                have hfz179_1 := blk_frozen BK130.out 1
                have hfz179_2 := blk_frozen BK130.out 2
                have hfz179_3 := blk_frozen BK130.out 3
                have hnb180 := NB131_133.out
                have hnc180 := NB133_131.out
                have hnb181 := NB131_134.out
                have hnc181 := NB134_131.out
                have hcz182_0 : wc.cell? ⟨gb131, 0, none⟩ = some (.int .i64 0) := (blk_cell BK131.out 0).trans rfl
                have hcz182_1 : wc.cell? ⟨gb131, 1, none⟩ = some (.int .i64 0) := (blk_cell BK131.out 1).trans rfl
                have hcz182_2 : wc.cell? ⟨gb131, 2, none⟩ = some (.int .i64 0) := (blk_cell BK131.out 2).trans rfl
                have hcz182_3 : wc.cell? ⟨gb131, 3, none⟩ = some (.int .i64 0) := (blk_cell BK131.out 3).trans rfl
                have hfz182_0 := blk_frozen BK131.out 0
                have hfz182_1 := blk_frozen BK131.out 1
                have hfz182_2 := blk_frozen BK131.out 2
                have hfz182_3 := blk_frozen BK131.out 3
                go_wp2
                refine bodyPost_ret (results_ct rfl _ _ gb131 46 #[.int .i64 a0_0, .int .i64 a0_1, .int .i64 a0_2, .int .i64 a0_3] (0, 0) _ rfl (by (repeat apply bX); refine blk_put (cs := #[.int .i64 a0_0, .int .i64 a0_1, .int .i64 a0_2, .int .i64 0]) ?_ 3 _ rfl; (repeat apply bX); refine blk_put (cs := #[.int .i64 a0_0, .int .i64 a0_1, .int .i64 0, .int .i64 0]) ?_ 2 _ rfl; (repeat apply bX); refine blk_put (cs := #[.int .i64 a0_0, .int .i64 0, .int .i64 0, .int .i64 0]) ?_ 1 _ rfl; (repeat apply bX); refine blk_put (cs := #[.int .i64 0, .int .i64 0, .int .i64 0, .int .i64 0]) ?_ 0 _ rfl; (repeat apply bX); exact BK131.out) Try.underlying46 rfl (by kernel_rfl)) rfl ?_
                exact ⟨by first | rfl | (simp [errW_none, errW_some] <;> rfl) | (simp [*, errW_none, errW_some] <;> rfl), by repeat (first | (with_reducible first | exact HB.out | apply below_alloc | apply pw_below_drewN | apply below_drew1 | refine below_set ?_ GE130.out | refine below_set ?_ GE131.out | refine below_set ?_ GE133.out | refine below_set ?_ GE134.out) | exact HB.out)⟩
               rw [if_pos c158] at H
               have c158b0 : (a1 == 6) = true := beq_iff_eq.mpr c158
               have c158b1 : (a1 != 6) = false := bne_eq_false_iff_eq.mpr c158
               clear c158
               by_cases c159 : a0_0 = 4
               rotate_left
               ·rw [if_neg c159] at H
                have c159b0 : (a0_0 == 4) = false := beq_eq_false_iff_ne.mpr c159
                have c159b1 : (a0_0 != 4) = true := bne_iff_ne.mpr c159
                simp only [Option.some.injEq, Prod.mk.injEq] at H
                obtain ⟨rfl, rfl, rfl, rfl, rfl⟩ := H
                have hnb169 := NB130_131.out
                have hnc169 := NB131_130.out
                have hnb170 := NB130_133.out
                have hnc170 := NB133_130.out
                have hnb171 := NB130_134.out
                have hnc171 := NB134_130.out
                have hcz172_0 : wc.cell? ⟨gb130, 0, none⟩ = some (.int .i64 a0_0) := (blk_cell BK130.out 0).trans rfl
                have hcz172_1 : wc.cell? ⟨gb130, 1, none⟩ = some (.int .i64 a0_1) := (blk_cell BK130.out 1).trans rfl
                have hcz172_2 : wc.cell? ⟨gb130, 2, none⟩ = some (.int .i64 a0_2) := (blk_cell BK130.out 2).trans rfl
                have hcz172_3 : wc.cell? ⟨gb130, 3, none⟩ = some (.int .i64 a0_3) := (blk_cell BK130.out 3).trans rfl
                have hfz172_0 := blk_frozen BK130.out 0
                have hfz172_1 := blk_frozen BK130.out 1
                have hfz172_2 := blk_frozen BK130.out 2
                have hfz172_3 := blk_frozen BK130.out 3
                have hnb173 := NB131_133.out
                have hnc173 := NB133_131.out
                have hnb174 := NB131_134.out
                have hnc174 := NB134_131.out
                have hcz175_0 : wc.cell? ⟨gb131, 0, none⟩ = some (.int .i64 0) := (blk_cell BK131.out 0).trans rfl
                have hcz175_1 : wc.cell? ⟨gb131, 1, none⟩ = some (.int .i64 0) := (blk_cell BK131.out 1).trans rfl
                have hcz175_2 : wc.cell? ⟨gb131, 2, none⟩ = some (.int .i64 0) := (blk_cell BK131.out 2).trans rfl
                have hcz175_3 : wc.cell? ⟨gb131, 3, none⟩ = some (.int .i64 0) := (blk_cell BK131.out 3).trans rfl
                have hfz175_0 := blk_frozen BK131.out 0
                have hfz175_1 := blk_frozen BK131.out 1
                have hfz175_2 := blk_frozen BK131.out 2
                have hfz175_3 := blk_frozen BK131.out 3
                go_wp2
                refine bodyPost_ret (results_ct rfl _ _ gb131 46 #[.int .i64 a0_0, .int .i64 a0_1, .int .i64 a0_2, .int .i64 a0_3] (0, 0) _ rfl (by (repeat apply bX); refine blk_put (cs := #[.int .i64 a0_0, .int .i64 a0_1, .int .i64 a0_2, .int .i64 0]) ?_ 3 _ rfl; (repeat apply bX); refine blk_put (cs := #[.int .i64 a0_0, .int .i64 a0_1, .int .i64 0, .int .i64 0]) ?_ 2 _ rfl; (repeat apply bX); refine blk_put (cs := #[.int .i64 a0_0, .int .i64 0, .int .i64 0, .int .i64 0]) ?_ 1 _ rfl; (repeat apply bX); refine blk_put (cs := #[.int .i64 0, .int .i64 0, .int .i64 0, .int .i64 0]) ?_ 0 _ rfl; (repeat apply bX); exact BK131.out) Try.underlying46 rfl (by kernel_rfl)) rfl ?_
                exact ⟨by first | rfl | (simp [errW_none, errW_some] <;> rfl) | (simp [*, errW_none, errW_some] <;> rfl), by repeat (first | (with_reducible first | exact HB.out | apply below_alloc | apply pw_below_drewN | apply below_drew1 | refine below_set ?_ GE130.out | refine below_set ?_ GE131.out | refine below_set ?_ GE133.out | refine below_set ?_ GE134.out) | exact HB.out)⟩
               rw [if_pos c159] at H
               have c159b0 : (a0_0 == 4) = true := beq_iff_eq.mpr c159
               have c159b1 : (a0_0 != 4) = false := bne_eq_false_iff_eq.mpr c159
               clear c159
               simp only [Option.some.injEq, Prod.mk.injEq] at H
               obtain ⟨rfl, rfl, rfl, rfl, rfl⟩ := H
               have hnb160 := NB130_131.out
               have hnc160 := NB131_130.out
               have hnb161 := NB130_133.out
               have hnc161 := NB133_130.out
               have hnb162 := NB130_134.out
               have hnc162 := NB134_130.out
               have hcz163_0 : wc.cell? ⟨gb130, 0, none⟩ = some (.int .i64 a0_0) := (blk_cell BK130.out 0).trans rfl
               have hcz163_1 : wc.cell? ⟨gb130, 1, none⟩ = some (.int .i64 a0_1) := (blk_cell BK130.out 1).trans rfl
               have hcz163_2 : wc.cell? ⟨gb130, 2, none⟩ = some (.int .i64 a0_2) := (blk_cell BK130.out 2).trans rfl
               have hcz163_3 : wc.cell? ⟨gb130, 3, none⟩ = some (.int .i64 a0_3) := (blk_cell BK130.out 3).trans rfl
               have hfz163_0 := blk_frozen BK130.out 0
               have hfz163_1 := blk_frozen BK130.out 1
               have hfz163_2 := blk_frozen BK130.out 2
               have hfz163_3 := blk_frozen BK130.out 3
               have hnb164 := NB133_131.out
               have hnc164 := NB131_133.out
               have hnb165 := NB133_134.out
               have hnc165 := NB134_133.out
               have hcz166_0 : wc.cell? ⟨gb133, 0, none⟩ = some (.int .i64 a0_0) := (blk_cell BK133.out 0).trans rfl
               have hcz166_1 : wc.cell? ⟨gb133, 1, none⟩ = some (.int .i64 a0_1) := (blk_cell BK133.out 1).trans rfl
               have hcz166_2 : wc.cell? ⟨gb133, 2, none⟩ = some (.int .i64 a0_2) := (blk_cell BK133.out 2).trans rfl
               have hcz166_3 : wc.cell? ⟨gb133, 3, none⟩ = some (.int .i64 a0_3) := (blk_cell BK133.out 3).trans rfl
               have hfz166_0 := blk_frozen BK133.out 0
               have hfz166_1 := blk_frozen BK133.out 1
               have hfz166_2 := blk_frozen BK133.out 2
               have hfz166_3 := blk_frozen BK133.out 3
               have hnb167 := NB131_134.out
               have hnc167 := NB134_131.out
               have hcz168_0 : wc.cell? ⟨gb131, 0, none⟩ = some (.int .i64 0) := (blk_cell BK131.out 0).trans rfl
               have hcz168_1 : wc.cell? ⟨gb131, 1, none⟩ = some (.int .i64 0) := (blk_cell BK131.out 1).trans rfl
               have hcz168_2 : wc.cell? ⟨gb131, 2, none⟩ = some (.int .i64 0) := (blk_cell BK131.out 2).trans rfl
               have hcz168_3 : wc.cell? ⟨gb131, 3, none⟩ = some (.int .i64 0) := (blk_cell BK131.out 3).trans rfl
               have hfz168_0 := blk_frozen BK131.out 0
               have hfz168_1 := blk_frozen BK131.out 1
               have hfz168_2 := blk_frozen BK131.out 2
               have hfz168_3 := blk_frozen BK131.out 3
               go_wp2
               refine bodyPost_ret (results_ct rfl _ _ gb131 46 #[.int .i64 a0_0, .int .i64 a0_1, .int .i64 a0_2, .int .i64 (wrap64 (a0_3 + 1))] (0, 0) _ rfl (by (repeat apply bX); refine blk_put (cs := #[.int .i64 a0_0, .int .i64 a0_1, .int .i64 a0_2, .int .i64 0]) ?_ 3 _ rfl; (repeat apply bX); refine blk_put (cs := #[.int .i64 a0_0, .int .i64 a0_1, .int .i64 0, .int .i64 0]) ?_ 2 _ rfl; (repeat apply bX); refine blk_put (cs := #[.int .i64 a0_0, .int .i64 0, .int .i64 0, .int .i64 0]) ?_ 1 _ rfl; (repeat apply bX); refine blk_put (cs := #[.int .i64 0, .int .i64 0, .int .i64 0, .int .i64 0]) ?_ 0 _ rfl; (repeat apply bX); refine blk_far ?_ NB131_133.out _; (repeat apply bX); exact BK131.out) Try.underlying46 rfl (by kernel_rfl)) rfl ?_
               exact ⟨by first | rfl | (simp [errW_none, errW_some] <;> rfl) | (simp [*, errW_none, errW_some] <;> rfl), by repeat (first | (with_reducible first | exact HB.out | apply below_alloc | apply pw_below_drewN | apply below_drew1 | refine below_set ?_ GE130.out | refine below_set ?_ GE131.out | refine below_set ?_ GE133.out | refine below_set ?_ GE134.out) | exact HB.out)⟩
end Go.Proofs.Ytemapchppbpfmaa.PFnPorts
