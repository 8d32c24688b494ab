-- Written by a program of this session (wip/xp): not trusted, Lean checks it.
import Derived.Test.YtemapchppbpfmaaPFnPortsx0
import Derived.Test.YtemapchppbpfmaaPFnPortsx5
namespace Go.Proofs.Ytemapchppbpfmaa.PFnPorts
open Go.RowKit Go.Proofs.YtemapchppbpfmaaW.PrintWords Go.Proofs.YtemapchppbpfmaaW.PrintLast Go.Proofs.YtemapchppbpfmaaW.PrintMore
attribute [local go_sem] max2_int min2_int max_two min_two max_three min_three max_four min_four   -- for this text's walks alone
set_option linter.unusedVariables false
set_option linter.unusedSimpArgs false

/-! ### impl_PortStep: function 25 -/
mutual
def impl_PortStep.j0 : Nat → Int → Int → Bool → Int → Int → Int → Int → Int → Int → Int → Int → Option (Int × Int × Int × Int × Bool)
 | 0, _, _, _, _, _, _, _, _, _, _, _ => none
 | k + 1, x1, x2, x15, x217000, x217001, x217002, x217003, x220000, x220001, x220002, x220003 => if x15 = true then (some (1, x220001, x220002, x220003, true)) else (if x1 = 1 then (impl_PortStep.j1 k x1 x2 (x217000 == 1) x217000 x217001 x217002 x217003 x220000 x220001 x220002 x220003) else (impl_PortStep.j1 k x1 x2 false x217000 x217001 x217002 x217003 x220000 x220001 x220002 x220003))
def impl_PortStep.j1 : Nat → Int → Int → Bool → Int → Int → Int → Int → Int → Int → Int → Int → Option (Int × Int × Int × Int × Bool)
 | 0, _, _, _, _, _, _, _, _, _, _, _ => none
 | k + 1, x1, x2, x24, x217000, x217001, x217002, x217003, x220000, x220001, x220002, x220003 => if x24 = true then (some (2, x220001, x220002, 0, true)) else (if x1 = 1 then (impl_PortStep.j2 k x1 x2 (x217000 == 4) x217000 x217001 x217002 x217003 x220000 x220001 x220002 x220003) else (impl_PortStep.j2 k x1 x2 false x217000 x217001 x217002 x217003 x220000 x220001 x220002 x220003))
def impl_PortStep.j2 : Nat → Int → Int → Bool → Int → Int → Int → Int → Int → Int → Int → Int → Option (Int × Int × Int × Int × Bool)
 | 0, _, _, _, _, _, _, _, _, _, _, _ => none
 | k + 1, x1, x2, x34, x217000, x217001, x217002, x217003, x220000, x220001, x220002, x220003 => if x34 = true then (some (3, x220001, x220002, 0, true)) else (if x1 = 2 then (if x217000 = 2 then ((impl_IsWidth.f x2).bind fun t220 => (impl_PortStep.j3 k x1 x2 t220 x217000 x217001 x217002 x217003 x220000 x220001 x220002 x220003)) else (impl_PortStep.j3 k x1 x2 false x217000 x217001 x217002 x217003 x220000 x220001 x220002 x220003)) else (impl_PortStep.j3 k x1 x2 false x217000 x217001 x217002 x217003 x220000 x220001 x220002 x220003))
def impl_PortStep.j3 : Nat → Int → Int → Bool → Int → Int → Int → Int → Int → Int → Int → Int → Option (Int × Int × Int × Int × Bool)
 | 0, _, _, _, _, _, _, _, _, _, _, _ => none
 | k + 1, x1, x2, x44, x217000, x217001, x217002, x217003, x220000, x220001, x220002, x220003 => if x44 = true then (some (3, mn x217002 x2, x220002, x220003, true)) else (if x1 = 3 then (impl_PortStep.j4 k x1 (x217000 == 3) x217000 x217001 x217002 x217003 x220000 x220001 x220002 x220003) else (impl_PortStep.j4 k x1 false x217000 x217001 x217002 x217003 x220000 x220001 x220002 x220003))
def impl_PortStep.j4 : Nat → Int → Bool → Int → Int → Int → Int → Int → Int → Int → Int → Option (Int × Int × Int × Int × Bool)
 | 0, _, _, _, _, _, _, _, _, _, _ => none
 | k + 1, x1, x62, x217000, x217001, x217002, x217003, x220000, x220001, x220002, x220003 => if x62 = true then (some (4, x220001, x220002, x220003, true)) else (if x1 = 4 then (impl_PortStep.j5 k x1 (x217000 != 5) x217000 x217001 x217002 x217003 x220000 x220001 x220002 x220003) else (impl_PortStep.j5 k x1 false x217000 x217001 x217002 x217003 x220000 x220001 x220002 x220003))
def impl_PortStep.j5 : Nat → Int → Bool → Int → Int → Int → Int → Int → Int → Int → Int → Option (Int × Int × Int × Int × Bool)
 | 0, _, _, _, _, _, _, _, _, _, _ => none
 | k + 1, x1, x71, x217000, x217001, x217002, x217003, x220000, x220001, x220002, x220003 => if x71 = true then ((impl_Port_leave.f x217000 x217001 x217002 x217003 0).bind fun bt221 => (some (bt221.1, bt221.2.1, bt221.2.2.1, bt221.2.2.2, true))) else (if x1 = 5 then ((impl_Port_leave.f x217000 x217001 x217002 x217003 5).bind fun bt225 => (some (bt225.1, bt225.2.1, bt225.2.2.1, bt225.2.2.2, true))) else (if x1 = 6 then (if x217000 = 1 then (impl_PortStep.j6 k x1 true x217000 x217001 x217002 x217003 x220000 x220001 x220002 x220003) else (if x217000 = 2 then (impl_PortStep.j6 k x1 true x217000 x217001 x217002 x217003 x220000 x220001 x220002 x220003) else (if x217000 = 4 then (impl_PortStep.j6 k x1 (x217003 == 3) x217000 x217001 x217002 x217003 x220000 x220001 x220002 x220003) else (impl_PortStep.j6 k x1 false x217000 x217001 x217002 x217003 x220000 x220001 x220002 x220003)))) else (impl_PortStep.j6 k x1 false x217000 x217001 x217002 x217003 x220000 x220001 x220002 x220003)))
def impl_PortStep.j6 : Nat → Int → Bool → Int → Int → Int → Int → Int → Int → Int → Int → Option (Int × Int × Int × Int × Bool)
 | 0, _, _, _, _, _, _, _, _, _, _ => none
 | k + 1, x1, x86, x217000, x217001, x217002, x217003, x220000, x220001, x220002, x220003 => if x86 = true then ((impl_Port_leave.f x217000 x217001 x217002 x217003 0).bind fun bt229 => (some (bt229.1, bt229.2.1, bt229.2.2.1, bt229.2.2.2, true))) else (if x1 = 6 then (if x217000 = 4 then (some (x220000, x220001, x220002, wrap64 (x220003 + 1), true)) else (some (x217000, x217001, x217002, x217003, false))) else (some (x217000, x217001, x217002, x217003, false)))
end
def impl_PortStep.f (k : Nat) (a0_0 : Int) (a0_1 : Int) (a0_2 : Int) (a0_3 : Int) (a1 : Int) (a2 : Int) : Option (Int × Int × Int × Int × Bool) := (impl_PortOk.f k a0_0 a0_1 a0_2 a0_3).bind fun t218 => (if t218 = true then (if a1 = 0 then (impl_PortStep.j0 k a1 a2 (a0_0 == 0) a0_0 a0_1 a0_2 a0_3 a0_0 a0_1 a0_2 a0_3) else (impl_PortStep.j0 k a1 a2 false a0_0 a0_1 a0_2 a0_3 a0_0 a0_1 a0_2 a0_3)) else (some (a0_0, a0_1, a0_2, a0_3, false)))
theorem impl_PortStep.mono_l : ∀ k, (∀ y0 y1 y2 y3 y4 y5 y6 y7 y8 y9 y10, LeO (impl_PortStep.j0 k y0 y1 y2 y3 y4 y5 y6 y7 y8 y9 y10) (impl_PortStep.j0 (k + 1) y0 y1 y2 y3 y4 y5 y6 y7 y8 y9 y10)) ∧ (∀ y0 y1 y2 y3 y4 y5 y6 y7 y8 y9 y10, LeO (impl_PortStep.j1 k y0 y1 y2 y3 y4 y5 y6 y7 y8 y9 y10) (impl_PortStep.j1 (k + 1) y0 y1 y2 y3 y4 y5 y6 y7 y8 y9 y10)) ∧ (∀ y0 y1 y2 y3 y4 y5 y6 y7 y8 y9 y10, LeO (impl_PortStep.j2 k y0 y1 y2 y3 y4 y5 y6 y7 y8 y9 y10) (impl_PortStep.j2 (k + 1) y0 y1 y2 y3 y4 y5 y6 y7 y8 y9 y10)) ∧ (∀ y0 y1 y2 y3 y4 y5 y6 y7 y8 y9 y10, LeO (impl_PortStep.j3 k y0 y1 y2 y3 y4 y5 y6 y7 y8 y9 y10) (impl_PortStep.j3 (k + 1) y0 y1 y2 y3 y4 y5 y6 y7 y8 y9 y10)) ∧ (∀ y0 y1 y2 y3 y4 y5 y6 y7 y8 y9, LeO (impl_PortStep.j4 k y0 y1 y2 y3 y4 y5 y6 y7 y8 y9) (impl_PortStep.j4 (k + 1) y0 y1 y2 y3 y4 y5 y6 y7 y8 y9)) ∧ (∀ y0 y1 y2 y3 y4 y5 y6 y7 y8 y9, LeO (impl_PortStep.j5 k y0 y1 y2 y3 y4 y5 y6 y7 y8 y9) (impl_PortStep.j5 (k + 1) y0 y1 y2 y3 y4 y5 y6 y7 y8 y9)) ∧ (∀ y0 y1 y2 y3 y4 y5 y6 y7 y8 y9, LeO (impl_PortStep.j6 k y0 y1 y2 y3 y4 y5 y6 y7 y8 y9) (impl_PortStep.j6 (k + 1) y0 y1 y2 y3 y4 y5 y6 y7 y8 y9))
 | 0 => ⟨fun _ _ _ _ _ _ _ _ _ _ _ r h => by simp [impl_PortStep.j0] at h, fun _ _ _ _ _ _ _ _ _ _ _ r h => by simp [impl_PortStep.j1] at h, fun _ _ _ _ _ _ _ _ _ _ _ r h => by simp [impl_PortStep.j2] at h, fun _ _ _ _ _ _ _ _ _ _ _ r h => by simp [impl_PortStep.j3] at h, fun _ _ _ _ _ _ _ _ _ _ r h => by simp [impl_PortStep.j4] at h, fun _ _ _ _ _ _ _ _ _ _ r h => by simp [impl_PortStep.j5] at h, fun _ _ _ _ _ _ _ _ _ _ r h => by simp [impl_PortStep.j6] at h⟩
 | k + 1 => by
  obtain ⟨ih0, ih1, ih2, ih3, ih4, ih5, ih6⟩ := impl_PortStep.mono_l k
  refine ⟨?_, ?_, ?_, ?_, ?_, ?_, ?_⟩
  ·intro y0 y1 y2 y3 y4 y5 y6 y7 y8 y9 y10
   unfold impl_PortStep.j0
   repeat' first
   | (with_reducible exact ih0 _ _ _ _ _ _ _ _ _ _ _)
   | (with_reducible exact ih1 _ _ _ _ _ _ _ _ _ _ _)
   | (with_reducible exact ih2 _ _ _ _ _ _ _ _ _ _ _)
   | (with_reducible exact ih3 _ _ _ _ _ _ _ _ _ _ _)
   | (with_reducible exact ih4 _ _ _ _ _ _ _ _ _ _)
   | (with_reducible exact ih5 _ _ _ _ _ _ _ _ _ _)
   | (with_reducible exact ih6 _ _ _ _ _ _ _ _ _ _)
   | (with_reducible exact impl_PortOk.mono _ _ _ _ _)
   | (with_reducible exact LeO.refl _)
   | (with_reducible exact LeO.none _)
   | (with_reducible refine LeO.ite ?_ ?_)
   | (with_reducible refine LeO.bind ?_ (fun _ => ?_))
   | exact ih0 _ _ _ _ _ _ _ _ _ _ _
   | exact ih1 _ _ _ _ _ _ _ _ _ _ _
   | exact ih2 _ _ _ _ _ _ _ _ _ _ _
   | exact ih3 _ _ _ _ _ _ _ _ _ _ _
   | exact ih4 _ _ _ _ _ _ _ _ _ _
   | exact ih5 _ _ _ _ _ _ _ _ _ _
   | exact ih6 _ _ _ _ _ _ _ _ _ _
   | exact impl_PortOk.mono _ _ _ _ _
   | exact LeO.none _
   | refine LeO.ite ?_ ?_
   | refine LeO.bind ?_ (fun _ => ?_)
  ·intro y0 y1 y2 y3 y4 y5 y6 y7 y8 y9 y10
   unfold impl_PortStep.j1
   repeat' first
   | (with_reducible exact ih0 _ _ _ _ _ _ _ _ _ _ _)
   | (with_reducible exact ih1 _ _ _ _ _ _ _ _ _ _ _)
   | (with_reducible exact ih2 _ _ _ _ _ _ _ _ _ _ _)
   | (with_reducible exact ih3 _ _ _ _ _ _ _ _ _ _ _)
   | (with_reducible exact ih4 _ _ _ _ _ _ _ _ _ _)
   | (with_reducible exact ih5 _ _ _ _ _ _ _ _ _ _)
   | (with_reducible exact ih6 _ _ _ _ _ _ _ _ _ _)
   | (with_reducible exact impl_PortOk.mono _ _ _ _ _)
   | (with_reducible exact LeO.refl _)
   | (with_reducible exact LeO.none _)
   | (with_reducible refine LeO.ite ?_ ?_)
   | (with_reducible refine LeO.bind ?_ (fun _ => ?_))
   | exact ih0 _ _ _ _ _ _ _ _ _ _ _
   | exact ih1 _ _ _ _ _ _ _ _ _ _ _
   | exact ih2 _ _ _ _ _ _ _ _ _ _ _
   | exact ih3 _ _ _ _ _ _ _ _ _ _ _
   | exact ih4 _ _ _ _ _ _ _ _ _ _
   | exact ih5 _ _ _ _ _ _ _ _ _ _
   | exact ih6 _ _ _ _ _ _ _ _ _ _
   | exact impl_PortOk.mono _ _ _ _ _
   | exact LeO.none _
   | refine LeO.ite ?_ ?_
   | refine LeO.bind ?_ (fun _ => ?_)
  ·intro y0 y1 y2 y3 y4 y5 y6 y7 y8 y9 y10
   unfold impl_PortStep.j2
   repeat' first
   | (with_reducible exact ih0 _ _ _ _ _ _ _ _ _ _ _)
   | (with_reducible exact ih1 _ _ _ _ _ _ _ _ _ _ _)
   | (with_reducible exact ih2 _ _ _ _ _ _ _ _ _ _ _)
   | (with_reducible exact ih3 _ _ _ _ _ _ _ _ _ _ _)
   | (with_reducible exact ih4 _ _ _ _ _ _ _ _ _ _)
   | (with_reducible exact ih5 _ _ _ _ _ _ _ _ _ _)
   | (with_reducible exact ih6 _ _ _ _ _ _ _ _ _ _)
   | (with_reducible exact impl_PortOk.mono _ _ _ _ _)
   | (with_reducible exact LeO.refl _)
   | (with_reducible exact LeO.none _)
   | (with_reducible refine LeO.ite ?_ ?_)
   | (with_reducible refine LeO.bind ?_ (fun _ => ?_))
   | exact ih0 _ _ _ _ _ _ _ _ _ _ _
   | exact ih1 _ _ _ _ _ _ _ _ _ _ _
   | exact ih2 _ _ _ _ _ _ _ _ _ _ _
   | exact ih3 _ _ _ _ _ _ _ _ _ _ _
   | exact ih4 _ _ _ _ _ _ _ _ _ _
   | exact ih5 _ _ _ _ _ _ _ _ _ _
   | exact ih6 _ _ _ _ _ _ _ _ _ _
   | exact impl_PortOk.mono _ _ _ _ _
   | exact LeO.none _
   | refine LeO.ite ?_ ?_
   | refine LeO.bind ?_ (fun _ => ?_)
  ·intro y0 y1 y2 y3 y4 y5 y6 y7 y8 y9 y10
   unfold impl_PortStep.j3
   repeat' first
   | (with_reducible exact ih0 _ _ _ _ _ _ _ _ _ _ _)
   | (with_reducible exact ih1 _ _ _ _ _ _ _ _ _ _ _)
   | (with_reducible exact ih2 _ _ _ _ _ _ _ _ _ _ _)
   | (with_reducible exact ih3 _ _ _ _ _ _ _ _ _ _ _)
   | (with_reducible exact ih4 _ _ _ _ _ _ _ _ _ _)
   | (with_reducible exact ih5 _ _ _ _ _ _ _ _ _ _)
   | (with_reducible exact ih6 _ _ _ _ _ _ _ _ _ _)
   | (with_reducible exact impl_PortOk.mono _ _ _ _ _)
   | (with_reducible exact LeO.refl _)
   | (with_reducible exact LeO.none _)
   | (with_reducible refine LeO.ite ?_ ?_)
   | (with_reducible refine LeO.bind ?_ (fun _ => ?_))
   | exact ih0 _ _ _ _ _ _ _ _ _ _ _
   | exact ih1 _ _ _ _ _ _ _ _ _ _ _
   | exact ih2 _ _ _ _ _ _ _ _ _ _ _
   | exact ih3 _ _ _ _ _ _ _ _ _ _ _
   | exact ih4 _ _ _ _ _ _ _ _ _ _
   | exact ih5 _ _ _ _ _ _ _ _ _ _
   | exact ih6 _ _ _ _ _ _ _ _ _ _
   | exact impl_PortOk.mono _ _ _ _ _
   | exact LeO.none _
   | refine LeO.ite ?_ ?_
   | refine LeO.bind ?_ (fun _ => ?_)
  ·intro y0 y1 y2 y3 y4 y5 y6 y7 y8 y9
   unfold impl_PortStep.j4
   repeat' first
   | (with_reducible exact ih0 _ _ _ _ _ _ _ _ _ _ _)
   | (with_reducible exact ih1 _ _ _ _ _ _ _ _ _ _ _)
   | (with_reducible exact ih2 _ _ _ _ _ _ _ _ _ _ _)
   | (with_reducible exact ih3 _ _ _ _ _ _ _ _ _ _ _)
   | (with_reducible exact ih4 _ _ _ _ _ _ _ _ _ _)
   | (with_reducible exact ih5 _ _ _ _ _ _ _ _ _ _)
   | (with_reducible exact ih6 _ _ _ _ _ _ _ _ _ _)
   | (with_reducible exact impl_PortOk.mono _ _ _ _ _)
   | (with_reducible exact LeO.refl _)
   | (with_reducible exact LeO.none _)
   | (with_reducible refine LeO.ite ?_ ?_)
   | (with_reducible refine LeO.bind ?_ (fun _ => ?_))
   | exact ih0 _ _ _ _ _ _ _ _ _ _ _
   | exact ih1 _ _ _ _ _ _ _ _ _ _ _
   | exact ih2 _ _ _ _ _ _ _ _ _ _ _
   | exact ih3 _ _ _ _ _ _ _ _ _ _ _
   | exact ih4 _ _ _ _ _ _ _ _ _ _
   | exact ih5 _ _ _ _ _ _ _ _ _ _
   | exact ih6 _ _ _ _ _ _ _ _ _ _
   | exact impl_PortOk.mono _ _ _ _ _
   | exact LeO.none _
   | refine LeO.ite ?_ ?_
   | refine LeO.bind ?_ (fun _ => ?_)
  ·intro y0 y1 y2 y3 y4 y5 y6 y7 y8 y9
   unfold impl_PortStep.j5
   repeat' first
   | (with_reducible exact ih0 _ _ _ _ _ _ _ _ _ _ _)
   | (with_reducible exact ih1 _ _ _ _ _ _ _ _ _ _ _)
   | (with_reducible exact ih2 _ _ _ _ _ _ _ _ _ _ _)
   | (with_reducible exact ih3 _ _ _ _ _ _ _ _ _ _ _)
   | (with_reducible exact ih4 _ _ _ _ _ _ _ _ _ _)
   | (with_reducible exact ih5 _ _ _ _ _ _ _ _ _ _)
   | (with_reducible exact ih6 _ _ _ _ _ _ _ _ _ _)
   | (with_reducible exact impl_PortOk.mono _ _ _ _ _)
   | (with_reducible exact LeO.refl _)
   | (with_reducible exact LeO.none _)
   | (with_reducible refine LeO.ite ?_ ?_)
   | (with_reducible refine LeO.bind ?_ (fun _ => ?_))
   | exact ih0 _ _ _ _ _ _ _ _ _ _ _
   | exact ih1 _ _ _ _ _ _ _ _ _ _ _
   | exact ih2 _ _ _ _ _ _ _ _ _ _ _
   | exact ih3 _ _ _ _ _ _ _ _ _ _ _
   | exact ih4 _ _ _ _ _ _ _ _ _ _
   | exact ih5 _ _ _ _ _ _ _ _ _ _
   | exact ih6 _ _ _ _ _ _ _ _ _ _
   | exact impl_PortOk.mono _ _ _ _ _
   | exact LeO.none _
   | refine LeO.ite ?_ ?_
   | refine LeO.bind ?_ (fun _ => ?_)
  ·intro y0 y1 y2 y3 y4 y5 y6 y7 y8 y9
   unfold impl_PortStep.j6
   repeat' first
   | (with_reducible exact ih0 _ _ _ _ _ _ _ _ _ _ _)
   | (with_reducible exact ih1 _ _ _ _ _ _ _ _ _ _ _)
   | (with_reducible exact ih2 _ _ _ _ _ _ _ _ _ _ _)
   | (with_reducible exact ih3 _ _ _ _ _ _ _ _ _ _ _)
   | (with_reducible exact ih4 _ _ _ _ _ _ _ _ _ _)
   | (with_reducible exact ih5 _ _ _ _ _ _ _ _ _ _)
   | (with_reducible exact ih6 _ _ _ _ _ _ _ _ _ _)
   | (with_reducible exact impl_PortOk.mono _ _ _ _ _)
   | (with_reducible exact LeO.refl _)
   | (with_reducible exact LeO.none _)
   | (with_reducible refine LeO.ite ?_ ?_)
   | (with_reducible refine LeO.bind ?_ (fun _ => ?_))
   | exact ih0 _ _ _ _ _ _ _ _ _ _ _
   | exact ih1 _ _ _ _ _ _ _ _ _ _ _
   | exact ih2 _ _ _ _ _ _ _ _ _ _ _
   | exact ih3 _ _ _ _ _ _ _ _ _ _ _
   | exact ih4 _ _ _ _ _ _ _ _ _ _
   | exact ih5 _ _ _ _ _ _ _ _ _ _
   | exact ih6 _ _ _ _ _ _ _ _ _ _
   | exact impl_PortOk.mono _ _ _ _ _
   | exact LeO.none _
   | refine LeO.ite ?_ ?_
   | refine LeO.bind ?_ (fun _ => ?_)
theorem impl_PortStep.mono : ∀ a0 a1 a2 a3 a4 a5 k, LeO (impl_PortStep.f k a0 a1 a2 a3 a4 a5) (impl_PortStep.f (k + 1) a0 a1 a2 a3 a4 a5) := by
 intro a0 a1 a2 a3 a4 a5 k
 obtain ⟨ih0, ih1, ih2, ih3, ih4, ih5, ih6⟩ := impl_PortStep.mono_l k
 unfold impl_PortStep.f
 repeat' first
   | (with_reducible exact ih0 _ _ _ _ _ _ _ _ _ _ _)
   | (with_reducible exact ih1 _ _ _ _ _ _ _ _ _ _ _)
   | (with_reducible exact ih2 _ _ _ _ _ _ _ _ _ _ _)
   | (with_reducible exact ih3 _ _ _ _ _ _ _ _ _ _ _)
   | (with_reducible exact ih4 _ _ _ _ _ _ _ _ _ _)
   | (with_reducible exact ih5 _ _ _ _ _ _ _ _ _ _)
   | (with_reducible exact ih6 _ _ _ _ _ _ _ _ _ _)
   | (with_reducible exact impl_PortOk.mono _ _ _ _ _)
   | (with_reducible exact LeO.refl _)
   | (with_reducible exact LeO.none _)
   | (with_reducible refine LeO.ite ?_ ?_)
   | (with_reducible refine LeO.bind ?_ (fun _ => ?_))
   | exact ih0 _ _ _ _ _ _ _ _ _ _ _
   | exact ih1 _ _ _ _ _ _ _ _ _ _ _
   | exact ih2 _ _ _ _ _ _ _ _ _ _ _
   | exact ih3 _ _ _ _ _ _ _ _ _ _ _
   | exact ih4 _ _ _ _ _ _ _ _ _ _
   | exact ih5 _ _ _ _ _ _ _ _ _ _
   | exact ih6 _ _ _ _ _ _ _ _ _ _
   | exact impl_PortOk.mono _ _ _ _ _
   | exact LeO.none _
   | refine LeO.ite ?_ ?_
   | refine LeO.bind ?_ (fun _ => ?_)
def impl_PortStep.T12 : Bool × List (List Nat × List Nat) := (true, [([], []), ([0], [0]), ([], []), ([1, 2], [1, 2]), ([], []), ([4], [4]), ([0, 1, 2, 3, 4, 5], []), ([6, 3, 5, 0, 1, 2, 3, 4, 5], [3, 6])])
def impl_PortStep.B12 : List Nat := [0, 1, 0, 7, 0, 16, 63, 127]
theorem impl_PortStep.tab12 : rtab .any (opsOf Try.f25 12) = impl_PortStep.T12 := by kernel_rfl
theorem impl_PortStep.bits12 : waitsOk impl_PortStep.T12.2 impl_PortStep.B12 = true := by kernel_rfl
set_option maxHeartbeats 8000000 in
set_option maxRecDepth 100000 in
theorem impl_PortStep.calls (k : Nat) (a0_0 : Int) (a0_1 : Int) (a0_2 : Int) (a0_3 : Int) (a1 : Int) (a2 : Int) (r1 : Int) (r2 : Int) (r3 : Int) (r4 : Int) (r5 : Bool) (w : World) (h : impl_PortStep.f k a0_0 a0_1 a0_2 a0_3 a1 a2 = some (r1, r2, r3, r4, r5)) :
  Calls Try.prog 25 #[.agg #[.int .i64 a0_0, .int .i64 a0_1, .int .i64 a0_2, .int .i64 a0_3], .int .i64 a1, .int .i64 a2] w fun e w' => e = .returned (.tuple #[.agg #[.int .i64 r1, .int .i64 r2, .int .i64 r3, .int .i64 r4], .bool r5]) ∧ Below w.heap.size w w' := by
 have hu46 := Try.underlying46
 have HB := Aside0.mk (Below.refl w.heap.size w)
 have H : ((impl_PortOk.f k a0_0 a0_1 a0_2 a0_3).bind fun t218 => (if t218 = true then (if a1 = 0 then (impl_PortStep.j0 k a1 a2 (a0_0 == 0) a0_0 a0_1 a0_2 a0_3 a0_0 a0_1 a0_2 a0_3) else (impl_PortStep.j0 k a1 a2 false a0_0 a0_1 a0_2 a0_3 a0_0 a0_1 a0_2 a0_3)) else (some (a0_0, a0_1, a0_2, a0_3, false)))) = some (r1, r2, r3, r4, r5) := h
 clear h
 replace H := Option.bind_eq_some_iff.mp H
 obtain ⟨t218, A40, H⟩ := H
 have A4 := Aside0.mk A40
 clear A40
 by_cases c5 : t218 = true
 rotate_left
 ·replace c5 := Bool.eq_false_iff.mpr c5
  subst c5
  have H1 : (some (a0_0, a0_1, a0_2, a0_3, false)) = some (r1, r2, r3, r4, r5) := by rw [if_neg (show ¬ (false = true) by decide)] at H; exact H
  clear H
  have H := H1
  clear H1
  simp only [Option.some.injEq, Prod.mk.injEq] at H
  obtain ⟨rfl, rfl, rfl, rfl, rfl⟩ := H
  go_enter Try.func25, Try.ntmps25
  go_wp2_with (first | ((with_reducible refine gate_dst (N := 3) rfl ?_); refine box_event ?hg (N := 3) ?hd (cs := #[.int .i64 a0_0, .int .i64 a0_1, .int .i64 a0_2, .int .i64 a0_3]) (t := 46) ?hr ?_; (case hd => rfl); (case hg => rfl); (case hr => first | (go_simp; done) | (go_simp; rfl)); intro gb216 hg w147 hbox hb; have n0_ := Aside0.mk (below_step (by repeat (first | (with_reducible first | exact HB.out | apply below_alloc | apply pw_below_drewN | apply below_drew1) | exact HB.out)) hb); have n1_ := Aside0.mk (hbox); have n2_ := Aside0.mk ((by rw [hg]; exact (below_size (by repeat (first | (with_reducible first | exact HB.out | apply below_alloc | apply pw_below_drewN | apply below_drew1) | exact HB.out))) : w.heap.size ≤ gb216)); have n3_ := Aside0.mk ((by rw [hg]; exact (below_size (by repeat (first | (with_reducible first | exact HB.out | apply below_alloc | apply pw_below_drewN | apply below_drew1) | exact HB.out))) : w.heap.size ≤ gb216)); clear HB; have HB := n0_; have BK216 := n1_; have GW216 := n2_; have GE216 := n3_; clear n0_ n1_ n2_ n3_; clear hb hbox hg) | ((with_reducible refine gate_dst (N := 6) rfl ?_); refine box_event ?hg (N := 6) ?hd (cs := #[.int .i64 0, .int .i64 0, .int .i64 0, .int .i64 0]) (t := 46) ?hr ?_; (case hd => rfl); (case hg => rfl); (case hr => first | (go_simp; done) | (go_simp; rfl)); intro gb217 hg w148 hbox hb; have n0_ := Aside0.mk (blk_below (bY BK216.out) hb); have n1_ := Aside0.mk (below_step (by repeat (first | (with_reducible first | exact HB.out | apply below_alloc | apply pw_below_drewN | apply below_drew1 | refine below_set ?_ GE216.out) | exact HB.out)) hb); have n2_ := Aside0.mk (hbox); have n3_ := Aside0.mk ((by rw [hg]; exact (below_size (by repeat (first | (with_reducible first | exact HB.out | apply below_alloc | apply pw_below_drewN | apply below_drew1 | refine below_set ?_ GE216.out) | exact HB.out))) : w.heap.size ≤ gb217)); have n4_ := Aside0.mk ((by rw [hg]; exact (below_size (by repeat (first | (with_reducible first | exact HB.out | apply below_alloc | apply pw_below_drewN | apply below_drew1 | refine below_set ?_ GE216.out) | exact HB.out))) : w.heap.size ≤ gb217)); have n5_ := Aside0.mk ((by rw [hg]; exact Nat.ne_of_lt (blk_lt (bY BK216.out)) : gb216 ≠ gb217)); have n6_ := Aside0.mk ((by rw [hg]; exact Nat.ne_of_gt (blk_lt (bY BK216.out)) : gb217 ≠ gb216)); clear BK216; clear HB; have BK216 := n0_; have HB := n1_; have BK217 := n2_; have GW217 := n3_; have GE217 := n4_; have NB216_217 := n5_; have NB217_216 := n6_; clear n0_ n1_ n2_ n3_ n4_ n5_ n6_; clear hb hbox hg; have hnb149 := NB216_217.out; have hnc149 := NB217_216.out; have hcz150_0 : w148.cell? ⟨gb216, 0, none⟩ = some (.int .i64 a0_0) := (blk_cell BK216.out 0).trans rfl; have hcz150_1 : w148.cell? ⟨gb216, 1, none⟩ = some (.int .i64 a0_1) := (blk_cell BK216.out 1).trans rfl; have hcz150_2 : w148.cell? ⟨gb216, 2, none⟩ = some (.int .i64 a0_2) := (blk_cell BK216.out 2).trans rfl; have hcz150_3 : w148.cell? ⟨gb216, 3, none⟩ = some (.int .i64 a0_3) := (blk_cell BK216.out 3).trans rfl; have hfz150_0 := blk_frozen BK216.out 0; have hfz150_1 := blk_frozen BK216.out 1; have hfz150_2 := blk_frozen BK216.out 2; have hfz150_3 := blk_frozen BK216.out 3) | ((with_reducible refine gate_callee (f := 26) rfl ?_); refine goesL_ (some 10) rfl rfl Try.func26 (by kernel_rfl) rfl #[.agg #[.int .i64 a0_0, .int .i64 a0_1, .int .i64 a0_2, .int .i64 a0_3]] rfl (by (try simp only [List.map_toArray, List.map_cons, List.map_nil]); first | done | rfl) ?_; (with_reducible refine (impl_PortOk.calls k a0_0 a0_1 a0_2 a0_3 false _ A4.out).mono ?_); rintro e w151 ⟨rfl, hb⟩; refine ⟨_, rfl, ?_⟩; have n0_ := Aside0.mk (blk_below (bY BK216.out) hb); have n1_ := Aside0.mk (blk_below (bY BK217.out) hb); have n2_ := Aside0.mk (below_step (by repeat (first | (with_reducible first | exact HB.out | apply below_alloc | apply pw_below_drewN | apply below_drew1 | refine below_set ?_ GE216.out | refine below_set ?_ GE217.out) | exact HB.out)) hb); clear BK216; clear BK217; clear HB; have BK216 := n0_; have BK217 := n1_; have HB := n2_; clear n0_ n1_ n2_; (try clear hb); (try clear hb2); (try clear hk); (try clear hi); have hcz152_0 : w151.cell? ⟨gb216, 0, none⟩ = some (.int .i64 a0_0) := (blk_cell BK216.out 0).trans rfl; have hcz152_1 : w151.cell? ⟨gb216, 1, none⟩ = some (.int .i64 a0_1) := (blk_cell BK216.out 1).trans rfl; have hcz152_2 : w151.cell? ⟨gb216, 2, none⟩ = some (.int .i64 a0_2) := (blk_cell BK216.out 2).trans rfl; have hcz152_3 : w151.cell? ⟨gb216, 3, none⟩ = some (.int .i64 a0_3) := (blk_cell BK216.out 3).trans rfl; have hfz152_0 := blk_frozen BK216.out 0; have hfz152_1 := blk_frozen BK216.out 1; have hfz152_2 := blk_frozen BK216.out 2; have hfz152_3 := blk_frozen BK216.out 3; have hcz153_0 : w151.cell? ⟨gb217, 0, none⟩ = some (.int .i64 0) := (blk_cell BK217.out 0).trans rfl; have hcz153_1 : w151.cell? ⟨gb217, 1, none⟩ = some (.int .i64 0) := (blk_cell BK217.out 1).trans rfl; have hcz153_2 : w151.cell? ⟨gb217, 2, none⟩ = some (.int .i64 0) := (blk_cell BK217.out 2).trans rfl; have hcz153_3 : w151.cell? ⟨gb217, 3, none⟩ = some (.int .i64 0) := (blk_cell BK217.out 3).trans rfl; have hfz153_0 := blk_frozen BK217.out 0; have hfz153_1 := blk_frozen BK217.out 1; have hfz153_2 := blk_frozen BK217.out 2; have hfz153_3 := blk_frozen BK217.out 3))
  refine bodyPost_ret (results_ct rfl _ _ gb217 46 #[.int .i64 a0_0, .int .i64 a0_1, .int .i64 a0_2, .int .i64 a0_3] (0, 0) _ rfl (by (repeat apply bX); refine blk_put (cs := #[.int .i64 a0_0, .int .i64 a0_1, .int .i64 a0_2, .int .i64 0]) ?_ 3 _ rfl; (repeat apply bX); refine blk_put (cs := #[.int .i64 a0_0, .int .i64 a0_1, .int .i64 0, .int .i64 0]) ?_ 2 _ rfl; (repeat apply bX); refine blk_put (cs := #[.int .i64 a0_0, .int .i64 0, .int .i64 0, .int .i64 0]) ?_ 1 _ rfl; (repeat apply bX); refine blk_put (cs := #[.int .i64 0, .int .i64 0, .int .i64 0, .int .i64 0]) ?_ 0 _ rfl; (repeat apply bX); exact BK217.out) Try.underlying46 rfl (by kernel_rfl)) rfl ?_
  exact ⟨by first | rfl | (simp [errW_none, errW_some] <;> rfl) | (simp [*, errW_none, errW_some] <;> rfl), by repeat (first | (with_reducible first | exact HB.out | apply below_alloc | apply pw_below_drewN | apply below_drew1 | refine below_set ?_ GE216.out | refine below_set ?_ GE217.out) | exact HB.out)⟩
 subst c5
 have H1 : (if a1 = 0 then (impl_PortStep.j0 k a1 a2 (a0_0 == 0) a0_0 a0_1 a0_2 a0_3 a0_0 a0_1 a0_2 a0_3) else (impl_PortStep.j0 k a1 a2 false a0_0 a0_1 a0_2 a0_3 a0_0 a0_1 a0_2 a0_3)) = some (r1, r2, r3, r4, r5) := by rw [if_pos rfl] at H; exact H
 clear H
 have H := H1
 clear H1
 have HC6 := Aside0.mk H
 clear H
 go_enter Try.func25, Try.ntmps25
 go_upto_region 5 with (first | ((with_reducible refine gate_dst (N := 3) rfl ?_); refine box_event ?hg (N := 3) ?hd (cs := #[.int .i64 a0_0, .int .i64 a0_1, .int .i64 a0_2, .int .i64 a0_3]) (t := 46) ?hr ?_; (case hd => rfl); (case hg => rfl); (case hr => first | (go_simp; done) | (go_simp; rfl)); intro gb216 hg w7 hbox hb; have n0_ := Aside0.mk (below_step (by repeat (first | (with_reducible first | exact HB.out | apply below_alloc | apply pw_below_drewN | apply below_drew1) | exact HB.out)) hb); have n1_ := Aside0.mk (hbox); have n2_ := Aside0.mk ((by rw [hg]; exact (below_size (by repeat (first | (with_reducible first | exact HB.out | apply below_alloc | apply pw_below_drewN | apply below_drew1) | exact HB.out))) : w.heap.size ≤ gb216)); have n3_ := Aside0.mk ((by rw [hg]; exact (below_size (by repeat (first | (with_reducible first | exact HB.out | apply below_alloc | apply pw_below_drewN | apply below_drew1) | exact HB.out))) : w.heap.size ≤ gb216)); clear HB; have HB := n0_; have BK216 := n1_; have GW216 := n2_; have GE216 := n3_; clear n0_ n1_ n2_ n3_; clear hb hbox hg) | ((with_reducible refine gate_dst (N := 6) rfl ?_); refine box_event ?hg (N := 6) ?hd (cs := #[.int .i64 0, .int .i64 0, .int .i64 0, .int .i64 0]) (t := 46) ?hr ?_; (case hd => rfl); (case hg => rfl); (case hr => first | (go_simp; done) | (go_simp; rfl)); intro gb217 hg w8 hbox hb; have n0_ := Aside0.mk (blk_below (bY BK216.out) hb); have n1_ := Aside0.mk (below_step (by repeat (first | (with_reducible first | exact HB.out | apply below_alloc | apply pw_below_drewN | apply below_drew1 | refine below_set ?_ GE216.out) | exact HB.out)) hb); have n2_ := Aside0.mk (hbox); have n3_ := Aside0.mk ((by rw [hg]; exact (below_size (by repeat (first | (with_reducible first | exact HB.out | apply below_alloc | apply pw_below_drewN | apply below_drew1 | refine below_set ?_ GE216.out) | exact HB.out))) : w.heap.size ≤ gb217)); have n4_ := Aside0.mk ((by rw [hg]; exact (below_size (by repeat (first | (with_reducible first | exact HB.out | apply below_alloc | apply pw_below_drewN | apply below_drew1 | refine below_set ?_ GE216.out) | exact HB.out))) : w.heap.size ≤ gb217)); have n5_ := Aside0.mk ((by rw [hg]; exact Nat.ne_of_lt (blk_lt (bY BK216.out)) : gb216 ≠ gb217)); have n6_ := Aside0.mk ((by rw [hg]; exact Nat.ne_of_gt (blk_lt (bY BK216.out)) : gb217 ≠ gb216)); clear BK216; clear HB; have BK216 := n0_; have HB := n1_; have BK217 := n2_; have GW217 := n3_; have GE217 := n4_; have NB216_217 := n5_; have NB217_216 := n6_; clear n0_ n1_ n2_ n3_ n4_ n5_ n6_; clear hb hbox hg; have hnb9 := NB216_217.out; have hnc9 := NB217_216.out; have hcz10_0 : w8.cell? ⟨gb216, 0, none⟩ = some (.int .i64 a0_0) := (blk_cell BK216.out 0).trans rfl; have hcz10_1 : w8.cell? ⟨gb216, 1, none⟩ = some (.int .i64 a0_1) := (blk_cell BK216.out 1).trans rfl; have hcz10_2 : w8.cell? ⟨gb216, 2, none⟩ = some (.int .i64 a0_2) := (blk_cell BK216.out 2).trans rfl; have hcz10_3 : w8.cell? ⟨gb216, 3, none⟩ = some (.int .i64 a0_3) := (blk_cell BK216.out 3).trans rfl; have hfz10_0 := blk_frozen BK216.out 0; have hfz10_1 := blk_frozen BK216.out 1; have hfz10_2 := blk_frozen BK216.out 2; have hfz10_3 := blk_frozen BK216.out 3) | ((with_reducible refine gate_callee (f := 26) rfl ?_); refine goesL_ (some 10) rfl rfl Try.func26 (by kernel_rfl) rfl #[.agg #[.int .i64 a0_0, .int .i64 a0_1, .int .i64 a0_2, .int .i64 a0_3]] rfl (by (try simp only [List.map_toArray, List.map_cons, List.map_nil]); first | done | rfl) ?_; (with_reducible refine (impl_PortOk.calls k a0_0 a0_1 a0_2 a0_3 true _ A4.out).mono ?_); rintro e w11 ⟨rfl, hb⟩; refine ⟨_, rfl, ?_⟩; have n0_ := Aside0.mk (blk_below (bY BK216.out) hb); have n1_ := Aside0.mk (blk_below (bY BK217.out) hb); have n2_ := Aside0.mk (below_step (by repeat (first | (with_reducible first | exact HB.out | apply below_alloc | apply pw_below_drewN | apply below_drew1 | refine below_set ?_ GE216.out | refine below_set ?_ GE217.out) | exact HB.out)) hb); clear BK216; clear BK217; clear HB; have BK216 := n0_; have BK217 := n1_; have HB := n2_; clear n0_ n1_ n2_; (try clear hb); (try clear hb2); (try clear hk); (try clear hi); have hcz12_0 : w11.cell? ⟨gb216, 0, none⟩ = some (.int .i64 a0_0) := (blk_cell BK216.out 0).trans rfl; have hcz12_1 : w11.cell? ⟨gb216, 1, none⟩ = some (.int .i64 a0_1) := (blk_cell BK216.out 1).trans rfl; have hcz12_2 : w11.cell? ⟨gb216, 2, none⟩ = some (.int .i64 a0_2) := (blk_cell BK216.out 2).trans rfl; have hcz12_3 : w11.cell? ⟨gb216, 3, none⟩ = some (.int .i64 a0_3) := (blk_cell BK216.out 3).trans rfl; have hfz12_0 := blk_frozen BK216.out 0; have hfz12_1 := blk_frozen BK216.out 1; have hfz12_2 := blk_frozen BK216.out 2; have hfz12_3 := blk_frozen BK216.out 3) | ((with_reducible refine gate_dst (N := 8) rfl ?_); refine box_event ?hg (N := 8) ?hd (cs := #[.int .i64 0, .int .i64 0, .int .i64 0, .int .i64 0]) (t := 46) ?hr ?_; (case hd => rfl); (case hg => rfl); (case hr => first | (go_simp; done) | (go_simp; rfl)); intro gb219 hg w13 hbox hb; have n0_ := Aside0.mk (blk_below (bY BK216.out) hb); have n1_ := Aside0.mk (blk_below (bY BK217.out) hb); have n2_ := Aside0.mk (below_step (by repeat (first | (with_reducible first | exact HB.out | apply below_alloc | apply pw_below_drewN | apply below_drew1 | refine below_set ?_ GE216.out | refine below_set ?_ GE217.out) | exact HB.out)) hb); have n3_ := Aside0.mk (hbox); have n4_ := Aside0.mk ((by rw [hg]; exact (below_size (by repeat (first | (with_reducible first | exact HB.out | apply below_alloc | apply pw_below_drewN | apply below_drew1 | refine below_set ?_ GE216.out | refine below_set ?_ GE217.out) | exact HB.out))) : w.heap.size ≤ gb219)); have n5_ := Aside0.mk ((by rw [hg]; exact (below_size (by repeat (first | (with_reducible first | exact HB.out | apply below_alloc | apply pw_below_drewN | apply below_drew1 | refine below_set ?_ GE216.out | refine below_set ?_ GE217.out) | exact HB.out))) : w.heap.size ≤ gb219)); have n6_ := Aside0.mk ((by rw [hg]; exact Nat.ne_of_lt (blk_lt (bY BK216.out)) : gb216 ≠ gb219)); have n7_ := Aside0.mk ((by rw [hg]; exact Nat.ne_of_gt (blk_lt (bY BK216.out)) : gb219 ≠ gb216)); have n8_ := Aside0.mk ((by rw [hg]; exact Nat.ne_of_lt (blk_lt (bY BK217.out)) : gb217 ≠ gb219)); have n9_ := Aside0.mk ((by rw [hg]; exact Nat.ne_of_gt (blk_lt (bY BK217.out)) : gb219 ≠ gb217)); clear BK216; clear BK217; clear HB; have BK216 := n0_; have BK217 := n1_; have HB := n2_; have BK219 := n3_; have GW219 := n4_; have GE219 := n5_; have NB216_219 := n6_; have NB219_216 := n7_; have NB217_219 := n8_; have NB219_217 := n9_; clear n0_ n1_ n2_ n3_ n4_ n5_ n6_ n7_ n8_ n9_; clear hb hbox hg; have hnb14 := NB219_216.out; have hnc14 := NB216_219.out; have hnb15 := NB219_217.out; have hnc15 := NB217_219.out; have hcz16_0 : w13.cell? ⟨gb219, 0, none⟩ = some (.int .i64 0) := (blk_cell BK219.out 0).trans rfl; have hcz16_1 : w13.cell? ⟨gb219, 1, none⟩ = some (.int .i64 0) := (blk_cell BK219.out 1).trans rfl; have hcz16_2 : w13.cell? ⟨gb219, 2, none⟩ = some (.int .i64 0) := (blk_cell BK219.out 2).trans rfl; have hcz16_3 : w13.cell? ⟨gb219, 3, none⟩ = some (.int .i64 0) := (blk_cell BK219.out 3).trans rfl; have hfz16_0 := blk_frozen BK219.out 0; have hfz16_1 := blk_frozen BK219.out 1; have hfz16_2 := blk_frozen BK219.out 2; have hfz16_3 := blk_frozen BK219.out 3))
 (try simp only [Act.put, List.setIfInBounds_toArray, List.set_cons_zero, List.set_cons_succ])
 go_cut [15] (fun v15 wc => ∃ (kq : Nat) (x15_5 : Bool), v15 = .bool x15_5 ∧ Aside0 (impl_PortStep.j0 kq a1 a2 x15_5 a0_0 a0_1 a0_2 a0_3 a0_0 a0_1 a0_2 a0_3 = some (r1, r2, r3, r4, r5)) ∧ Aside0 (kq ≤ k) ∧ Aside0 (wc.heap[gb216]? = some (.cells #[.int .i64 a0_0, .int .i64 a0_1, .int .i64 a0_2, .int .i64 a0_3] 46 (0, 0))) ∧ Aside0 (wc.heap[gb217]? = some (.cells #[.int .i64 0, .int .i64 0, .int .i64 0, .int .i64 0] 46 (0, 0))) ∧ Aside0 (wc.heap[gb219]? = some (.cells #[.int .i64 a0_0, .int .i64 a0_1, .int .i64 a0_2, .int .i64 a0_3] 46 (0, 0))) ∧ Aside0 (Below w.heap.size w wc))
 case first =>
  have H := HC6.out
  clear HC6
  by_cases c17 : a1 = 0
  rotate_left
  ·rw [if_neg c17] at H
   have c17b0 : (a1 == 0) = false := beq_eq_false_iff_ne.mpr c17
   have c17b1 : (a1 != 0) = true := bne_iff_ne.mpr c17
   (first | rw [c17b0] | (simp only [i64_w, i32_w]; rw [c17b0]) | skip)
   have H' := Aside0.mk H
   clear H
   go_wp2
   go_meet
   case rel => exact ⟨_, (false), (by first | rfl | (simp; done) | (simp [*]; done)), H', ⟨by first | omega | exact Nat.le_refl _⟩, ⟨by (repeat apply bX); refine blk_far ?_ NB216_219.out _; (repeat apply bX); refine blk_far ?_ NB216_219.out _; (repeat apply bX); refine blk_far ?_ NB216_219.out _; (repeat apply bX); refine blk_far ?_ NB216_219.out _; (repeat apply bX); exact BK216.out⟩, ⟨by (repeat apply bX); refine blk_far ?_ NB217_219.out _; (repeat apply bX); refine blk_far ?_ NB217_219.out _; (repeat apply bX); refine blk_far ?_ NB217_219.out _; (repeat apply bX); refine blk_far ?_ NB217_219.out _; (repeat apply bX); exact BK217.out⟩, ⟨by (repeat apply bX); refine blk_put (cs := #[.int .i64 a0_0, .int .i64 a0_1, .int .i64 a0_2, .int .i64 0]) ?_ 3 _ rfl; (repeat apply bX); refine blk_put (cs := #[.int .i64 a0_0, .int .i64 a0_1, .int .i64 0, .int .i64 0]) ?_ 2 _ rfl; (repeat apply bX); refine blk_put (cs := #[.int .i64 a0_0, .int .i64 0, .int .i64 0, .int .i64 0]) ?_ 1 _ rfl; (repeat apply bX); refine blk_put (cs := #[.int .i64 0, .int .i64 0, .int .i64 0, .int .i64 0]) ?_ 0 _ rfl; (repeat apply bX); exact BK219.out⟩, ⟨by repeat (first | (with_reducible first | exact HB.out | apply below_alloc | apply pw_below_drewN | apply below_drew1 | refine below_set ?_ GE216.out | refine below_set ?_ GE217.out | refine below_set ?_ GE219.out) | exact HB.out)⟩⟩
  rw [if_pos c17] at H
  have c17b0 : (a1 == 0) = true := beq_iff_eq.mpr c17
  have c17b1 : (a1 != 0) = false := bne_eq_false_iff_eq.mpr c17
  clear c17
  (first | rw [c17b0] | (simp only [i64_w, i32_w]; rw [c17b0]) | skip)
  have H' := Aside0.mk H
  clear H
  have hnb18 := NB216_217.out
  have hnc18 := NB217_216.out
  have hnb19 := NB216_219.out
  have hnc19 := NB219_216.out
  have hcz20_0 : w13.cell? ⟨gb216, 0, none⟩ = some (.int .i64 a0_0) := (blk_cell BK216.out 0).trans rfl
  have hcz20_1 : w13.cell? ⟨gb216, 1, none⟩ = some (.int .i64 a0_1) := (blk_cell BK216.out 1).trans rfl
  have hcz20_2 : w13.cell? ⟨gb216, 2, none⟩ = some (.int .i64 a0_2) := (blk_cell BK216.out 2).trans rfl
  have hcz20_3 : w13.cell? ⟨gb216, 3, none⟩ = some (.int .i64 a0_3) := (blk_cell BK216.out 3).trans rfl
  have hfz20_0 := blk_frozen BK216.out 0
  have hfz20_1 := blk_frozen BK216.out 1
  have hfz20_2 := blk_frozen BK216.out 2
  have hfz20_3 := blk_frozen BK216.out 3
  go_wp2
  go_meet
  case rel => exact ⟨_, ((a0_0 == 0)), (by first | rfl | (simp; done) | (simp [*]; done)), H', ⟨by first | omega | exact Nat.le_refl _⟩, ⟨by (repeat apply bX); refine blk_far ?_ NB216_219.out _; (repeat apply bX); refine blk_far ?_ NB216_219.out _; (repeat apply bX); refine blk_far ?_ NB216_219.out _; (repeat apply bX); refine blk_far ?_ NB216_219.out _; (repeat apply bX); exact BK216.out⟩, ⟨by (repeat apply bX); refine blk_far ?_ NB217_219.out _; (repeat apply bX); refine blk_far ?_ NB217_219.out _; (repeat apply bX); refine blk_far ?_ NB217_219.out _; (repeat apply bX); refine blk_far ?_ NB217_219.out _; (repeat apply bX); exact BK217.out⟩, ⟨by (repeat apply bX); refine blk_put (cs := #[.int .i64 a0_0, .int .i64 a0_1, .int .i64 a0_2, .int .i64 0]) ?_ 3 _ rfl; (repeat apply bX); refine blk_put (cs := #[.int .i64 a0_0, .int .i64 a0_1, .int .i64 0, .int .i64 0]) ?_ 2 _ rfl; (repeat apply bX); refine blk_put (cs := #[.int .i64 a0_0, .int .i64 0, .int .i64 0, .int .i64 0]) ?_ 1 _ rfl; (repeat apply bX); refine blk_put (cs := #[.int .i64 0, .int .i64 0, .int .i64 0, .int .i64 0]) ?_ 0 _ rfl; (repeat apply bX); exact BK219.out⟩, ⟨by repeat (first | (with_reducible first | exact HB.out | apply below_alloc | apply pw_below_drewN | apply below_drew1 | refine below_set ?_ GE216.out | refine below_set ?_ GE217.out | refine below_set ?_ GE219.out) | exact HB.out)⟩⟩
 case rest =>
  clear HC6
  obtain ⟨kq, x15_5, rfl, HA, HJ5, BK216, BK217, BK219, HB⟩ := hcut
  cases kq with
  | zero => exact absurd HA.out (by simp [impl_PortStep.j0])
  | succ kj5 =>
   have H := HA.out
   clear HA
   simp only [impl_PortStep.j0] at H
   by_cases c21 : x15_5 = true
   ·subst c21
    have H1 : (some (1, a0_1, a0_2, a0_3, true)) = some (r1, r2, r3, r4, r5) := by rw [if_pos rfl] at H; exact H
    clear H
    have H := H1
    clear H1
    simp only [Option.some.injEq, Prod.mk.injEq] at H
    obtain ⟨rfl, rfl, rfl, rfl, rfl⟩ := H
    have hnb22 := NB219_216.out
    have hnc22 := NB216_219.out
    have hnb23 := NB219_217.out
    have hnc23 := NB217_219.out
    have hcz24_0 : wc.cell? ⟨gb219, 0, none⟩ = some (.int .i64 a0_0) := (blk_cell BK219.out 0).trans rfl
    have hcz24_1 : wc.cell? ⟨gb219, 1, none⟩ = some (.int .i64 a0_1) := (blk_cell BK219.out 1).trans rfl
    have hcz24_2 : wc.cell? ⟨gb219, 2, none⟩ = some (.int .i64 a0_2) := (blk_cell BK219.out 2).trans rfl
    have hcz24_3 : wc.cell? ⟨gb219, 3, none⟩ = some (.int .i64 a0_3) := (blk_cell BK219.out 3).trans rfl
    have hfz24_0 := blk_frozen BK219.out 0
    have hfz24_1 := blk_frozen BK219.out 1
    have hfz24_2 := blk_frozen BK219.out 2
    have hfz24_3 := blk_frozen BK219.out 3
    have hnb25 := NB217_216.out
    have hnc25 := NB216_217.out
    have hcz26_0 : wc.cell? ⟨gb217, 0, none⟩ = some (.int .i64 0) := (blk_cell BK217.out 0).trans rfl
    have hcz26_1 : wc.cell? ⟨gb217, 1, none⟩ = some (.int .i64 0) := (blk_cell BK217.out 1).trans rfl
    have hcz26_2 : wc.cell? ⟨gb217, 2, none⟩ = some (.int .i64 0) := (blk_cell BK217.out 2).trans rfl
    have hcz26_3 : wc.cell? ⟨gb217, 3, none⟩ = some (.int .i64 0) := (blk_cell BK217.out 3).trans rfl
    have hfz26_0 := blk_frozen BK217.out 0
    have hfz26_1 := blk_frozen BK217.out 1
    have hfz26_2 := blk_frozen BK217.out 2
    have hfz26_3 := blk_frozen BK217.out 3
    go_wp2
    refine bodyPost_ret (results_ct rfl _ _ gb217 46 #[.int .i64 1, .int .i64 a0_1, .int .i64 a0_2, .int .i64 a0_3] (0, 0) _ rfl (by (repeat apply bX); refine blk_put (cs := #[.int .i64 1, .int .i64 a0_1, .int .i64 a0_2, .int .i64 0]) ?_ 3 _ rfl; (repeat apply bX); refine blk_put (cs := #[.int .i64 1, .int .i64 a0_1, .int .i64 0, .int .i64 0]) ?_ 2 _ rfl; (repeat apply bX); refine blk_put (cs := #[.int .i64 1, .int .i64 0, .int .i64 0, .int .i64 0]) ?_ 1 _ rfl; (repeat apply bX); refine blk_put (cs := #[.int .i64 0, .int .i64 0, .int .i64 0, .int .i64 0]) ?_ 0 _ rfl; (repeat apply bX); refine blk_far ?_ NB217_219.out _; (repeat apply bX); exact BK217.out) Try.underlying46 rfl (by kernel_rfl)) rfl ?_
    exact ⟨by first | rfl | (simp [errW_none, errW_some] <;> rfl) | (simp [*, errW_none, errW_some] <;> rfl), by repeat (first | (with_reducible first | exact HB.out | apply below_alloc | apply pw_below_drewN | apply below_drew1 | refine below_set ?_ GE216.out | refine below_set ?_ GE217.out | refine below_set ?_ GE219.out) | exact HB.out)⟩
   replace c21 := Bool.eq_false_iff.mpr c21
   subst c21
   have H1 : (if a1 = 1 then (impl_PortStep.j1 kj5 a1 a2 (a0_0 == 1) a0_0 a0_1 a0_2 a0_3 a0_0 a0_1 a0_2 a0_3) else (impl_PortStep.j1 kj5 a1 a2 false a0_0 a0_1 a0_2 a0_3 a0_0 a0_1 a0_2 a0_3)) = some (r1, r2, r3, r4, r5) := by rw [if_neg (show ¬ (false = true) by decide)] at H; exact H
   clear H
   have H := H1
   clear H1
   have HC27 := Aside0.mk H
   clear H
   go_upto_region 7 with (fail)
   go_cut [24] (fun v24 wc => ∃ (kq : Nat) (x24_26 : Bool), v24 = .bool x24_26 ∧ Aside0 (impl_PortStep.j1 kq a1 a2 x24_26 a0_0 a0_1 a0_2 a0_3 a0_0 a0_1 a0_2 a0_3 = some (r1, r2, r3, r4, r5)) ∧ Aside0 (kq ≤ kj5) ∧ Aside0 (wc.heap[gb216]? = some (.cells #[.int .i64 a0_0, .int .i64 a0_1, .int .i64 a0_2, .int .i64 a0_3] 46 (0, 0))) ∧ Aside0 (wc.heap[gb217]? = some (.cells #[.int .i64 0, .int .i64 0, .int .i64 0, .int .i64 0] 46 (0, 0))) ∧ Aside0 (wc.heap[gb219]? = some (.cells #[.int .i64 a0_0, .int .i64 a0_1, .int .i64 a0_2, .int .i64 a0_3] 46 (0, 0))) ∧ Aside0 (Below w.heap.size w wc))
   case first =>
    have H := HC27.out
    clear HC27
    by_cases c28 : a1 = 1
    rotate_left
    ·rw [if_neg c28] at H
     have c28b0 : (a1 == 1) = false := beq_eq_false_iff_ne.mpr c28
     have c28b1 : (a1 != 1) = true := bne_iff_ne.mpr c28
     (first | rw [c28b0] | (simp only [i64_w, i32_w]; rw [c28b0]) | skip)
     have H' := Aside0.mk H
     clear H
     go_wp2
     go_meet
     case rel => exact ⟨_, (false), (by first | rfl | (simp; done) | (simp [*]; done)), H', ⟨by have := HJ5.out; first | omega | exact Nat.le_refl _⟩, ⟨by (repeat apply bX); exact BK216.out⟩, ⟨by (repeat apply bX); exact BK217.out⟩, ⟨by (repeat apply bX); exact BK219.out⟩, ⟨by repeat (first | (with_reducible first | exact HB.out | apply below_alloc | apply pw_below_drewN | apply below_drew1 | refine below_set ?_ GE216.out | refine below_set ?_ GE217.out | refine below_set ?_ GE219.out) | exact HB.out)⟩⟩
    rw [if_pos c28] at H
    have c28b0 : (a1 == 1) = true := beq_iff_eq.mpr c28
    have c28b1 : (a1 != 1) = false := bne_eq_false_iff_eq.mpr c28
    clear c28
    (first | rw [c28b0] | (simp only [i64_w, i32_w]; rw [c28b0]) | skip)
    have H' := Aside0.mk H
    clear H
    have hnb29 := NB216_217.out
    have hnc29 := NB217_216.out
    have hnb30 := NB216_219.out
    have hnc30 := NB219_216.out
    have hcz31_0 : wc.cell? ⟨gb216, 0, none⟩ = some (.int .i64 a0_0) := (blk_cell BK216.out 0).trans rfl
    have hcz31_1 : wc.cell? ⟨gb216, 1, none⟩ = some (.int .i64 a0_1) := (blk_cell BK216.out 1).trans rfl
    have hcz31_2 : wc.cell? ⟨gb216, 2, none⟩ = some (.int .i64 a0_2) := (blk_cell BK216.out 2).trans rfl
    have hcz31_3 : wc.cell? ⟨gb216, 3, none⟩ = some (.int .i64 a0_3) := (blk_cell BK216.out 3).trans rfl
    have hfz31_0 := blk_frozen BK216.out 0
    have hfz31_1 := blk_frozen BK216.out 1
    have hfz31_2 := blk_frozen BK216.out 2
    have hfz31_3 := blk_frozen BK216.out 3
    go_wp2
    go_meet
    case rel => exact ⟨_, ((a0_0 == 1)), (by first | rfl | (simp; done) | (simp [*]; done)), H', ⟨by have := HJ5.out; first | omega | exact Nat.le_refl _⟩, ⟨by (repeat apply bX); exact BK216.out⟩, ⟨by (repeat apply bX); exact BK217.out⟩, ⟨by (repeat apply bX); exact BK219.out⟩, ⟨by repeat (first | (with_reducible first | exact HB.out | apply below_alloc | apply pw_below_drewN | apply below_drew1 | refine below_set ?_ GE216.out | refine below_set ?_ GE217.out | refine below_set ?_ GE219.out) | exact HB.out)⟩⟩
   case rest =>
    clear HC27
    obtain ⟨kq, x24_26, rfl, HA, HJ26, BK216, BK217, BK219, HB⟩ := hcut
    cases kq with
    | zero => exact absurd HA.out (by simp [impl_PortStep.j1])
    | succ kj26 =>
     have H := HA.out
     clear HA
     simp only [impl_PortStep.j1] at H
     by_cases c32 : x24_26 = true
     ·subst c32
      have H1 : (some (2, a0_1, a0_2, 0, true)) = some (r1, r2, r3, r4, r5) := by rw [if_pos rfl] at H; exact H
      clear H
      have H := H1
      clear H1
      simp only [Option.some.injEq, Prod.mk.injEq] at H
      obtain ⟨rfl, rfl, rfl, rfl, rfl⟩ := H
      have hnb33 := NB219_216.out
      have hnc33 := NB216_219.out
      have hnb34 := NB219_217.out
      have hnc34 := NB217_219.out
      have hcz35_0 : wc.cell? ⟨gb219, 0, none⟩ = some (.int .i64 a0_0) := (blk_cell BK219.out 0).trans rfl
      have hcz35_1 : wc.cell? ⟨gb219, 1, none⟩ = some (.int .i64 a0_1) := (blk_cell BK219.out 1).trans rfl
      have hcz35_2 : wc.cell? ⟨gb219, 2, none⟩ = some (.int .i64 a0_2) := (blk_cell BK219.out 2).trans rfl
      have hcz35_3 : wc.cell? ⟨gb219, 3, none⟩ = some (.int .i64 a0_3) := (blk_cell BK219.out 3).trans rfl
      have hfz35_0 := blk_frozen BK219.out 0
      have hfz35_1 := blk_frozen BK219.out 1
      have hfz35_2 := blk_frozen BK219.out 2
      have hfz35_3 := blk_frozen BK219.out 3
      have hnb36 := NB217_216.out
      have hnc36 := NB216_217.out
      have hcz37_0 : wc.cell? ⟨gb217, 0, none⟩ = some (.int .i64 0) := (blk_cell BK217.out 0).trans rfl
      have hcz37_1 : wc.cell? ⟨gb217, 1, none⟩ = some (.int .i64 0) := (blk_cell BK217.out 1).trans rfl
      have hcz37_2 : wc.cell? ⟨gb217, 2, none⟩ = some (.int .i64 0) := (blk_cell BK217.out 2).trans rfl
      have hcz37_3 : wc.cell? ⟨gb217, 3, none⟩ = some (.int .i64 0) := (blk_cell BK217.out 3).trans rfl
      have hfz37_0 := blk_frozen BK217.out 0
      have hfz37_1 := blk_frozen BK217.out 1
      have hfz37_2 := blk_frozen BK217.out 2
      have hfz37_3 := blk_frozen BK217.out 3
      go_wp2
      refine bodyPost_ret (results_ct rfl _ _ gb217 46 #[.int .i64 2, .int .i64 a0_1, .int .i64 a0_2, .int .i64 0] (0, 0) _ rfl (by (repeat apply bX); refine blk_put (cs := #[.int .i64 2, .int .i64 a0_1, .int .i64 a0_2, .int .i64 0]) ?_ 3 _ rfl; (repeat apply bX); refine blk_put (cs := #[.int .i64 2, .int .i64 a0_1, .int .i64 0, .int .i64 0]) ?_ 2 _ rfl; (repeat apply bX); refine blk_put (cs := #[.int .i64 2, .int .i64 0, .int .i64 0, .int .i64 0]) ?_ 1 _ rfl; (repeat apply bX); refine blk_put (cs := #[.int .i64 0, .int .i64 0, .int .i64 0, .int .i64 0]) ?_ 0 _ rfl; (repeat apply bX); refine blk_far ?_ NB217_219.out _; (repeat apply bX); refine blk_far ?_ NB217_219.out _; (repeat apply bX); exact BK217.out) Try.underlying46 rfl (by kernel_rfl)) rfl ?_
      exact ⟨by first | rfl | (simp [errW_none, errW_some] <;> rfl) | (simp [*, errW_none, errW_some] <;> rfl), by repeat (first | (with_reducible first | exact HB.out | apply below_alloc | apply pw_below_drewN | apply below_drew1 | refine below_set ?_ GE216.out | refine below_set ?_ GE217.out | refine below_set ?_ GE219.out) | exact HB.out)⟩
     replace c32 := Bool.eq_false_iff.mpr c32
     subst c32
     have H1 : (if a1 = 1 then (impl_PortStep.j2 kj26 a1 a2 (a0_0 == 4) a0_0 a0_1 a0_2 a0_3 a0_0 a0_1 a0_2 a0_3) else (impl_PortStep.j2 kj26 a1 a2 false a0_0 a0_1 a0_2 a0_3 a0_0 a0_1 a0_2 a0_3)) = some (r1, r2, r3, r4, r5) := by rw [if_neg (show ¬ (false = true) by decide)] at H; exact H
     clear H
     have H := H1
     clear H1
     have HC38 := Aside0.mk H
     clear H
     go_upto_region 9 with (fail)
     go_cut [34] (fun v34 wc => ∃ (kq : Nat) (x34_37 : Bool), v34 = .bool x34_37 ∧ Aside0 (impl_PortStep.j2 kq a1 a2 x34_37 a0_0 a0_1 a0_2 a0_3 a0_0 a0_1 a0_2 a0_3 = some (r1, r2, r3, r4, r5)) ∧ Aside0 (kq ≤ kj26) ∧ Aside0 (wc.heap[gb216]? = some (.cells #[.int .i64 a0_0, .int .i64 a0_1, .int .i64 a0_2, .int .i64 a0_3] 46 (0, 0))) ∧ Aside0 (wc.heap[gb217]? = some (.cells #[.int .i64 0, .int .i64 0, .int .i64 0, .int .i64 0] 46 (0, 0))) ∧ Aside0 (wc.heap[gb219]? = some (.cells #[.int .i64 a0_0, .int .i64 a0_1, .int .i64 a0_2, .int .i64 a0_3] 46 (0, 0))) ∧ Aside0 (Below w.heap.size w wc))
     case first =>
      have H := HC38.out
      clear HC38
      by_cases c39 : a1 = 1
      rotate_left
      ·rw [if_neg c39] at H
       have c39b0 : (a1 == 1) = false := beq_eq_false_iff_ne.mpr c39
       have c39b1 : (a1 != 1) = true := bne_iff_ne.mpr c39
       (first | rw [c39b0] | (simp only [i64_w, i32_w]; rw [c39b0]) | skip)
       have H' := Aside0.mk H
       clear H
       go_wp2
       go_meet
       case rel => exact ⟨_, (false), (by first | rfl | (simp; done) | (simp [*]; done)), H', ⟨by have := HJ5.out; have := HJ26.out; first | omega | exact Nat.le_refl _⟩, ⟨by (repeat apply bX); exact BK216.out⟩, ⟨by (repeat apply bX); exact BK217.out⟩, ⟨by (repeat apply bX); exact BK219.out⟩, ⟨by repeat (first | (with_reducible first | exact HB.out | apply below_alloc | apply pw_below_drewN | apply below_drew1 | refine below_set ?_ GE216.out | refine below_set ?_ GE217.out | refine below_set ?_ GE219.out) | exact HB.out)⟩⟩
      rw [if_pos c39] at H
      have c39b0 : (a1 == 1) = true := beq_iff_eq.mpr c39
      have c39b1 : (a1 != 1) = false := bne_eq_false_iff_eq.mpr c39
      clear c39
      (first | rw [c39b0] | (simp only [i64_w, i32_w]; rw [c39b0]) | skip)
      have H' := Aside0.mk H
      clear H
      have hnb40 := NB216_217.out
      have hnc40 := NB217_216.out
      have hnb41 := NB216_219.out
      have hnc41 := NB219_216.out
      have hcz42_0 : wc.cell? ⟨gb216, 0, none⟩ = some (.int .i64 a0_0) := (blk_cell BK216.out 0).trans rfl
      have hcz42_1 : wc.cell? ⟨gb216, 1, none⟩ = some (.int .i64 a0_1) := (blk_cell BK216.out 1).trans rfl
      have hcz42_2 : wc.cell? ⟨gb216, 2, none⟩ = some (.int .i64 a0_2) := (blk_cell BK216.out 2).trans rfl
      have hcz42_3 : wc.cell? ⟨gb216, 3, none⟩ = some (.int .i64 a0_3) := (blk_cell BK216.out 3).trans rfl
      have hfz42_0 := blk_frozen BK216.out 0
      have hfz42_1 := blk_frozen BK216.out 1
      have hfz42_2 := blk_frozen BK216.out 2
      have hfz42_3 := blk_frozen BK216.out 3
      go_wp2
      go_meet
      case rel => exact ⟨_, ((a0_0 == 4)), (by first | rfl | (simp; done) | (simp [*]; done)), H', ⟨by have := HJ5.out; have := HJ26.out; first | omega | exact Nat.le_refl _⟩, ⟨by (repeat apply bX); exact BK216.out⟩, ⟨by (repeat apply bX); exact BK217.out⟩, ⟨by (repeat apply bX); exact BK219.out⟩, ⟨by repeat (first | (with_reducible first | exact HB.out | apply below_alloc | apply pw_below_drewN | apply below_drew1 | refine below_set ?_ GE216.out | refine below_set ?_ GE217.out | refine below_set ?_ GE219.out) | exact HB.out)⟩⟩
     case rest =>
      clear HC38
      obtain ⟨kq, x34_37, rfl, HA, HJ37, BK216, BK217, BK219, HB⟩ := hcut
      cases kq with
      | zero => exact absurd HA.out (by simp [impl_PortStep.j2])
      | succ kj37 =>
       have H := HA.out
       clear HA
       simp only [impl_PortStep.j2] at H
       by_cases c43 : x34_37 = true
       ·subst c43
        have H1 : (some (3, a0_1, a0_2, 0, true)) = some (r1, r2, r3, r4, r5) := by rw [if_pos rfl] at H; exact H
        clear H
        have H := H1
        clear H1
        simp only [Option.some.injEq, Prod.mk.injEq] at H
        obtain ⟨rfl, rfl, rfl, rfl, rfl⟩ := H
        have hnb44 := NB219_216.out
        have hnc44 := NB216_219.out
        have hnb45 := NB219_217.out
        have hnc45 := NB217_219.out
        have hcz46_0 : wc.cell? ⟨gb219, 0, none⟩ = some (.int .i64 a0_0) := (blk_cell BK219.out 0).trans rfl
        have hcz46_1 : wc.cell? ⟨gb219, 1, none⟩ = some (.int .i64 a0_1) := (blk_cell BK219.out 1).trans rfl
        have hcz46_2 : wc.cell? ⟨gb219, 2, none⟩ = some (.int .i64 a0_2) := (blk_cell BK219.out 2).trans rfl
        have hcz46_3 : wc.cell? ⟨gb219, 3, none⟩ = some (.int .i64 a0_3) := (blk_cell BK219.out 3).trans rfl
        have hfz46_0 := blk_frozen BK219.out 0
        have hfz46_1 := blk_frozen BK219.out 1
        have hfz46_2 := blk_frozen BK219.out 2
        have hfz46_3 := blk_frozen BK219.out 3
        have hnb47 := NB217_216.out
        have hnc47 := NB216_217.out
        have hcz48_0 : wc.cell? ⟨gb217, 0, none⟩ = some (.int .i64 0) := (blk_cell BK217.out 0).trans rfl
        have hcz48_1 : wc.cell? ⟨gb217, 1, none⟩ = some (.int .i64 0) := (blk_cell BK217.out 1).trans rfl
        have hcz48_2 : wc.cell? ⟨gb217, 2, none⟩ = some (.int .i64 0) := (blk_cell BK217.out 2).trans rfl
        have hcz48_3 : wc.cell? ⟨gb217, 3, none⟩ = some (.int .i64 0) := (blk_cell BK217.out 3).trans rfl
        have hfz48_0 := blk_frozen BK217.out 0
        have hfz48_1 := blk_frozen BK217.out 1
        have hfz48_2 := blk_frozen BK217.out 2
        have hfz48_3 := blk_frozen BK217.out 3
        go_wp2
        refine bodyPost_ret (results_ct rfl _ _ gb217 46 #[.int .i64 3, .int .i64 a0_1, .int .i64 a0_2, .int .i64 0] (0, 0) _ rfl (by (repeat apply bX); refine blk_put (cs := #[.int .i64 3, .int .i64 a0_1, .int .i64 a0_2, .int .i64 0]) ?_ 3 _ rfl; (repeat apply bX); refine blk_put (cs := #[.int .i64 3, .int .i64 a0_1, .int .i64 0, .int .i64 0]) ?_ 2 _ rfl; (repeat apply bX); refine blk_put (cs := #[.int .i64 3, .int .i64 0, .int .i64 0, .int .i64 0]) ?_ 1 _ rfl; (repeat apply bX); refine blk_put (cs := #[.int .i64 0, .int .i64 0, .int .i64 0, .int .i64 0]) ?_ 0 _ rfl; (repeat apply bX); refine blk_far ?_ NB217_219.out _; (repeat apply bX); refine blk_far ?_ NB217_219.out _; (repeat apply bX); exact BK217.out) Try.underlying46 rfl (by kernel_rfl)) rfl ?_
        exact ⟨by first | rfl | (simp [errW_none, errW_some] <;> rfl) | (simp [*, errW_none, errW_some] <;> rfl), by repeat (first | (with_reducible first | exact HB.out | apply below_alloc | apply pw_below_drewN | apply below_drew1 | refine below_set ?_ GE216.out | refine below_set ?_ GE217.out | refine below_set ?_ GE219.out) | exact HB.out)⟩
       replace c43 := Bool.eq_false_iff.mpr c43
       subst c43
       have H1 : (if a1 = 2 then (if a0_0 = 2 then ((impl_IsWidth.f a2).bind fun t220 => (impl_PortStep.j3 kj37 a1 a2 t220 a0_0 a0_1 a0_2 a0_3 a0_0 a0_1 a0_2 a0_3)) else (impl_PortStep.j3 kj37 a1 a2 false a0_0 a0_1 a0_2 a0_3 a0_0 a0_1 a0_2 a0_3)) else (impl_PortStep.j3 kj37 a1 a2 false a0_0 a0_1 a0_2 a0_3 a0_0 a0_1 a0_2 a0_3)) = some (r1, r2, r3, r4, r5) := by rw [if_neg (show ¬ (false = true) by decide)] at H; exact H
       clear H
       have H := H1
       clear H1
       have HC49 := Aside0.mk H
       clear H
       go_upto_region 11 with (fail)
       go_cut [44] (fun v44 wc => ∃ (kq : Nat) (x44_48 : Bool), v44 = .bool x44_48 ∧ Aside0 (impl_PortStep.j3 kq a1 a2 x44_48 a0_0 a0_1 a0_2 a0_3 a0_0 a0_1 a0_2 a0_3 = some (r1, r2, r3, r4, r5)) ∧ Aside0 (kq ≤ kj37) ∧ Aside0 (wc.heap[gb216]? = some (.cells #[.int .i64 a0_0, .int .i64 a0_1, .int .i64 a0_2, .int .i64 a0_3] 46 (0, 0))) ∧ Aside0 (wc.heap[gb217]? = some (.cells #[.int .i64 0, .int .i64 0, .int .i64 0, .int .i64 0] 46 (0, 0))) ∧ Aside0 (wc.heap[gb219]? = some (.cells #[.int .i64 a0_0, .int .i64 a0_1, .int .i64 a0_2, .int .i64 a0_3] 46 (0, 0))) ∧ Aside0 (Below w.heap.size w wc))
       case first =>
        have H := HC49.out
        clear HC49
        by_cases c50 : a1 = 2
        rotate_left
        ·rw [if_neg c50] at H
         have c50b0 : (a1 == 2) = false := beq_eq_false_iff_ne.mpr c50
         have c50b1 : (a1 != 2) = true := bne_iff_ne.mpr c50
         (first | rw [c50b0] | (simp only [i64_w, i32_w]; rw [c50b0]) | skip)
         have H' := Aside0.mk H
         clear H
         go_wp2
         go_meet
         case rel => exact ⟨_, (false), (by first | rfl | (simp; done) | (simp [*]; done)), H', ⟨by have := HJ5.out; have := HJ26.out; have := HJ37.out; first | omega | exact Nat.le_refl _⟩, ⟨by (repeat apply bX); exact BK216.out⟩, ⟨by (repeat apply bX); exact BK217.out⟩, ⟨by (repeat apply bX); exact BK219.out⟩, ⟨by repeat (first | (with_reducible first | exact HB.out | apply below_alloc | apply pw_below_drewN | apply below_drew1 | refine below_set ?_ GE216.out | refine below_set ?_ GE217.out | refine below_set ?_ GE219.out) | exact HB.out)⟩⟩
        rw [if_pos c50] at H
        have c50b0 : (a1 == 2) = true := beq_iff_eq.mpr c50
        have c50b1 : (a1 != 2) = false := bne_eq_false_iff_eq.mpr c50
        clear c50
        (first | rw [c50b0] | (simp only [i64_w, i32_w]; rw [c50b0]) | skip)
        by_cases c51 : a0_0 = 2
        rotate_left
        ·rw [if_neg c51] at H
         have c51b0 : (a0_0 == 2) = false := beq_eq_false_iff_ne.mpr c51
         have c51b1 : (a0_0 != 2) = true := bne_iff_ne.mpr c51
         have H' := Aside0.mk H
         clear H
         have hnb56 := NB216_217.out
         have hnc56 := NB217_216.out
         have hnb57 := NB216_219.out
         have hnc57 := NB219_216.out
         have hcz58_0 : wc.cell? ⟨gb216, 0, none⟩ = some (.int .i64 a0_0) := (blk_cell BK216.out 0).trans rfl
         have hcz58_1 : wc.cell? ⟨gb216, 1, none⟩ = some (.int .i64 a0_1) := (blk_cell BK216.out 1).trans rfl
         have hcz58_2 : wc.cell? ⟨gb216, 2, none⟩ = some (.int .i64 a0_2) := (blk_cell BK216.out 2).trans rfl
         have hcz58_3 : wc.cell? ⟨gb216, 3, none⟩ = some (.int .i64 a0_3) := (blk_cell BK216.out 3).trans rfl
         have hfz58_0 := blk_frozen BK216.out 0
         have hfz58_1 := blk_frozen BK216.out 1
         have hfz58_2 := blk_frozen BK216.out 2
         have hfz58_3 := blk_frozen BK216.out 3
         go_wp2
         go_meet
         case rel => exact ⟨_, (false), (by first | rfl | (simp; done) | (simp [*]; done)), H', ⟨by have := HJ5.out; have := HJ26.out; have := HJ37.out; first | omega | exact Nat.le_refl _⟩, ⟨by (repeat apply bX); exact BK216.out⟩, ⟨by (repeat apply bX); exact BK217.out⟩, ⟨by (repeat apply bX); exact BK219.out⟩, ⟨by repeat (first | (with_reducible first | exact HB.out | apply below_alloc | apply pw_below_drewN | apply below_drew1 | refine below_set ?_ GE216.out | refine below_set ?_ GE217.out | refine below_set ?_ GE219.out) | exact HB.out)⟩⟩
        rw [if_pos c51] at H
        have c51b0 : (a0_0 == 2) = true := beq_iff_eq.mpr c51
        have c51b1 : (a0_0 != 2) = false := bne_eq_false_iff_eq.mpr c51
        clear c51
        replace H := Option.bind_eq_some_iff.mp H
        obtain ⟨t220, A520, H⟩ := H
        have A52 := Aside0.mk A520
        clear A520
        have H' := Aside0.mk H
        clear H
        have hnb53 := NB216_217.out
        have hnc53 := NB217_216.out
        have hnb54 := NB216_219.out
        have hnc54 := NB219_216.out
        have hcz55_0 : wc.cell? ⟨gb216, 0, none⟩ = some (.int .i64 a0_0) := (blk_cell BK216.out 0).trans rfl
        have hcz55_1 : wc.cell? ⟨gb216, 1, none⟩ = some (.int .i64 a0_1) := (blk_cell BK216.out 1).trans rfl
        have hcz55_2 : wc.cell? ⟨gb216, 2, none⟩ = some (.int .i64 a0_2) := (blk_cell BK216.out 2).trans rfl
        have hcz55_3 : wc.cell? ⟨gb216, 3, none⟩ = some (.int .i64 a0_3) := (blk_cell BK216.out 3).trans rfl
        have hfz55_0 := blk_frozen BK216.out 0
        have hfz55_1 := blk_frozen BK216.out 1
        have hfz55_2 := blk_frozen BK216.out 2
        have hfz55_3 := blk_frozen BK216.out 3
        go_wp2_with (first | (go_at_call 44; (with_reducible refine (impl_IsWidth.calls a2 t220 _ A52.out).mono ?_); rintro e w' ⟨rfl, ⟨nd, rfl⟩⟩))
        go_meet
        case rel => exact ⟨_, (t220), (by first | rfl | (simp; done) | (simp [*]; done)), H', ⟨by have := HJ5.out; have := HJ26.out; have := HJ37.out; first | omega | exact Nat.le_refl _⟩, ⟨by (repeat apply bX); exact BK216.out⟩, ⟨by (repeat apply bX); exact BK217.out⟩, ⟨by (repeat apply bX); exact BK219.out⟩, ⟨by repeat (first | (with_reducible first | exact HB.out | apply below_alloc | apply pw_below_drewN | apply below_drew1 | refine below_set ?_ GE216.out | refine below_set ?_ GE217.out | refine below_set ?_ GE219.out) | exact HB.out)⟩⟩
       case rest =>
        clear HC49
        obtain ⟨kq, x44_48, rfl, HA, HJ48, BK216, BK217, BK219, HB⟩ := hcut
        cases kq with
        | zero => exact absurd HA.out (by simp [impl_PortStep.j3])
        | succ kj48 =>
         have H := HA.out
         clear HA
         simp only [impl_PortStep.j3] at H
         by_cases c59 : x44_48 = true
         ·subst c59
          have H1 : (some (3, mn a0_2 a2, a0_2, a0_3, true)) = some (r1, r2, r3, r4, r5) := by rw [if_pos rfl] at H; exact H
          clear H
          have H := H1
          clear H1
          obtain ⟨ji60, hji60⟩ : ∃ j_ : Int, (mn a0_2 a2) = j_ := ⟨_, rfl⟩
          replace H : (some (3, ji60, a0_2, a0_3, true)) = some (r1, r2, r3, r4, r5) := by first | (rw [hji60] at H; exact H) | (simp only [hji60] at H ⊢; exact H)
          have hji60_ : (if a2 < a0_2 then a2 else a0_2) = ji60 := hji60
          simp only [Option.some.injEq, Prod.mk.injEq] at H
          obtain ⟨rfl, rfl, rfl, rfl, rfl⟩ := H
          try go_wp2
          have n0_ := Aside0.mk (blk_drew BK216.out)
          have n1_ := Aside0.mk (blk_drew BK217.out)
          have n2_ := Aside0.mk (blk_drew BK219.out)
          have n3_ := Aside0.mk (below_drew1 HB.out)
          clear BK216
          clear BK217
          clear BK219
          clear HB
          have BK216 := n0_
          have BK217 := n1_
          have BK219 := n2_
          have HB := n3_
          clear n0_ n1_ n2_ n3_
          refine start_ (n := 8) (S := fun w' => w'.cell? ⟨gb216, 0, none⟩ = some (.int .i64 a0_0) ∧ w'.cell? ⟨gb216, 1, none⟩ = some (.int .i64 a0_1) ∧ w'.cell? ⟨gb216, 2, none⟩ = some (.int .i64 a0_2) ∧ w'.cell? ⟨gb216, 3, none⟩ = some (.int .i64 a0_3)) (ds := []) #[F, F, F, F, F, F, F, F] (by kernel_rfl) rfl rfl ⟨(blk_cell BK216.out 0).trans rfl, (blk_cell BK216.out 1).trans rfl, (blk_cell BK216.out 2).trans rfl, (blk_cell BK216.out 3).trans rfl⟩ (fun hHeld => ?_); refine with_tabW impl_PortStep.tab12 impl_PortStep.bits12 (fun HT_ HW_ => ?_)
          generalize wc.drew = w61 at BK216 BK217 BK219 HB hHeld ⊢
          refine pure_ (i := 0) (N := some 56) (v := ?_) (a' := ?_) #[T, F, F, F, F, F, F, F] rfl rfl (any_of HT_.out (by kernel_rfl)) (fun _ _ _ h => h) (Or.inl ⟨by rfl, ?_⟩) ?_ ?_
          rotate_left
          ·intro w'
           go_simp
           with_reducible rfl
          rotate_left
          ·simp only [pS]
           rfl
          refine pure_ (i := 2) (N := some 58) (v := ?_) (a' := ?_) #[T, F, T, F, F, F, F, F] rfl rfl (any_of HT_.out (by kernel_rfl)) (fun _ _ _ h => h) (Or.inl ⟨by rfl, ?_⟩) ?_ ?_
          rotate_left
          ·intro w'
           go_simp
           with_reducible rfl
          rotate_left
          ·simp only [pS]
           rfl
          refine pure_ (i := 4) (N := some 60) (v := ?_) (a' := ?_) #[T, F, T, F, T, F, F, F] rfl rfl (any_of HT_.out (by kernel_rfl)) (fun _ _ _ h => h) (Or.inl ⟨by rfl, ?_⟩) ?_ ?_
          rotate_left
          ·intro w'
           go_simp
           with_reducible rfl
          rotate_left
          ·simp only [pS]
           rfl
          refine take_ (i := 1) (N := some 57) (v := ?_) (a' := ?_) #[T, T, T, F, T, F, F, F] rfl rfl (take_ofW HT_.out HW_.out (by kernel_rfl)) (fun _ _ _ h => h) (Or.inl ⟨by rfl, ?_⟩) hHeld ?_ ?_
          rotate_left
          ·rintro w' ⟨s0, s1, s2, s3⟩
           go_simp
           with_reducible rfl
          rotate_left
          ·simp only [pS]
           rfl
          refine pure_ (i := 3) (N := some 59) (v := ?_) (a' := ?_) #[T, T, T, T, T, F, F, F] rfl rfl (any_of HT_.out (by kernel_rfl)) (fun _ _ _ h => h) (Or.inl ⟨by rfl, ?_⟩) ?_ ?_
          rotate_left
          ·intro w'
           go_simp
           with_reducible rfl
          rotate_left
          ·simp only [pS]
           rfl
          refine one_ (i := 5) (N := none) #[T, T, T, T, T, T, F, F] rfl rfl (one_of HT_.out (by kernel_rfl)) (by decide) (fun K hK => ?_)
          have hs62 : w61.cell? ⟨gb219, 0, none⟩ = some (.int .i64 a0_0) := (blk_cell BK219.out 0).trans rfl
          have hfs62 := blk_frozen BK219.out 0
          have hns62_0 := NB216_219.out
          have hns62_1 := NB217_219.out
          have hms62_0 := NB219_216.out
          have hms62_1 := NB219_217.out
          refine skip_ (w1 := ?_) (by rfl) rfl ?_ ?_
          rotate_left
          ·go_simp
           rfl
          refine hK.out _ _ ⟨((cell_far (p := ⟨gb219, _, none⟩) NB216_219.out _).trans (hHeld.1)), ((cell_far (p := ⟨gb219, _, none⟩) NB216_219.out _).trans (hHeld.2.1)), ((cell_far (p := ⟨gb219, _, none⟩) NB216_219.out _).trans (hHeld.2.2.1)), ((cell_far (p := ⟨gb219, _, none⟩) NB216_219.out _).trans (hHeld.2.2.2))⟩ (fun hHeld => ?_)
          clear hK K
          refine pure_ (i := 6) (N := some 61) (v := ?_) (a' := ?_) #[T, T, T, T, T, T, T, F] rfl rfl (any_of HT_.out (by kernel_rfl)) (fun _ _ _ h => h) (Or.inl ⟨by rfl, ?_⟩) ?_ ?_
          rotate_left
          ·intro w'
           go_simp
           with_reducible rfl
          rotate_left
          ·simp only [pS]
           rfl
          refine one_ (i := 7) (N := none) #[T, T, T, T, T, T, T, T] rfl rfl (one_of HT_.out (by kernel_rfl)) (by decide) (fun K hK => ?_)
          have hs63 : w61.cell? ⟨gb219, 1, none⟩ = some (.int .i64 a0_1) := (blk_cell BK219.out 1).trans rfl
          have hfs63 := blk_frozen BK219.out 1
          have hns63_0 := NB216_219.out
          have hns63_1 := NB217_219.out
          have hms63_0 := NB219_216.out
          have hms63_1 := NB219_217.out
          refine skip_ (w1 := ?_) (by rfl) rfl ?_ ?_
          rotate_left
          ·go_simp
           rfl
          refine hK.out _ _ ⟨((cell_far (p := ⟨gb219, _, none⟩) NB216_219.out _).trans (hHeld.1)), ((cell_far (p := ⟨gb219, _, none⟩) NB216_219.out _).trans (hHeld.2.1)), ((cell_far (p := ⟨gb219, _, none⟩) NB216_219.out _).trans (hHeld.2.2.1)), ((cell_far (p := ⟨gb219, _, none⟩) NB216_219.out _).trans (hHeld.2.2.2))⟩ (fun hHeld => ?_)
          clear hK K
          refine done_ (done_of HT_.out (by kernel_rfl)) ?_
          have hnb64 := NB219_216.out
          have hnc64 := NB216_219.out
          have hnb65 := NB219_217.out
          have hnc65 := NB217_219.out
          have hcz66_0 : w61.cell? ⟨gb219, 0, none⟩ = some (.int .i64 a0_0) := (blk_cell BK219.out 0).trans rfl
          have hcz66_1 : w61.cell? ⟨gb219, 1, none⟩ = some (.int .i64 a0_1) := (blk_cell BK219.out 1).trans rfl
          have hcz66_2 : w61.cell? ⟨gb219, 2, none⟩ = some (.int .i64 a0_2) := (blk_cell BK219.out 2).trans rfl
          have hcz66_3 : w61.cell? ⟨gb219, 3, none⟩ = some (.int .i64 a0_3) := (blk_cell BK219.out 3).trans rfl
          have hfz66_0 := blk_frozen BK219.out 0
          have hfz66_1 := blk_frozen BK219.out 1
          have hfz66_2 := blk_frozen BK219.out 2
          have hfz66_3 := blk_frozen BK219.out 3
          have hnb67 := NB217_216.out
          have hnc67 := NB216_217.out
          have hcz68_0 : w61.cell? ⟨gb217, 0, none⟩ = some (.int .i64 0) := (blk_cell BK217.out 0).trans rfl
          have hcz68_1 : w61.cell? ⟨gb217, 1, none⟩ = some (.int .i64 0) := (blk_cell BK217.out 1).trans rfl
          have hcz68_2 : w61.cell? ⟨gb217, 2, none⟩ = some (.int .i64 0) := (blk_cell BK217.out 2).trans rfl
          have hcz68_3 : w61.cell? ⟨gb217, 3, none⟩ = some (.int .i64 0) := (blk_cell BK217.out 3).trans rfl
          have hfz68_0 := blk_frozen BK217.out 0
          have hfz68_1 := blk_frozen BK217.out 1
          have hfz68_2 := blk_frozen BK217.out 2
          have hfz68_3 := blk_frozen BK217.out 3
          try go_wp2
          refine bodyPost_ret (results_ct rfl _ _ gb217 46 #[.int .i64 3, .int .i64 ji60, .int .i64 a0_2, .int .i64 a0_3] (0, 0) _ rfl (by (repeat apply bX); refine blk_put (cs := #[.int .i64 3, .int .i64 ji60, .int .i64 a0_2, .int .i64 0]) ?_ 3 _ rfl; (repeat apply bX); refine blk_put (cs := #[.int .i64 3, .int .i64 ji60, .int .i64 0, .int .i64 0]) ?_ 2 _ rfl; (repeat apply bX); refine blk_put (cs := #[.int .i64 3, .int .i64 0, .int .i64 0, .int .i64 0]) ?_ 1 _ rfl; (repeat apply bX); refine blk_put (cs := #[.int .i64 0, .int .i64 0, .int .i64 0, .int .i64 0]) ?_ 0 _ rfl; (repeat apply bX); refine blk_far ?_ NB217_219.out _; (repeat apply bX); refine blk_far ?_ NB217_219.out _; (repeat apply bX); exact BK217.out) Try.underlying46 rfl (by kernel_rfl)) rfl ?_
          exact ⟨by first | rfl | (simp [errW_none, errW_some] <;> rfl) | (simp only [← hji60]; first | rfl | (simp [errW_none, errW_some] <;> rfl)) | (simp [*, errW_none, errW_some] <;> rfl), by repeat (first | (with_reducible first | exact HB.out | apply below_alloc | apply pw_below_drewN | apply below_drew1 | refine below_set ?_ GE216.out | refine below_set ?_ GE217.out | refine below_set ?_ GE219.out) | exact HB.out)⟩
         replace c59 := Bool.eq_false_iff.mpr c59
         subst c59
         have H1 : (if a1 = 3 then (impl_PortStep.j4 kj48 a1 (a0_0 == 3) a0_0 a0_1 a0_2 a0_3 a0_0 a0_1 a0_2 a0_3) else (impl_PortStep.j4 kj48 a1 false a0_0 a0_1 a0_2 a0_3 a0_0 a0_1 a0_2 a0_3)) = some (r1, r2, r3, r4, r5) := by rw [if_neg (show ¬ (false = true) by decide)] at H; exact H
         clear H
         have H := H1
         clear H1
         have HC69 := Aside0.mk H
         clear H
         go_upto_region 13 with (fail)
         go_cut [62] (fun v62 wc => ∃ (kq : Nat) (x62_68 : Bool), v62 = .bool x62_68 ∧ Aside0 (impl_PortStep.j4 kq a1 x62_68 a0_0 a0_1 a0_2 a0_3 a0_0 a0_1 a0_2 a0_3 = some (r1, r2, r3, r4, r5)) ∧ Aside0 (kq ≤ kj48) ∧ Aside0 (wc.heap[gb216]? = some (.cells #[.int .i64 a0_0, .int .i64 a0_1, .int .i64 a0_2, .int .i64 a0_3] 46 (0, 0))) ∧ Aside0 (wc.heap[gb217]? = some (.cells #[.int .i64 0, .int .i64 0, .int .i64 0, .int .i64 0] 46 (0, 0))) ∧ Aside0 (wc.heap[gb219]? = some (.cells #[.int .i64 a0_0, .int .i64 a0_1, .int .i64 a0_2, .int .i64 a0_3] 46 (0, 0))) ∧ Aside0 (Below w.heap.size w wc))
         case first =>
          have H := HC69.out
          clear HC69
          by_cases c70 : a1 = 3
          rotate_left
          ·rw [if_neg c70] at H
           have c70b0 : (a1 == 3) = false := beq_eq_false_iff_ne.mpr c70
           have c70b1 : (a1 != 3) = true := bne_iff_ne.mpr c70
           (first | rw [c70b0] | (simp only [i64_w, i32_w]; rw [c70b0]) | skip)
           have H' := Aside0.mk H
           clear H
           go_wp2
           go_meet
           case rel => exact ⟨_, (false), (by first | rfl | (simp; done) | (simp [*]; done)), H', ⟨by have := HJ5.out; have := HJ26.out; have := HJ37.out; have := HJ48.out; first | omega | exact Nat.le_refl _⟩, ⟨by (repeat apply bX); exact BK216.out⟩, ⟨by (repeat apply bX); exact BK217.out⟩, ⟨by (repeat apply bX); exact BK219.out⟩, ⟨by repeat (first | (with_reducible first | exact HB.out | apply below_alloc | apply pw_below_drewN | apply below_drew1 | refine below_set ?_ GE216.out | refine below_set ?_ GE217.out | refine below_set ?_ GE219.out) | exact HB.out)⟩⟩
          rw [if_pos c70] at H
          have c70b0 : (a1 == 3) = true := beq_iff_eq.mpr c70
          have c70b1 : (a1 != 3) = false := bne_eq_false_iff_eq.mpr c70
          clear c70
          (first | rw [c70b0] | (simp only [i64_w, i32_w]; rw [c70b0]) | skip)
          have H' := Aside0.mk H
          clear H
          have hnb71 := NB216_217.out
          have hnc71 := NB217_216.out
          have hnb72 := NB216_219.out
          have hnc72 := NB219_216.out
          have hcz73_0 : wc.cell? ⟨gb216, 0, none⟩ = some (.int .i64 a0_0) := (blk_cell BK216.out 0).trans rfl
          have hcz73_1 : wc.cell? ⟨gb216, 1, none⟩ = some (.int .i64 a0_1) := (blk_cell BK216.out 1).trans rfl
          have hcz73_2 : wc.cell? ⟨gb216, 2, none⟩ = some (.int .i64 a0_2) := (blk_cell BK216.out 2).trans rfl
          have hcz73_3 : wc.cell? ⟨gb216, 3, none⟩ = some (.int .i64 a0_3) := (blk_cell BK216.out 3).trans rfl
          have hfz73_0 := blk_frozen BK216.out 0
          have hfz73_1 := blk_frozen BK216.out 1
          have hfz73_2 := blk_frozen BK216.out 2
          have hfz73_3 := blk_frozen BK216.out 3
          go_wp2
          go_meet
          case rel => exact ⟨_, ((a0_0 == 3)), (by first | rfl | (simp; done) | (simp [*]; done)), H', ⟨by have := HJ5.out; have := HJ26.out; have := HJ37.out; have := HJ48.out; first | omega | exact Nat.le_refl _⟩, ⟨by (repeat apply bX); exact BK216.out⟩, ⟨by (repeat apply bX); exact BK217.out⟩, ⟨by (repeat apply bX); exact BK219.out⟩, ⟨by repeat (first | (with_reducible first | exact HB.out | apply below_alloc | apply pw_below_drewN | apply below_drew1 | refine below_set ?_ GE216.out | refine below_set ?_ GE217.out | refine below_set ?_ GE219.out) | exact HB.out)⟩⟩
         case rest =>
          clear HC69
          obtain ⟨kq, x62_68, rfl, HA, HJ68, BK216, BK217, BK219, HB⟩ := hcut
          cases kq with
          | zero => exact absurd HA.out (by simp [impl_PortStep.j4])
          | succ kj68 =>
           have H := HA.out
           clear HA
           simp only [impl_PortStep.j4] at H
           by_cases c74 : x62_68 = true
           ·subst c74
            have H1 : (some (4, a0_1, a0_2, a0_3, true)) = some (r1, r2, r3, r4, r5) := by rw [if_pos rfl] at H; exact H
            clear H
            have H := H1
            clear H1
            simp only [Option.some.injEq, Prod.mk.injEq] at H
            obtain ⟨rfl, rfl, rfl, rfl, rfl⟩ := H
            have hnb75 := NB219_216.out
            have hnc75 := NB216_219.out
            have hnb76 := NB219_217.out
            have hnc76 := NB217_219.out
            have hcz77_0 : wc.cell? ⟨gb219, 0, none⟩ = some (.int .i64 a0_0) := (blk_cell BK219.out 0).trans rfl
            have hcz77_1 : wc.cell? ⟨gb219, 1, none⟩ = some (.int .i64 a0_1) := (blk_cell BK219.out 1).trans rfl
            have hcz77_2 : wc.cell? ⟨gb219, 2, none⟩ = some (.int .i64 a0_2) := (blk_cell BK219.out 2).trans rfl
            have hcz77_3 : wc.cell? ⟨gb219, 3, none⟩ = some (.int .i64 a0_3) := (blk_cell BK219.out 3).trans rfl
            have hfz77_0 := blk_frozen BK219.out 0
            have hfz77_1 := blk_frozen BK219.out 1
            have hfz77_2 := blk_frozen BK219.out 2
            have hfz77_3 := blk_frozen BK219.out 3
            have hnb78 := NB217_216.out
            have hnc78 := NB216_217.out
            have hcz79_0 : wc.cell? ⟨gb217, 0, none⟩ = some (.int .i64 0) := (blk_cell BK217.out 0).trans rfl
            have hcz79_1 : wc.cell? ⟨gb217, 1, none⟩ = some (.int .i64 0) := (blk_cell BK217.out 1).trans rfl
            have hcz79_2 : wc.cell? ⟨gb217, 2, none⟩ = some (.int .i64 0) := (blk_cell BK217.out 2).trans rfl
            have hcz79_3 : wc.cell? ⟨gb217, 3, none⟩ = some (.int .i64 0) := (blk_cell BK217.out 3).trans rfl
            have hfz79_0 := blk_frozen BK217.out 0
            have hfz79_1 := blk_frozen BK217.out 1
            have hfz79_2 := blk_frozen BK217.out 2
            have hfz79_3 := blk_frozen BK217.out 3
            go_wp2
            refine bodyPost_ret (results_ct rfl _ _ gb217 46 #[.int .i64 4, .int .i64 a0_1, .int .i64 a0_2, .int .i64 a0_3] (0, 0) _ rfl (by (repeat apply bX); refine blk_put (cs := #[.int .i64 4, .int .i64 a0_1, .int .i64 a0_2, .int .i64 0]) ?_ 3 _ rfl; (repeat apply bX); refine blk_put (cs := #[.int .i64 4, .int .i64 a0_1, .int .i64 0, .int .i64 0]) ?_ 2 _ rfl; (repeat apply bX); refine blk_put (cs := #[.int .i64 4, .int .i64 0, .int .i64 0, .int .i64 0]) ?_ 1 _ rfl; (repeat apply bX); refine blk_put (cs := #[.int .i64 0, .int .i64 0, .int .i64 0, .int .i64 0]) ?_ 0 _ rfl; (repeat apply bX); refine blk_far ?_ NB217_219.out _; (repeat apply bX); exact BK217.out) Try.underlying46 rfl (by kernel_rfl)) rfl ?_
            exact ⟨by first | rfl | (simp [errW_none, errW_some] <;> rfl) | (simp [*, errW_none, errW_some] <;> rfl), by repeat (first | (with_reducible first | exact HB.out | apply below_alloc | apply pw_below_drewN | apply below_drew1 | refine below_set ?_ GE216.out | refine below_set ?_ GE217.out | refine below_set ?_ GE219.out) | exact HB.out)⟩
           replace c74 := Bool.eq_false_iff.mpr c74
           subst c74
           have H1 : (if a1 = 4 then (impl_PortStep.j5 kj68 a1 (a0_0 != 5) a0_0 a0_1 a0_2 a0_3 a0_0 a0_1 a0_2 a0_3) else (impl_PortStep.j5 kj68 a1 false a0_0 a0_1 a0_2 a0_3 a0_0 a0_1 a0_2 a0_3)) = some (r1, r2, r3, r4, r5) := by rw [if_neg (show ¬ (false = true) by decide)] at H; exact H
           clear H
           have H := H1
           clear H1
           have HC80 := Aside0.mk H
           clear H
           go_upto_region 15 with (fail)
           go_cut [71] (fun v71 wc => ∃ (kq : Nat) (x71_79 : Bool), v71 = .bool x71_79 ∧ Aside0 (impl_PortStep.j5 kq a1 x71_79 a0_0 a0_1 a0_2 a0_3 a0_0 a0_1 a0_2 a0_3 = some (r1, r2, r3, r4, r5)) ∧ Aside0 (kq ≤ kj68) ∧ Aside0 (wc.heap[gb216]? = some (.cells #[.int .i64 a0_0, .int .i64 a0_1, .int .i64 a0_2, .int .i64 a0_3] 46 (0, 0))) ∧ Aside0 (wc.heap[gb217]? = some (.cells #[.int .i64 0, .int .i64 0, .int .i64 0, .int .i64 0] 46 (0, 0))) ∧ Aside0 (wc.heap[gb219]? = some (.cells #[.int .i64 a0_0, .int .i64 a0_1, .int .i64 a0_2, .int .i64 a0_3] 46 (0, 0))) ∧ Aside0 (Below w.heap.size w wc))
           case first =>
            have H := HC80.out
            clear HC80
            by_cases c81 : a1 = 4
            rotate_left
            ·rw [if_neg c81] at H
             have c81b0 : (a1 == 4) = false := beq_eq_false_iff_ne.mpr c81
             have c81b1 : (a1 != 4) = true := bne_iff_ne.mpr c81
             (first | rw [c81b0] | (simp only [i64_w, i32_w]; rw [c81b0]) | skip)
             have H' := Aside0.mk H
             clear H
             go_wp2
             go_meet
             case rel => exact ⟨_, (false), (by first | rfl | (simp; done) | (simp [*]; done)), H', ⟨by have := HJ5.out; have := HJ26.out; have := HJ37.out; have := HJ48.out; have := HJ68.out; first | omega | exact Nat.le_refl _⟩, ⟨by (repeat apply bX); exact BK216.out⟩, ⟨by (repeat apply bX); exact BK217.out⟩, ⟨by (repeat apply bX); exact BK219.out⟩, ⟨by repeat (first | (with_reducible first | exact HB.out | apply below_alloc | apply pw_below_drewN | apply below_drew1 | refine below_set ?_ GE216.out | refine below_set ?_ GE217.out | refine below_set ?_ GE219.out) | exact HB.out)⟩⟩
            rw [if_pos c81] at H
            have c81b0 : (a1 == 4) = true := beq_iff_eq.mpr c81
            have c81b1 : (a1 != 4) = false := bne_eq_false_iff_eq.mpr c81
            clear c81
            (first | rw [c81b0] | (simp only [i64_w, i32_w]; rw [c81b0]) | skip)
            have H' := Aside0.mk H
            clear H
            have hnb82 := NB216_217.out
            have hnc82 := NB217_216.out
            have hnb83 := NB216_219.out
            have hnc83 := NB219_216.out
            have hcz84_0 : wc.cell? ⟨gb216, 0, none⟩ = some (.int .i64 a0_0) := (blk_cell BK216.out 0).trans rfl
            have hcz84_1 : wc.cell? ⟨gb216, 1, none⟩ = some (.int .i64 a0_1) := (blk_cell BK216.out 1).trans rfl
            have hcz84_2 : wc.cell? ⟨gb216, 2, none⟩ = some (.int .i64 a0_2) := (blk_cell BK216.out 2).trans rfl
            have hcz84_3 : wc.cell? ⟨gb216, 3, none⟩ = some (.int .i64 a0_3) := (blk_cell BK216.out 3).trans rfl
            have hfz84_0 := blk_frozen BK216.out 0
            have hfz84_1 := blk_frozen BK216.out 1
            have hfz84_2 := blk_frozen BK216.out 2
            have hfz84_3 := blk_frozen BK216.out 3
            go_wp2
            go_meet
            case rel => exact ⟨_, ((a0_0 != 5)), (by first | rfl | (simp; done) | (simp [*]; done)), H', ⟨by have := HJ5.out; have := HJ26.out; have := HJ37.out; have := HJ48.out; have := HJ68.out; first | omega | exact Nat.le_refl _⟩, ⟨by (repeat apply bX); exact BK216.out⟩, ⟨by (repeat apply bX); exact BK217.out⟩, ⟨by (repeat apply bX); exact BK219.out⟩, ⟨by repeat (first | (with_reducible first | exact HB.out | apply below_alloc | apply pw_below_drewN | apply below_drew1 | refine below_set ?_ GE216.out | refine below_set ?_ GE217.out | refine below_set ?_ GE219.out) | exact HB.out)⟩⟩
           case rest =>
            clear HC80
            obtain ⟨kq, x71_79, rfl, HA, HJ79, BK216, BK217, BK219, HB⟩ := hcut
            cases kq with
            | zero => exact absurd HA.out (by simp [impl_PortStep.j5])
            | succ kj79 =>
             have H := HA.out
             clear HA
             simp only [impl_PortStep.j5] at H
             by_cases c85 : x71_79 = true
             ·subst c85
              have H1 : ((impl_Port_leave.f a0_0 a0_1 a0_2 a0_3 0).bind fun bt221 => (some (bt221.1, bt221.2.1, bt221.2.2.1, bt221.2.2.2, true))) = some (r1, r2, r3, r4, r5) := by rw [if_pos rfl] at H; exact H
              clear H
              have H := H1
              clear H1
              replace H := Option.bind_eq_some_iff.mp H
              obtain ⟨⟨t221, t222, t223, t224⟩, A860, H⟩ := H
              replace H : (some (t221, t222, t223, t224, true)) = some (r1, r2, r3, r4, r5) := H
              have A86 := Aside0.mk A860
              clear A860
              simp only [Option.some.injEq, Prod.mk.injEq] at H
              obtain ⟨rfl, rfl, rfl, rfl, rfl⟩ := H
              have hnb87 := NB216_217.out
              have hnc87 := NB217_216.out
              have hnb88 := NB216_219.out
              have hnc88 := NB219_216.out
              have hcz89_0 : wc.cell? ⟨gb216, 0, none⟩ = some (.int .i64 a0_0) := (blk_cell BK216.out 0).trans rfl
              have hcz89_1 : wc.cell? ⟨gb216, 1, none⟩ = some (.int .i64 a0_1) := (blk_cell BK216.out 1).trans rfl
              have hcz89_2 : wc.cell? ⟨gb216, 2, none⟩ = some (.int .i64 a0_2) := (blk_cell BK216.out 2).trans rfl
              have hcz89_3 : wc.cell? ⟨gb216, 3, none⟩ = some (.int .i64 a0_3) := (blk_cell BK216.out 3).trans rfl
              have hfz89_0 := blk_frozen BK216.out 0
              have hfz89_1 := blk_frozen BK216.out 1
              have hfz89_2 := blk_frozen BK216.out 2
              have hfz89_3 := blk_frozen BK216.out 3
              go_wp2_with (first | ((with_reducible refine gate_callee (f := 45) rfl ?_); refine goesL_ (some 80) rfl rfl Try.func45 (by kernel_rfl) rfl #[.agg #[.int .i64 a0_0, .int .i64 a0_1, .int .i64 a0_2, .int .i64 a0_3], .int .i64 0] rfl (by (try simp only [List.map_toArray, List.map_cons, List.map_nil]); first | done | rfl) ?_; (with_reducible refine (impl_Port_leave.calls a0_0 a0_1 a0_2 a0_3 0 t221 t222 t223 t224 _ A86.out).mono ?_); rintro e w90 ⟨rfl, hb⟩; refine ⟨_, rfl, ?_⟩; have n0_ := Aside0.mk (blk_below (bY BK216.out) hb); have n1_ := Aside0.mk (blk_below (bY BK217.out) hb); have n2_ := Aside0.mk (blk_below (bY BK219.out) hb); have n3_ := Aside0.mk (below_step (by repeat (first | (with_reducible first | exact HB.out | apply below_alloc | apply pw_below_drewN | apply below_drew1 | refine below_set ?_ GE216.out | refine below_set ?_ GE217.out | refine below_set ?_ GE219.out) | exact HB.out)) hb); clear BK216; clear BK217; clear BK219; clear HB; have BK216 := n0_; have BK217 := n1_; have BK219 := n2_; have HB := n3_; clear n0_ n1_ n2_ n3_; (try clear hb); (try clear hb2); (try clear hk); (try clear hi); have hnb91 := NB219_217.out; have hnc91 := NB217_219.out; have hcz92_0 : w90.cell? ⟨gb219, 0, none⟩ = some (.int .i64 a0_0) := (blk_cell BK219.out 0).trans rfl; have hcz92_1 : w90.cell? ⟨gb219, 1, none⟩ = some (.int .i64 a0_1) := (blk_cell BK219.out 1).trans rfl; have hcz92_2 : w90.cell? ⟨gb219, 2, none⟩ = some (.int .i64 a0_2) := (blk_cell BK219.out 2).trans rfl; have hcz92_3 : w90.cell? ⟨gb219, 3, none⟩ = some (.int .i64 a0_3) := (blk_cell BK219.out 3).trans rfl; have hfz92_0 := blk_frozen BK219.out 0; have hfz92_1 := blk_frozen BK219.out 1; have hfz92_2 := blk_frozen BK219.out 2; have hfz92_3 := blk_frozen BK219.out 3; have hcz93_0 : w90.cell? ⟨gb217, 0, none⟩ = some (.int .i64 0) := (blk_cell BK217.out 0).trans rfl; have hcz93_1 : w90.cell? ⟨gb217, 1, none⟩ = some (.int .i64 0) := (blk_cell BK217.out 1).trans rfl; have hcz93_2 : w90.cell? ⟨gb217, 2, none⟩ = some (.int .i64 0) := (blk_cell BK217.out 2).trans rfl; have hcz93_3 : w90.cell? ⟨gb217, 3, none⟩ = some (.int .i64 0) := (blk_cell BK217.out 3).trans rfl; have hfz93_0 := blk_frozen BK217.out 0; have hfz93_1 := blk_frozen BK217.out 1; have hfz93_2 := blk_frozen BK217.out 2; have hfz93_3 := blk_frozen BK217.out 3))
              refine bodyPost_ret (results_ct rfl _ _ gb217 46 #[.int .i64 t221, .int .i64 t222, .int .i64 t223, .int .i64 t224] (0, 0) _ rfl (by (repeat apply bX); refine blk_put (cs := #[.int .i64 t221, .int .i64 t222, .int .i64 t223, .int .i64 0]) ?_ 3 _ rfl; (repeat apply bX); refine blk_put (cs := #[.int .i64 t221, .int .i64 t222, .int .i64 0, .int .i64 0]) ?_ 2 _ rfl; (repeat apply bX); refine blk_put (cs := #[.int .i64 t221, .int .i64 0, .int .i64 0, .int .i64 0]) ?_ 1 _ rfl; (repeat apply bX); refine blk_put (cs := #[.int .i64 0, .int .i64 0, .int .i64 0, .int .i64 0]) ?_ 0 _ rfl; (repeat apply bX); refine blk_far ?_ NB217_219.out _; (repeat apply bX); refine blk_far ?_ NB217_219.out _; (repeat apply bX); refine blk_far ?_ NB217_219.out _; (repeat apply bX); refine blk_far ?_ NB217_219.out _; (repeat apply bX); exact BK217.out) Try.underlying46 rfl (by kernel_rfl)) rfl ?_
              exact ⟨by first | rfl | (simp [errW_none, errW_some] <;> rfl) | (simp [*, errW_none, errW_some] <;> rfl), by repeat (first | (with_reducible first | exact HB.out | apply below_alloc | apply pw_below_drewN | apply below_drew1 | refine below_set ?_ GE216.out | refine below_set ?_ GE217.out | refine below_set ?_ GE219.out) | exact HB.out)⟩
             replace c85 := Bool.eq_false_iff.mpr c85
             subst c85
             have H1 : (if a1 = 5 then ((impl_Port_leave.f a0_0 a0_1 a0_2 a0_3 5).bind fun bt225 => (some (bt225.1, bt225.2.1, bt225.2.2.1, bt225.2.2.2, true))) else (if a1 = 6 then (if a0_0 = 1 then (impl_PortStep.j6 kj79 a1 true a0_0 a0_1 a0_2 a0_3 a0_0 a0_1 a0_2 a0_3) else (if a0_0 = 2 then (impl_PortStep.j6 kj79 a1 true a0_0 a0_1 a0_2 a0_3 a0_0 a0_1 a0_2 a0_3) else (if a0_0 = 4 then (impl_PortStep.j6 kj79 a1 (a0_3 == 3) a0_0 a0_1 a0_2 a0_3 a0_0 a0_1 a0_2 a0_3) else (impl_PortStep.j6 kj79 a1 false a0_0 a0_1 a0_2 a0_3 a0_0 a0_1 a0_2 a0_3)))) else (impl_PortStep.j6 kj79 a1 false a0_0 a0_1 a0_2 a0_3 a0_0 a0_1 a0_2 a0_3))) = some (r1, r2, r3, r4, r5) := by rw [if_neg (show ¬ (false = true) by decide)] at H; exact H
             clear H
             have H := H1
             clear H1
             by_cases c94 : a1 = 5
             ·rw [if_pos c94] at H
              have c94b0 : (a1 == 5) = true := beq_iff_eq.mpr c94
              have c94b1 : (a1 != 5) = false := bne_eq_false_iff_eq.mpr c94
              clear c94
              replace H := Option.bind_eq_some_iff.mp H
              obtain ⟨⟨t225, t226, t227, t228⟩, A950, H⟩ := H
              replace H : (some (t225, t226, t227, t228, true)) = some (r1, r2, r3, r4, r5) := H
              have A95 := Aside0.mk A950
              clear A950
              simp only [Option.some.injEq, Prod.mk.injEq] at H
              obtain ⟨rfl, rfl, rfl, rfl, rfl⟩ := H
              have hnb96 := NB216_217.out
              have hnc96 := NB217_216.out
              have hnb97 := NB216_219.out
              have hnc97 := NB219_216.out
              have hcz98_0 : wc.cell? ⟨gb216, 0, none⟩ = some (.int .i64 a0_0) := (blk_cell BK216.out 0).trans rfl
              have hcz98_1 : wc.cell? ⟨gb216, 1, none⟩ = some (.int .i64 a0_1) := (blk_cell BK216.out 1).trans rfl
              have hcz98_2 : wc.cell? ⟨gb216, 2, none⟩ = some (.int .i64 a0_2) := (blk_cell BK216.out 2).trans rfl
              have hcz98_3 : wc.cell? ⟨gb216, 3, none⟩ = some (.int .i64 a0_3) := (blk_cell BK216.out 3).trans rfl
              have hfz98_0 := blk_frozen BK216.out 0
              have hfz98_1 := blk_frozen BK216.out 1
              have hfz98_2 := blk_frozen BK216.out 2
              have hfz98_3 := blk_frozen BK216.out 3
              go_wp2_with (first | ((with_reducible refine gate_callee (f := 45) rfl ?_); refine goesL_ (some 85) rfl rfl Try.func45 (by kernel_rfl) rfl #[.agg #[.int .i64 a0_0, .int .i64 a0_1, .int .i64 a0_2, .int .i64 a0_3], .int .i64 5] rfl (by (try simp only [List.map_toArray, List.map_cons, List.map_nil]); first | done | rfl) ?_; (with_reducible refine (impl_Port_leave.calls a0_0 a0_1 a0_2 a0_3 5 t225 t226 t227 t228 _ A95.out).mono ?_); rintro e w99 ⟨rfl, hb⟩; refine ⟨_, rfl, ?_⟩; have n0_ := Aside0.mk (blk_below (bY BK216.out) hb); have n1_ := Aside0.mk (blk_below (bY BK217.out) hb); have n2_ := Aside0.mk (blk_below (bY BK219.out) hb); have n3_ := Aside0.mk (below_step (by repeat (first | (with_reducible first | exact HB.out | apply below_alloc | apply pw_below_drewN | apply below_drew1 | refine below_set ?_ GE216.out | refine below_set ?_ GE217.out | refine below_set ?_ GE219.out) | exact HB.out)) hb); clear BK216; clear BK217; clear BK219; clear HB; have BK216 := n0_; have BK217 := n1_; have BK219 := n2_; have HB := n3_; clear n0_ n1_ n2_ n3_; (try clear hb); (try clear hb2); (try clear hk); (try clear hi); have hnb100 := NB219_217.out; have hnc100 := NB217_219.out; have hcz101_0 : w99.cell? ⟨gb219, 0, none⟩ = some (.int .i64 a0_0) := (blk_cell BK219.out 0).trans rfl; have hcz101_1 : w99.cell? ⟨gb219, 1, none⟩ = some (.int .i64 a0_1) := (blk_cell BK219.out 1).trans rfl; have hcz101_2 : w99.cell? ⟨gb219, 2, none⟩ = some (.int .i64 a0_2) := (blk_cell BK219.out 2).trans rfl; have hcz101_3 : w99.cell? ⟨gb219, 3, none⟩ = some (.int .i64 a0_3) := (blk_cell BK219.out 3).trans rfl; have hfz101_0 := blk_frozen BK219.out 0; have hfz101_1 := blk_frozen BK219.out 1; have hfz101_2 := blk_frozen BK219.out 2; have hfz101_3 := blk_frozen BK219.out 3; have hcz102_0 : w99.cell? ⟨gb217, 0, none⟩ = some (.int .i64 0) := (blk_cell BK217.out 0).trans rfl; have hcz102_1 : w99.cell? ⟨gb217, 1, none⟩ = some (.int .i64 0) := (blk_cell BK217.out 1).trans rfl; have hcz102_2 : w99.cell? ⟨gb217, 2, none⟩ = some (.int .i64 0) := (blk_cell BK217.out 2).trans rfl; have hcz102_3 : w99.cell? ⟨gb217, 3, none⟩ = some (.int .i64 0) := (blk_cell BK217.out 3).trans rfl; have hfz102_0 := blk_frozen BK217.out 0; have hfz102_1 := blk_frozen BK217.out 1; have hfz102_2 := blk_frozen BK217.out 2; have hfz102_3 := blk_frozen BK217.out 3))
              refine bodyPost_ret (results_ct rfl _ _ gb217 46 #[.int .i64 t225, .int .i64 t226, .int .i64 t227, .int .i64 t228] (0, 0) _ rfl (by (repeat apply bX); refine blk_put (cs := #[.int .i64 t225, .int .i64 t226, .int .i64 t227, .int .i64 0]) ?_ 3 _ rfl; (repeat apply bX); refine blk_put (cs := #[.int .i64 t225, .int .i64 t226, .int .i64 0, .int .i64 0]) ?_ 2 _ rfl; (repeat apply bX); refine blk_put (cs := #[.int .i64 t225, .int .i64 0, .int .i64 0, .int .i64 0]) ?_ 1 _ rfl; (repeat apply bX); refine blk_put (cs := #[.int .i64 0, .int .i64 0, .int .i64 0, .int .i64 0]) ?_ 0 _ rfl; (repeat apply bX); refine blk_far ?_ NB217_219.out _; (repeat apply bX); refine blk_far ?_ NB217_219.out _; (repeat apply bX); refine blk_far ?_ NB217_219.out _; (repeat apply bX); refine blk_far ?_ NB217_219.out _; (repeat apply bX); exact BK217.out) Try.underlying46 rfl (by kernel_rfl)) rfl ?_
              exact ⟨by first | rfl | (simp [errW_none, errW_some] <;> rfl) | (simp [*, errW_none, errW_some] <;> rfl), by repeat (first | (with_reducible first | exact HB.out | apply below_alloc | apply pw_below_drewN | apply below_drew1 | refine below_set ?_ GE216.out | refine below_set ?_ GE217.out | refine below_set ?_ GE219.out) | exact HB.out)⟩
             rw [if_neg c94] at H
             have c94b0 : (a1 == 5) = false := beq_eq_false_iff_ne.mpr c94
             have c94b1 : (a1 != 5) = true := bne_iff_ne.mpr c94
             have HC103 := Aside0.mk H
             clear H
             go_upto_region 19 with (fail)
             go_cut [86] (fun v86 wc => ∃ (kq : Nat) (x86_102 : Bool), v86 = .bool x86_102 ∧ Aside0 (impl_PortStep.j6 kq a1 x86_102 a0_0 a0_1 a0_2 a0_3 a0_0 a0_1 a0_2 a0_3 = some (r1, r2, r3, r4, r5)) ∧ Aside0 (kq ≤ kj79) ∧ Aside0 (wc.heap[gb216]? = some (.cells #[.int .i64 a0_0, .int .i64 a0_1, .int .i64 a0_2, .int .i64 a0_3] 46 (0, 0))) ∧ Aside0 (wc.heap[gb217]? = some (.cells #[.int .i64 0, .int .i64 0, .int .i64 0, .int .i64 0] 46 (0, 0))) ∧ Aside0 (wc.heap[gb219]? = some (.cells #[.int .i64 a0_0, .int .i64 a0_1, .int .i64 a0_2, .int .i64 a0_3] 46 (0, 0))) ∧ Aside0 (Below w.heap.size w wc))
             case first =>
              have H := HC103.out
              clear HC103
              by_cases c104 : a1 = 6
              rotate_left
              ·rw [if_neg c104] at H
               have c104b0 : (a1 == 6) = false := beq_eq_false_iff_ne.mpr c104
               have c104b1 : (a1 != 6) = true := bne_iff_ne.mpr c104
               (first | rw [c104b0] | (simp only [i64_w, i32_w]; rw [c104b0]) | skip)
               have H' := Aside0.mk H
               clear H
               go_wp2
               go_meet
               case rel => exact ⟨_, (false), (by first | rfl | (simp; done) | (simp [*]; done)), H', ⟨by have := HJ5.out; have := HJ26.out; have := HJ37.out; have := HJ48.out; have := HJ68.out; have := HJ79.out; first | omega | exact Nat.le_refl _⟩, ⟨by (repeat apply bX); exact BK216.out⟩, ⟨by (repeat apply bX); exact BK217.out⟩, ⟨by (repeat apply bX); exact BK219.out⟩, ⟨by repeat (first | (with_reducible first | exact HB.out | apply below_alloc | apply pw_below_drewN | apply below_drew1 | refine below_set ?_ GE216.out | refine below_set ?_ GE217.out | refine below_set ?_ GE219.out) | exact HB.out)⟩⟩
              rw [if_pos c104] at H
              have c104b0 : (a1 == 6) = true := beq_iff_eq.mpr c104
              have c104b1 : (a1 != 6) = false := bne_eq_false_iff_eq.mpr c104
              clear c104
              (first | rw [c104b0] | (simp only [i64_w, i32_w]; rw [c104b0]) | skip)
              by_cases c105 : a0_0 = 1
              ·rw [if_pos c105] at H
               have c105b0 : (a0_0 == 1) = true := beq_iff_eq.mpr c105
               have c105b1 : (a0_0 != 1) = false := bne_eq_false_iff_eq.mpr c105
               clear c105
               have H' := Aside0.mk H
               clear H
               have hnb106 := NB216_217.out
               have hnc106 := NB217_216.out
               have hnb107 := NB216_219.out
               have hnc107 := NB219_216.out
               have hcz108_0 : wc.cell? ⟨gb216, 0, none⟩ = some (.int .i64 a0_0) := (blk_cell BK216.out 0).trans rfl
               have hcz108_1 : wc.cell? ⟨gb216, 1, none⟩ = some (.int .i64 a0_1) := (blk_cell BK216.out 1).trans rfl
               have hcz108_2 : wc.cell? ⟨gb216, 2, none⟩ = some (.int .i64 a0_2) := (blk_cell BK216.out 2).trans rfl
               have hcz108_3 : wc.cell? ⟨gb216, 3, none⟩ = some (.int .i64 a0_3) := (blk_cell BK216.out 3).trans rfl
               have hfz108_0 := blk_frozen BK216.out 0
               have hfz108_1 := blk_frozen BK216.out 1
               have hfz108_2 := blk_frozen BK216.out 2
               have hfz108_3 := blk_frozen BK216.out 3
               go_wp2
               go_meet
               case rel => exact ⟨_, (true), (by first | rfl | (simp; done) | (simp [*]; done)), H', ⟨by have := HJ5.out; have := HJ26.out; have := HJ37.out; have := HJ48.out; have := HJ68.out; have := HJ79.out; first | omega | exact Nat.le_refl _⟩, ⟨by (repeat apply bX); exact BK216.out⟩, ⟨by (repeat apply bX); exact BK217.out⟩, ⟨by (repeat apply bX); exact BK219.out⟩, ⟨by repeat (first | (with_reducible first | exact HB.out | apply below_alloc | apply pw_below_drewN | apply below_drew1 | refine below_set ?_ GE216.out | refine below_set ?_ GE217.out | refine below_set ?_ GE219.out) | exact HB.out)⟩⟩
              rw [if_neg c105] at H
              have c105b0 : (a0_0 == 1) = false := beq_eq_false_iff_ne.mpr c105
              have c105b1 : (a0_0 != 1) = true := bne_iff_ne.mpr c105
              by_cases c109 : a0_0 = 2
              ·rw [if_pos c109] at H
               have c109b0 : (a0_0 == 2) = true := beq_iff_eq.mpr c109
               have c109b1 : (a0_0 != 2) = false := bne_eq_false_iff_eq.mpr c109
               clear c109
               have H' := Aside0.mk H
               clear H
               have hnb110 := NB216_217.out
               have hnc110 := NB217_216.out
               have hnb111 := NB216_219.out
               have hnc111 := NB219_216.out
               have hcz112_0 : wc.cell? ⟨gb216, 0, none⟩ = some (.int .i64 a0_0) := (blk_cell BK216.out 0).trans rfl
               have hcz112_1 : wc.cell? ⟨gb216, 1, none⟩ = some (.int .i64 a0_1) := (blk_cell BK216.out 1).trans rfl
               have hcz112_2 : wc.cell? ⟨gb216, 2, none⟩ = some (.int .i64 a0_2) := (blk_cell BK216.out 2).trans rfl
               have hcz112_3 : wc.cell? ⟨gb216, 3, none⟩ = some (.int .i64 a0_3) := (blk_cell BK216.out 3).trans rfl
               have hfz112_0 := blk_frozen BK216.out 0
               have hfz112_1 := blk_frozen BK216.out 1
               have hfz112_2 := blk_frozen BK216.out 2
               have hfz112_3 := blk_frozen BK216.out 3
               go_wp2
               go_meet
               case rel => exact ⟨_, (true), (by first | rfl | (simp; done) | (simp [*]; done)), H', ⟨by have := HJ5.out; have := HJ26.out; have := HJ37.out; have := HJ48.out; have := HJ68.out; have := HJ79.out; first | omega | exact Nat.le_refl _⟩, ⟨by (repeat apply bX); exact BK216.out⟩, ⟨by (repeat apply bX); exact BK217.out⟩, ⟨by (repeat apply bX); exact BK219.out⟩, ⟨by repeat (first | (with_reducible first | exact HB.out | apply below_alloc | apply pw_below_drewN | apply below_drew1 | refine below_set ?_ GE216.out | refine below_set ?_ GE217.out | refine below_set ?_ GE219.out) | exact HB.out)⟩⟩
              rw [if_neg c109] at H
              have c109b0 : (a0_0 == 2) = false := beq_eq_false_iff_ne.mpr c109
              have c109b1 : (a0_0 != 2) = true := bne_iff_ne.mpr c109
              by_cases c113 : a0_0 = 4
              rotate_left
              ·rw [if_neg c113] at H
               have c113b0 : (a0_0 == 4) = false := beq_eq_false_iff_ne.mpr c113
               have c113b1 : (a0_0 != 4) = true := bne_iff_ne.mpr c113
               have H' := Aside0.mk H
               clear H
               have hnb117 := NB216_217.out
               have hnc117 := NB217_216.out
               have hnb118 := NB216_219.out
               have hnc118 := NB219_216.out
               have hcz119_0 : wc.cell? ⟨gb216, 0, none⟩ = some (.int .i64 a0_0) := (blk_cell BK216.out 0).trans rfl
               have hcz119_1 : wc.cell? ⟨gb216, 1, none⟩ = some (.int .i64 a0_1) := (blk_cell BK216.out 1).trans rfl
               have hcz119_2 : wc.cell? ⟨gb216, 2, none⟩ = some (.int .i64 a0_2) := (blk_cell BK216.out 2).trans rfl
               have hcz119_3 : wc.cell? ⟨gb216, 3, none⟩ = some (.int .i64 a0_3) := (blk_cell BK216.out 3).trans rfl
               have hfz119_0 := blk_frozen BK216.out 0
               have hfz119_1 := blk_frozen BK216.out 1
               have hfz119_2 := blk_frozen BK216.out 2
               have hfz119_3 := blk_frozen BK216.out 3
               go_wp2
               go_meet
               case rel => exact ⟨_, (false), (by first | rfl | (simp; done) | (simp [*]; done)), H', ⟨by have := HJ5.out; have := HJ26.out; have := HJ37.out; have := HJ48.out; have := HJ68.out; have := HJ79.out; first | omega | exact Nat.le_refl _⟩, ⟨by (repeat apply bX); exact BK216.out⟩, ⟨by (repeat apply bX); exact BK217.out⟩, ⟨by (repeat apply bX); exact BK219.out⟩, ⟨by repeat (first | (with_reducible first | exact HB.out | apply below_alloc | apply pw_below_drewN | apply below_drew1 | refine below_set ?_ GE216.out | refine below_set ?_ GE217.out | refine below_set ?_ GE219.out) | exact HB.out)⟩⟩
              rw [if_pos c113] at H
              have c113b0 : (a0_0 == 4) = true := beq_iff_eq.mpr c113
              have c113b1 : (a0_0 != 4) = false := bne_eq_false_iff_eq.mpr c113
              clear c113
              have H' := Aside0.mk H
              clear H
              have hnb114 := NB216_217.out
              have hnc114 := NB217_216.out
              have hnb115 := NB216_219.out
              have hnc115 := NB219_216.out
              have hcz116_0 : wc.cell? ⟨gb216, 0, none⟩ = some (.int .i64 a0_0) := (blk_cell BK216.out 0).trans rfl
              have hcz116_1 : wc.cell? ⟨gb216, 1, none⟩ = some (.int .i64 a0_1) := (blk_cell BK216.out 1).trans rfl
              have hcz116_2 : wc.cell? ⟨gb216, 2, none⟩ = some (.int .i64 a0_2) := (blk_cell BK216.out 2).trans rfl
              have hcz116_3 : wc.cell? ⟨gb216, 3, none⟩ = some (.int .i64 a0_3) := (blk_cell BK216.out 3).trans rfl
              have hfz116_0 := blk_frozen BK216.out 0
              have hfz116_1 := blk_frozen BK216.out 1
              have hfz116_2 := blk_frozen BK216.out 2
              have hfz116_3 := blk_frozen BK216.out 3
              go_wp2
              go_meet
              case rel => exact ⟨_, ((a0_3 == 3)), (by first | rfl | (simp; done) | (simp [*]; done)), H', ⟨by have := HJ5.out; have := HJ26.out; have := HJ37.out; have := HJ48.out; have := HJ68.out; have := HJ79.out; first | omega | exact Nat.le_refl _⟩, ⟨by (repeat apply bX); exact BK216.out⟩, ⟨by (repeat apply bX); exact BK217.out⟩, ⟨by (repeat apply bX); exact BK219.out⟩, ⟨by repeat (first | (with_reducible first | exact HB.out | apply below_alloc | apply pw_below_drewN | apply below_drew1 | refine below_set ?_ GE216.out | refine below_set ?_ GE217.out | refine below_set ?_ GE219.out) | exact HB.out)⟩⟩
             case rest =>
              clear HC103
              obtain ⟨kq, x86_102, rfl, HA, HJ102, BK216, BK217, BK219, HB⟩ := hcut
              cases kq with
              | zero => exact absurd HA.out (by simp [impl_PortStep.j6])
              | succ kj102 =>
               have H := HA.out
               clear HA
               simp only [impl_PortStep.j6] at H
               by_cases c120 : x86_102 = true
               ·subst c120
                have H1 : ((impl_Port_leave.f a0_0 a0_1 a0_2 a0_3 0).bind fun bt229 => (some (bt229.1, bt229.2.1, bt229.2.2.1, bt229.2.2.2, true))) = some (r1, r2, r3, r4, r5) := by rw [if_pos rfl] at H; exact H
                clear H
                have H := H1
                clear H1
                replace H := Option.bind_eq_some_iff.mp H
                obtain ⟨⟨t229, t230, t231, t232⟩, A1210, H⟩ := H
                replace H : (some (t229, t230, t231, t232, true)) = some (r1, r2, r3, r4, r5) := H
                have A121 := Aside0.mk A1210
                clear A1210
                simp only [Option.some.injEq, Prod.mk.injEq] at H
                obtain ⟨rfl, rfl, rfl, rfl, rfl⟩ := H
                have hnb122 := NB216_217.out
                have hnc122 := NB217_216.out
                have hnb123 := NB216_219.out
                have hnc123 := NB219_216.out
                have hcz124_0 : wc.cell? ⟨gb216, 0, none⟩ = some (.int .i64 a0_0) := (blk_cell BK216.out 0).trans rfl
                have hcz124_1 : wc.cell? ⟨gb216, 1, none⟩ = some (.int .i64 a0_1) := (blk_cell BK216.out 1).trans rfl
                have hcz124_2 : wc.cell? ⟨gb216, 2, none⟩ = some (.int .i64 a0_2) := (blk_cell BK216.out 2).trans rfl
                have hcz124_3 : wc.cell? ⟨gb216, 3, none⟩ = some (.int .i64 a0_3) := (blk_cell BK216.out 3).trans rfl
                have hfz124_0 := blk_frozen BK216.out 0
                have hfz124_1 := blk_frozen BK216.out 1
                have hfz124_2 := blk_frozen BK216.out 2
                have hfz124_3 := blk_frozen BK216.out 3
                go_wp2_with (first | ((with_reducible refine gate_callee (f := 45) rfl ?_); refine goesL_ (some 110) rfl rfl Try.func45 (by kernel_rfl) rfl #[.agg #[.int .i64 a0_0, .int .i64 a0_1, .int .i64 a0_2, .int .i64 a0_3], .int .i64 0] rfl (by (try simp only [List.map_toArray, List.map_cons, List.map_nil]); first | done | rfl) ?_; (with_reducible refine (impl_Port_leave.calls a0_0 a0_1 a0_2 a0_3 0 t229 t230 t231 t232 _ A121.out).mono ?_); rintro e w125 ⟨rfl, hb⟩; refine ⟨_, rfl, ?_⟩; have n0_ := Aside0.mk (blk_below (bY BK216.out) hb); have n1_ := Aside0.mk (blk_below (bY BK217.out) hb); have n2_ := Aside0.mk (blk_below (bY BK219.out) hb); have n3_ := Aside0.mk (below_step (by repeat (first | (with_reducible first | exact HB.out | apply below_alloc | apply pw_below_drewN | apply below_drew1 | refine below_set ?_ GE216.out | refine below_set ?_ GE217.out | refine below_set ?_ GE219.out) | exact HB.out)) hb); clear BK216; clear BK217; clear BK219; clear HB; have BK216 := n0_; have BK217 := n1_; have BK219 := n2_; have HB := n3_; clear n0_ n1_ n2_ n3_; (try clear hb); (try clear hb2); (try clear hk); (try clear hi); have hnb126 := NB219_217.out; have hnc126 := NB217_219.out; have hcz127_0 : w125.cell? ⟨gb219, 0, none⟩ = some (.int .i64 a0_0) := (blk_cell BK219.out 0).trans rfl; have hcz127_1 : w125.cell? ⟨gb219, 1, none⟩ = some (.int .i64 a0_1) := (blk_cell BK219.out 1).trans rfl; have hcz127_2 : w125.cell? ⟨gb219, 2, none⟩ = some (.int .i64 a0_2) := (blk_cell BK219.out 2).trans rfl; have hcz127_3 : w125.cell? ⟨gb219, 3, none⟩ = some (.int .i64 a0_3) := (blk_cell BK219.out 3).trans rfl; have hfz127_0 := blk_frozen BK219.out 0; have hfz127_1 := blk_frozen BK219.out 1; have hfz127_2 := blk_frozen BK219.out 2; have hfz127_3 := blk_frozen BK219.out 3; have hcz128_0 : w125.cell? ⟨gb217, 0, none⟩ = some (.int .i64 0) := (blk_cell BK217.out 0).trans rfl; have hcz128_1 : w125.cell? ⟨gb217, 1, none⟩ = some (.int .i64 0) := (blk_cell BK217.out 1).trans rfl; have hcz128_2 : w125.cell? ⟨gb217, 2, none⟩ = some (.int .i64 0) := (blk_cell BK217.out 2).trans rfl; have hcz128_3 : w125.cell? ⟨gb217, 3, none⟩ = some (.int .i64 0) := (blk_cell BK217.out 3).trans rfl; have hfz128_0 := blk_frozen BK217.out 0; have hfz128_1 := blk_frozen BK217.out 1; have hfz128_2 := blk_frozen BK217.out 2; have hfz128_3 := blk_frozen BK217.out 3))
                refine bodyPost_ret (results_ct rfl _ _ gb217 46 #[.int .i64 t229, .int .i64 t230, .int .i64 t231, .int .i64 t232] (0, 0) _ rfl (by (repeat apply bX); refine blk_put (cs := #[.int .i64 t229, .int .i64 t230, .int .i64 t231, .int .i64 0]) ?_ 3 _ rfl; (repeat apply bX); refine blk_put (cs := #[.int .i64 t229, .int .i64 t230, .int .i64 0, .int .i64 0]) ?_ 2 _ rfl; (repeat apply bX); refine blk_put (cs := #[.int .i64 t229, .int .i64 0, .int .i64 0, .int .i64 0]) ?_ 1 _ rfl; (repeat apply bX); refine blk_put (cs := #[.int .i64 0, .int .i64 0, .int .i64 0, .int .i64 0]) ?_ 0 _ rfl; (repeat apply bX); refine blk_far ?_ NB217_219.out _; (repeat apply bX); refine blk_far ?_ NB217_219.out _; (repeat apply bX); refine blk_far ?_ NB217_219.out _; (repeat apply bX); refine blk_far ?_ NB217_219.out _; (repeat apply bX); exact BK217.out) Try.underlying46 rfl (by kernel_rfl)) rfl ?_
                exact ⟨by first | rfl | (simp [errW_none, errW_some] <;> rfl) | (simp [*, errW_none, errW_some] <;> rfl), by repeat (first | (with_reducible first | exact HB.out | apply below_alloc | apply pw_below_drewN | apply below_drew1 | refine below_set ?_ GE216.out | refine below_set ?_ GE217.out | refine below_set ?_ GE219.out) | exact HB.out)⟩
               replace c120 := Bool.eq_false_iff.mpr c120
               subst c120
               have H1 : (if a1 = 6 then (if a0_0 = 4 then (some (a0_0, a0_1, a0_2, wrap64 (a0_3 + 1), true)) else (some (a0_0, a0_1, a0_2, a0_3, false))) else (some (a0_0, a0_1, a0_2, a0_3, false))) = some (r1, r2, r3, r4, r5) := by rw [if_neg (show ¬ (false = true) by decide)] at H; exact H
               clear H
               have H := H1
               clear H1
               by_cases c129 : a1 = 6
               rotate_left
               ·rw [if_neg c129] at H
                have c129b0 : (a1 == 6) = false := beq_eq_false_iff_ne.mpr c129
                have c129b1 : (a1 != 6) = true := bne_iff_ne.mpr c129
                simp only [Option.some.injEq, Prod.mk.injEq] at H
                obtain ⟨rfl, rfl, rfl, rfl, rfl⟩ := H
                have hnb142 := NB216_217.out
                have hnc142 := NB217_216.out
                have hnb143 := NB216_219.out
                have hnc143 := NB219_216.out
                have hcz144_0 : wc.cell? ⟨gb216, 0, none⟩ = some (.int .i64 a0_0) := (blk_cell BK216.out 0).trans rfl
                have hcz144_1 : wc.cell? ⟨gb216, 1, none⟩ = some (.int .i64 a0_1) := (blk_cell BK216.out 1).trans rfl
                have hcz144_2 : wc.cell? ⟨gb216, 2, none⟩ = some (.int .i64 a0_2) := (blk_cell BK216.out 2).trans rfl
                have hcz144_3 : wc.cell? ⟨gb216, 3, none⟩ = some (.int .i64 a0_3) := (blk_cell BK216.out 3).trans rfl
                have hfz144_0 := blk_frozen BK216.out 0
                have hfz144_1 := blk_frozen BK216.out 1
                have hfz144_2 := blk_frozen BK216.out 2
                have hfz144_3 := blk_frozen BK216.out 3
                have hnb145 := NB217_219.out
                have hnc145 := NB219_217.out
                have hcz146_0 : wc.cell? ⟨gb217, 0, none⟩ = some (.int .i64 0) := (blk_cell BK217.out 0).trans rfl
                have hcz146_1 : wc.cell? ⟨gb217, 1, none⟩ = some (.int .i64 0) := (blk_cell BK217.out 1).trans rfl
                have hcz146_2 : wc.cell? ⟨gb217, 2, none⟩ = some (.int .i64 0) := (blk_cell BK217.out 2).trans rfl
                have hcz146_3 : wc.cell? ⟨gb217, 3, none⟩ = some (.int .i64 0) := (blk_cell BK217.out 3).trans rfl
                have hfz146_0 := blk_frozen BK217.out 0
                have hfz146_1 := blk_frozen BK217.out 1
                have hfz146_2 := blk_frozen BK217.out 2
                have hfz146_3 := blk_frozen BK217.out 3
                go_wp2
                refine bodyPost_ret (results_ct rfl _ _ gb217 46 #[.int .i64 a0_0, .int .i64 a0_1, .int .i64 a0_2, .int .i64 a0_3] (0, 0) _ rfl (by (repeat apply bX); refine blk_put (cs := #[.int .i64 a0_0, .int .i64 a0_1, .int .i64 a0_2, .int .i64 0]) ?_ 3 _ rfl; (repeat apply bX); refine blk_put (cs := #[.int .i64 a0_0, .int .i64 a0_1, .int .i64 0, .int .i64 0]) ?_ 2 _ rfl; (repeat apply bX); refine blk_put (cs := #[.int .i64 a0_0, .int .i64 0, .int .i64 0, .int .i64 0]) ?_ 1 _ rfl; (repeat apply bX); refine blk_put (cs := #[.int .i64 0, .int .i64 0, .int .i64 0, .int .i64 0]) ?_ 0 _ rfl; (repeat apply bX); exact BK217.out) Try.underlying46 rfl (by kernel_rfl)) rfl ?_
                exact ⟨by first | rfl | (simp [errW_none, errW_some] <;> rfl) | (simp [*, errW_none, errW_some] <;> rfl), by repeat (first | (with_reducible first | exact HB.out | apply below_alloc | apply pw_below_drewN | apply below_drew1 | refine below_set ?_ GE216.out | refine below_set ?_ GE217.out | refine below_set ?_ GE219.out) | exact HB.out)⟩
               rw [if_pos c129] at H
               have c129b0 : (a1 == 6) = true := beq_iff_eq.mpr c129
               have c129b1 : (a1 != 6) = false := bne_eq_false_iff_eq.mpr c129
               clear c129
               by_cases c130 : a0_0 = 4
               rotate_left
               ·rw [if_neg c130] at H
                have c130b0 : (a0_0 == 4) = false := beq_eq_false_iff_ne.mpr c130
                have c130b1 : (a0_0 != 4) = true := bne_iff_ne.mpr c130
                simp only [Option.some.injEq, Prod.mk.injEq] at H
                obtain ⟨rfl, rfl, rfl, rfl, rfl⟩ := H
                have hnb137 := NB216_217.out
                have hnc137 := NB217_216.out
                have hnb138 := NB216_219.out
                have hnc138 := NB219_216.out
                have hcz139_0 : wc.cell? ⟨gb216, 0, none⟩ = some (.int .i64 a0_0) := (blk_cell BK216.out 0).trans rfl
                have hcz139_1 : wc.cell? ⟨gb216, 1, none⟩ = some (.int .i64 a0_1) := (blk_cell BK216.out 1).trans rfl
                have hcz139_2 : wc.cell? ⟨gb216, 2, none⟩ = some (.int .i64 a0_2) := (blk_cell BK216.out 2).trans rfl
                have hcz139_3 : wc.cell? ⟨gb216, 3, none⟩ = some (.int .i64 a0_3) := (blk_cell BK216.out 3).trans rfl
                have hfz139_0 := blk_frozen BK216.out 0
                have hfz139_1 := blk_frozen BK216.out 1
                have hfz139_2 := blk_frozen BK216.out 2
                have hfz139_3 := blk_frozen BK216.out 3
                have hnb140 := NB217_219.out
                have hnc140 := NB219_217.out
                have hcz141_0 : wc.cell? ⟨gb217, 0, none⟩ = some (.int .i64 0) := (blk_cell BK217.out 0).trans rfl
                have hcz141_1 : wc.cell? ⟨gb217, 1, none⟩ = some (.int .i64 0) := (blk_cell BK217.out 1).trans rfl
                have hcz141_2 : wc.cell? ⟨gb217, 2, none⟩ = some (.int .i64 0) := (blk_cell BK217.out 2).trans rfl
                have hcz141_3 : wc.cell? ⟨gb217, 3, none⟩ = some (.int .i64 0) := (blk_cell BK217.out 3).trans rfl
                have hfz141_0 := blk_frozen BK217.out 0
                have hfz141_1 := blk_frozen BK217.out 1
                have hfz141_2 := blk_frozen BK217.out 2
                have hfz141_3 := blk_frozen BK217.out 3
                go_wp2
                refine bodyPost_ret (results_ct rfl _ _ gb217 46 #[.int .i64 a0_0, .int .i64 a0_1, .int .i64 a0_2, .int .i64 a0_3] (0, 0) _ rfl (by (repeat apply bX); refine blk_put (cs := #[.int .i64 a0_0, .int .i64 a0_1, .int .i64 a0_2, .int .i64 0]) ?_ 3 _ rfl; (repeat apply bX); refine blk_put (cs := #[.int .i64 a0_0, .int .i64 a0_1, .int .i64 0, .int .i64 0]) ?_ 2 _ rfl; (repeat apply bX); refine blk_put (cs := #[.int .i64 a0_0, .int .i64 0, .int .i64 0, .int .i64 0]) ?_ 1 _ rfl; (repeat apply bX); refine blk_put (cs := #[.int .i64 0, .int .i64 0, .int .i64 0, .int .i64 0]) ?_ 0 _ rfl; (repeat apply bX); exact BK217.out) Try.underlying46 rfl (by kernel_rfl)) rfl ?_
                exact ⟨by first | rfl | (simp [errW_none, errW_some] <;> rfl) | (simp [*, errW_none, errW_some] <;> rfl), by repeat (first | (with_reducible first | exact HB.out | apply below_alloc | apply pw_below_drewN | apply below_drew1 | refine below_set ?_ GE216.out | refine below_set ?_ GE217.out | refine below_set ?_ GE219.out) | exact HB.out)⟩
               rw [if_pos c130] at H
               have c130b0 : (a0_0 == 4) = true := beq_iff_eq.mpr c130
               have c130b1 : (a0_0 != 4) = false := bne_eq_false_iff_eq.mpr c130
               clear c130
               simp only [Option.some.injEq, Prod.mk.injEq] at H
               obtain ⟨rfl, rfl, rfl, rfl, rfl⟩ := H
               have hnb131 := NB216_217.out
               have hnc131 := NB217_216.out
               have hnb132 := NB216_219.out
               have hnc132 := NB219_216.out
               have hcz133_0 : wc.cell? ⟨gb216, 0, none⟩ = some (.int .i64 a0_0) := (blk_cell BK216.out 0).trans rfl
               have hcz133_1 : wc.cell? ⟨gb216, 1, none⟩ = some (.int .i64 a0_1) := (blk_cell BK216.out 1).trans rfl
               have hcz133_2 : wc.cell? ⟨gb216, 2, none⟩ = some (.int .i64 a0_2) := (blk_cell BK216.out 2).trans rfl
               have hcz133_3 : wc.cell? ⟨gb216, 3, none⟩ = some (.int .i64 a0_3) := (blk_cell BK216.out 3).trans rfl
               have hfz133_0 := blk_frozen BK216.out 0
               have hfz133_1 := blk_frozen BK216.out 1
               have hfz133_2 := blk_frozen BK216.out 2
               have hfz133_3 := blk_frozen BK216.out 3
               have hnb134 := NB219_217.out
               have hnc134 := NB217_219.out
               have hcz135_0 : wc.cell? ⟨gb219, 0, none⟩ = some (.int .i64 a0_0) := (blk_cell BK219.out 0).trans rfl
               have hcz135_1 : wc.cell? ⟨gb219, 1, none⟩ = some (.int .i64 a0_1) := (blk_cell BK219.out 1).trans rfl
               have hcz135_2 : wc.cell? ⟨gb219, 2, none⟩ = some (.int .i64 a0_2) := (blk_cell BK219.out 2).trans rfl
               have hcz135_3 : wc.cell? ⟨gb219, 3, none⟩ = some (.int .i64 a0_3) := (blk_cell BK219.out 3).trans rfl
               have hfz135_0 := blk_frozen BK219.out 0
               have hfz135_1 := blk_frozen BK219.out 1
               have hfz135_2 := blk_frozen BK219.out 2
               have hfz135_3 := blk_frozen BK219.out 3
               have hcz136_0 : wc.cell? ⟨gb217, 0, none⟩ = some (.int .i64 0) := (blk_cell BK217.out 0).trans rfl
               have hcz136_1 : wc.cell? ⟨gb217, 1, none⟩ = some (.int .i64 0) := (blk_cell BK217.out 1).trans rfl
               have hcz136_2 : wc.cell? ⟨gb217, 2, none⟩ = some (.int .i64 0) := (blk_cell BK217.out 2).trans rfl
               have hcz136_3 : wc.cell? ⟨gb217, 3, none⟩ = some (.int .i64 0) := (blk_cell BK217.out 3).trans rfl
               have hfz136_0 := blk_frozen BK217.out 0
               have hfz136_1 := blk_frozen BK217.out 1
               have hfz136_2 := blk_frozen BK217.out 2
               have hfz136_3 := blk_frozen BK217.out 3
               go_wp2
               refine bodyPost_ret (results_ct rfl _ _ gb217 46 #[.int .i64 a0_0, .int .i64 a0_1, .int .i64 a0_2, .int .i64 (wrap64 (a0_3 + 1))] (0, 0) _ rfl (by (repeat apply bX); refine blk_put (cs := #[.int .i64 a0_0, .int .i64 a0_1, .int .i64 a0_2, .int .i64 0]) ?_ 3 _ rfl; (repeat apply bX); refine blk_put (cs := #[.int .i64 a0_0, .int .i64 a0_1, .int .i64 0, .int .i64 0]) ?_ 2 _ rfl; (repeat apply bX); refine blk_put (cs := #[.int .i64 a0_0, .int .i64 0, .int .i64 0, .int .i64 0]) ?_ 1 _ rfl; (repeat apply bX); refine blk_put (cs := #[.int .i64 0, .int .i64 0, .int .i64 0, .int .i64 0]) ?_ 0 _ rfl; (repeat apply bX); refine blk_far ?_ NB217_219.out _; (repeat apply bX); exact BK217.out) Try.underlying46 rfl (by kernel_rfl)) rfl ?_
               exact ⟨by first | rfl | (simp [errW_none, errW_some] <;> rfl) | (simp [*, errW_none, errW_some] <;> rfl), by repeat (first | (with_reducible first | exact HB.out | apply below_alloc | apply pw_below_drewN | apply below_drew1 | refine below_set ?_ GE216.out | refine below_set ?_ GE217.out | refine below_set ?_ GE219.out) | exact HB.out)⟩
end Go.Proofs.Ytemapchppbpfmaa.PFnPorts
