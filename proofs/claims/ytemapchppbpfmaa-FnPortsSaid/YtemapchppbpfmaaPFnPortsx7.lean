-- Written by a program of this session (wip/xp): not trusted, Lean checks it.
import Derived.Test.YtemapchppbpfmaaPFnPortsx0
import Derived.Test.YtemapchppbpfmaaPFnPortsx5
namespace Go.Proofs.Ytemapchppbpfmaa.PFnPorts
open Go.RowKit Go.Proofs.YtemapchppbpfmaaW.PrintWords Go.Proofs.YtemapchppbpfmaaW.PrintLast Go.Proofs.YtemapchppbpfmaaW.PrintMore
attribute [local go_sem] max2_int min2_int max_two min_two max_three min_three max_four min_four   -- for this text's walks alone
set_option linter.unusedVariables false
set_option linter.unusedSimpArgs false

/-! ### impl_StateName: function 27 -/
def impl_StateName.f (a0 : Int) : Option (ByteArray) := if a0 = 0 then (some (⟨#[100, 101, 116, 101, 99, 116]⟩ : ByteArray)) else (if a0 = 1 then (some (⟨#[112, 111, 108, 108, 105, 110, 103]⟩ : ByteArray)) else (if a0 = 2 then (some (⟨#[99, 111, 110, 102, 105, 103]⟩ : ByteArray)) else (if a0 = 3 then (some (⟨#[97, 99, 116, 105, 118, 101]⟩ : ByteArray)) else (if a0 = 4 then (some (⟨#[114, 101, 99, 111, 118, 101, 114, 121]⟩ : ByteArray)) else (if a0 = 5 then (some (⟨#[100, 105, 115, 97, 98, 108, 101, 100]⟩ : ByteArray)) else (some (⟨#[]⟩ : ByteArray)))))))
set_option maxHeartbeats 8000000 in
set_option maxRecDepth 100000 in
theorem impl_StateName.at0 (w : World) :
  Calls Try.prog 27 #[.int .i64 0] w fun e w' => e = .returned (.string ⟨#[100, 101, 116, 101, 99, 116]⟩) ∧ Drawn0 w w' := by
 have A0 := Aside0.mk (show impl_within.f 0 0 5 = some true from rfl)
 have hi : ∀ w, (Instr.index 69 (.agg #[.string ⟨#[100, 101, 116, 101, 99, 116]⟩, .string ⟨#[112, 111, 108, 108, 105, 110, 103]⟩, .string ⟨#[99, 111, 110, 102, 105, 103]⟩, .string ⟨#[97, 99, 116, 105, 118, 101]⟩, .string ⟨#[114, 101, 99, 111, 118, 101, 114, 121]⟩, .string ⟨#[100, 105, 115, 97, 98, 108, 101, 100]⟩]) (.int .i64 0)).run Try.prog w = .ok (.string ⟨#[100, 101, 116, 101, 99, 116]⟩) w := fun _ => by kernel_rfl
 go_enter Try.func27, Try.ntmps27
 go_wp2_with (first | ((with_reducible refine gate_callee (f := 39) rfl ?_); refine goesL_ (some 4) rfl rfl Try.func39 (by kernel_rfl) rfl #[.int .i64 0, .int .i64 0, .int .i64 5] rfl (by (try simp only [List.map_toArray, List.map_cons, List.map_nil]); first | done | rfl) ?_; (with_reducible refine (impl_within.calls 0 0 5 true _ A0.out).mono ?_); rintro e w' ⟨rfl, ⟨nd, rfl⟩⟩; refine ⟨_, rfl, ?_⟩))
 go_ret
 exact ⟨by first | rfl | (simp; done) | (simp [*]; done), by repeat (first | exact Drawn0.refl _ | apply Drawn0.step)⟩
set_option maxHeartbeats 8000000 in
set_option maxRecDepth 100000 in
theorem impl_StateName.at1 (w : World) :
  Calls Try.prog 27 #[.int .i64 1] w fun e w' => e = .returned (.string ⟨#[112, 111, 108, 108, 105, 110, 103]⟩) ∧ Drawn0 w w' := by
 have A0 := Aside0.mk (show impl_within.f 1 0 5 = some true from rfl)
 have hi : ∀ w, (Instr.index 69 (.agg #[.string ⟨#[100, 101, 116, 101, 99, 116]⟩, .string ⟨#[112, 111, 108, 108, 105, 110, 103]⟩, .string ⟨#[99, 111, 110, 102, 105, 103]⟩, .string ⟨#[97, 99, 116, 105, 118, 101]⟩, .string ⟨#[114, 101, 99, 111, 118, 101, 114, 121]⟩, .string ⟨#[100, 105, 115, 97, 98, 108, 101, 100]⟩]) (.int .i64 1)).run Try.prog w = .ok (.string ⟨#[112, 111, 108, 108, 105, 110, 103]⟩) w := fun _ => by kernel_rfl
 go_enter Try.func27, Try.ntmps27
 go_wp2_with (first | ((with_reducible refine gate_callee (f := 39) rfl ?_); refine goesL_ (some 4) rfl rfl Try.func39 (by kernel_rfl) rfl #[.int .i64 1, .int .i64 0, .int .i64 5] rfl (by (try simp only [List.map_toArray, List.map_cons, List.map_nil]); first | done | rfl) ?_; (with_reducible refine (impl_within.calls 1 0 5 true _ A0.out).mono ?_); rintro e w' ⟨rfl, ⟨nd, rfl⟩⟩; refine ⟨_, rfl, ?_⟩))
 go_ret
 exact ⟨by first | rfl | (simp; done) | (simp [*]; done), by repeat (first | exact Drawn0.refl _ | apply Drawn0.step)⟩
set_option maxHeartbeats 8000000 in
set_option maxRecDepth 100000 in
theorem impl_StateName.at2 (w : World) :
  Calls Try.prog 27 #[.int .i64 2] w fun e w' => e = .returned (.string ⟨#[99, 111, 110, 102, 105, 103]⟩) ∧ Drawn0 w w' := by
 have A0 := Aside0.mk (show impl_within.f 2 0 5 = some true from rfl)
 have hi : ∀ w, (Instr.index 69 (.agg #[.string ⟨#[100, 101, 116, 101, 99, 116]⟩, .string ⟨#[112, 111, 108, 108, 105, 110, 103]⟩, .string ⟨#[99, 111, 110, 102, 105, 103]⟩, .string ⟨#[97, 99, 116, 105, 118, 101]⟩, .string ⟨#[114, 101, 99, 111, 118, 101, 114, 121]⟩, .string ⟨#[100, 105, 115, 97, 98, 108, 101, 100]⟩]) (.int .i64 2)).run Try.prog w = .ok (.string ⟨#[99, 111, 110, 102, 105, 103]⟩) w := fun _ => by kernel_rfl
 go_enter Try.func27, Try.ntmps27
 go_wp2_with (first | ((with_reducible refine gate_callee (f := 39) rfl ?_); refine goesL_ (some 4) rfl rfl Try.func39 (by kernel_rfl) rfl #[.int .i64 2, .int .i64 0, .int .i64 5] rfl (by (try simp only [List.map_toArray, List.map_cons, List.map_nil]); first | done | rfl) ?_; (with_reducible refine (impl_within.calls 2 0 5 true _ A0.out).mono ?_); rintro e w' ⟨rfl, ⟨nd, rfl⟩⟩; refine ⟨_, rfl, ?_⟩))
 go_ret
 exact ⟨by first | rfl | (simp; done) | (simp [*]; done), by repeat (first | exact Drawn0.refl _ | apply Drawn0.step)⟩
set_option maxHeartbeats 8000000 in
set_option maxRecDepth 100000 in
theorem impl_StateName.at3 (w : World) :
  Calls Try.prog 27 #[.int .i64 3] w fun e w' => e = .returned (.string ⟨#[97, 99, 116, 105, 118, 101]⟩) ∧ Drawn0 w w' := by
 have A0 := Aside0.mk (show impl_within.f 3 0 5 = some true from rfl)
 have hi : ∀ w, (Instr.index 69 (.agg #[.string ⟨#[100, 101, 116, 101, 99, 116]⟩, .string ⟨#[112, 111, 108, 108, 105, 110, 103]⟩, .string ⟨#[99, 111, 110, 102, 105, 103]⟩, .string ⟨#[97, 99, 116, 105, 118, 101]⟩, .string ⟨#[114, 101, 99, 111, 118, 101, 114, 121]⟩, .string ⟨#[100, 105, 115, 97, 98, 108, 101, 100]⟩]) (.int .i64 3)).run Try.prog w = .ok (.string ⟨#[97, 99, 116, 105, 118, 101]⟩) w := fun _ => by kernel_rfl
 go_enter Try.func27, Try.ntmps27
 go_wp2_with (first | ((with_reducible refine gate_callee (f := 39) rfl ?_); refine goesL_ (some 4) rfl rfl Try.func39 (by kernel_rfl) rfl #[.int .i64 3, .int .i64 0, .int .i64 5] rfl (by (try simp only [List.map_toArray, List.map_cons, List.map_nil]); first | done | rfl) ?_; (with_reducible refine (impl_within.calls 3 0 5 true _ A0.out).mono ?_); rintro e w' ⟨rfl, ⟨nd, rfl⟩⟩; refine ⟨_, rfl, ?_⟩))
 go_ret
 exact ⟨by first | rfl | (simp; done) | (simp [*]; done), by repeat (first | exact Drawn0.refl _ | apply Drawn0.step)⟩
set_option maxHeartbeats 8000000 in
set_option maxRecDepth 100000 in
theorem impl_StateName.at4 (w : World) :
  Calls Try.prog 27 #[.int .i64 4] w fun e w' => e = .returned (.string ⟨#[114, 101, 99, 111, 118, 101, 114, 121]⟩) ∧ Drawn0 w w' := by
 have A0 := Aside0.mk (show impl_within.f 4 0 5 = some true from rfl)
 have hi : ∀ w, (Instr.index 69 (.agg #[.string ⟨#[100, 101, 116, 101, 99, 116]⟩, .string ⟨#[112, 111, 108, 108, 105, 110, 103]⟩, .string ⟨#[99, 111, 110, 102, 105, 103]⟩, .string ⟨#[97, 99, 116, 105, 118, 101]⟩, .string ⟨#[114, 101, 99, 111, 118, 101, 114, 121]⟩, .string ⟨#[100, 105, 115, 97, 98, 108, 101, 100]⟩]) (.int .i64 4)).run Try.prog w = .ok (.string ⟨#[114, 101, 99, 111, 118, 101, 114, 121]⟩) w := fun _ => by kernel_rfl
 go_enter Try.func27, Try.ntmps27
 go_wp2_with (first | ((with_reducible refine gate_callee (f := 39) rfl ?_); refine goesL_ (some 4) rfl rfl Try.func39 (by kernel_rfl) rfl #[.int .i64 4, .int .i64 0, .int .i64 5] rfl (by (try simp only [List.map_toArray, List.map_cons, List.map_nil]); first | done | rfl) ?_; (with_reducible refine (impl_within.calls 4 0 5 true _ A0.out).mono ?_); rintro e w' ⟨rfl, ⟨nd, rfl⟩⟩; refine ⟨_, rfl, ?_⟩))
 go_ret
 exact ⟨by first | rfl | (simp; done) | (simp [*]; done), by repeat (first | exact Drawn0.refl _ | apply Drawn0.step)⟩
set_option maxHeartbeats 8000000 in
set_option maxRecDepth 100000 in
theorem impl_StateName.at5 (w : World) :
  Calls Try.prog 27 #[.int .i64 5] w fun e w' => e = .returned (.string ⟨#[100, 105, 115, 97, 98, 108, 101, 100]⟩) ∧ Drawn0 w w' := by
 have A0 := Aside0.mk (show impl_within.f 5 0 5 = some true from rfl)
 have hi : ∀ w, (Instr.index 69 (.agg #[.string ⟨#[100, 101, 116, 101, 99, 116]⟩, .string ⟨#[112, 111, 108, 108, 105, 110, 103]⟩, .string ⟨#[99, 111, 110, 102, 105, 103]⟩, .string ⟨#[97, 99, 116, 105, 118, 101]⟩, .string ⟨#[114, 101, 99, 111, 118, 101, 114, 121]⟩, .string ⟨#[100, 105, 115, 97, 98, 108, 101, 100]⟩]) (.int .i64 5)).run Try.prog w = .ok (.string ⟨#[100, 105, 115, 97, 98, 108, 101, 100]⟩) w := fun _ => by kernel_rfl
 go_enter Try.func27, Try.ntmps27
 go_wp2_with (first | ((with_reducible refine gate_callee (f := 39) rfl ?_); refine goesL_ (some 4) rfl rfl Try.func39 (by kernel_rfl) rfl #[.int .i64 5, .int .i64 0, .int .i64 5] rfl (by (try simp only [List.map_toArray, List.map_cons, List.map_nil]); first | done | rfl) ?_; (with_reducible refine (impl_within.calls 5 0 5 true _ A0.out).mono ?_); rintro e w' ⟨rfl, ⟨nd, rfl⟩⟩; refine ⟨_, rfl, ?_⟩))
 go_ret
 exact ⟨by first | rfl | (simp; done) | (simp [*]; done), by repeat (first | exact Drawn0.refl _ | apply Drawn0.step)⟩
set_option maxHeartbeats 8000000 in
set_option maxRecDepth 100000 in
theorem impl_StateName.out (a0 : Int) (A0 : Aside0 (impl_within.f a0 0 5 = some false)) (w : World) :
  Calls Try.prog 27 #[.int .i64 a0] w fun e w' => e = .returned (.string ⟨#[]⟩) ∧ Drawn0 w w' := by
 go_enter Try.func27, Try.ntmps27
 go_wp2_with (first | ((with_reducible refine gate_callee (f := 39) rfl ?_); refine goesL_ (some 4) rfl rfl Try.func39 (by kernel_rfl) rfl #[.int .i64 a0, .int .i64 0, .int .i64 5] rfl (by (try simp only [List.map_toArray, List.map_cons, List.map_nil]); first | done | rfl) ?_; (with_reducible refine (impl_within.calls a0 0 5 false _ A0.out).mono ?_); rintro e w' ⟨rfl, ⟨nd, rfl⟩⟩; refine ⟨_, rfl, ?_⟩))
 go_ret
 exact ⟨by first | rfl | (simp; done) | (simp [*]; done), by repeat (first | exact Drawn0.refl _ | apply Drawn0.step)⟩
theorem impl_StateName.calls (a0 : Int) (r : ByteArray) (w : World) (h : impl_StateName.f a0 = some r) :
  Calls Try.prog 27 #[.int .i64 a0] w fun e w' => e = .returned (.string r) ∧ Drawn0 w w' := by
 unfold impl_StateName.f at h
 by_cases c0 : a0 = 0
 ·rw [if_pos c0] at h; obtain rfl := Option.some.inj h; subst c0; exact impl_StateName.at0 w
 rw [if_neg c0] at h
 by_cases c1 : a0 = 1
 ·rw [if_pos c1] at h; obtain rfl := Option.some.inj h; subst c1; exact impl_StateName.at1 w
 rw [if_neg c1] at h
 by_cases c2 : a0 = 2
 ·rw [if_pos c2] at h; obtain rfl := Option.some.inj h; subst c2; exact impl_StateName.at2 w
 rw [if_neg c2] at h
 by_cases c3 : a0 = 3
 ·rw [if_pos c3] at h; obtain rfl := Option.some.inj h; subst c3; exact impl_StateName.at3 w
 rw [if_neg c3] at h
 by_cases c4 : a0 = 4
 ·rw [if_pos c4] at h; obtain rfl := Option.some.inj h; subst c4; exact impl_StateName.at4 w
 rw [if_neg c4] at h
 by_cases c5 : a0 = 5
 ·rw [if_pos c5] at h; obtain rfl := Option.some.inj h; subst c5; exact impl_StateName.at5 w
 rw [if_neg c5] at h
 obtain rfl := Option.some.inj h
 refine impl_StateName.out a0 ⟨?_⟩ w
 unfold impl_within.f
 by_cases h1 : a0 ≥ 0
 ·rw [if_pos h1, decide_eq_false (by omega)]
 ·rw [if_neg h1]

end Go.Proofs.Ytemapchppbpfmaa.PFnPorts
