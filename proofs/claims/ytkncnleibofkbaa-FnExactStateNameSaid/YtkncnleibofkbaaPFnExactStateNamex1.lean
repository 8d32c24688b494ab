-- Written by a program of this session (wip/xp): not trusted, Lean checks it.
import Derived.Test.YtkncnleibofkbaaPFnExactStateNamex0
namespace Go.Proofs.Ytkncnleibofkbaa.PFnExactStateName
open Go.RowKit Go.Proofs.YtkncnleibofkbaaW.PrintWords Go.Proofs.YtkncnleibofkbaaW.PrintLast Go.Proofs.YtkncnleibofkbaaW.PrintMore
attribute [local go_sem] max2_int min2_int max_two min_two max_three min_three max_four min_four   -- for this text's walks alone
set_option linter.unusedVariables false
set_option linter.unusedSimpArgs false

/-! ### spec_l01In: function 45 -/
def spec_l01In.f (a0 : Int) (a1 : Int) (a2 : Int) : Option (Bool) := if a0 ≥ a1 then (some (decide (a0 ≤ a2))) else (some false)
set_option maxHeartbeats 8000000 in
set_option maxRecDepth 100000 in
theorem spec_l01In.calls (a0 : Int) (a1 : Int) (a2 : Int) (r : Bool) (w : World) (h : spec_l01In.f a0 a1 a2 = some r) :
    Calls Try.prog 45 #[.int .i64 a0, .int .i64 a1, .int .i64 a2] w fun e w' => e = .returned (.bool r) ∧ Drawn0 w w' := by
  have H : (if a0 ≥ a1 then (some (decide (a0 ≤ a2))) else (some false)) = some r := h
  clear h
  by_cases c4 : a0 ≥ a1
  · rw [if_pos c4] at H
    have c4b0 : decide (a1 ≤ a0) = true := decide_eq_true c4
    clear c4
    obtain rfl := Option.some.inj H
    go_enter Try.func45, Try.ntmps45
    go_wp2
    go_ret
    exact ⟨by first | rfl | (simp; done) | (simp [*]; done), by repeat (first | exact Drawn0.refl _ | apply Drawn0.step)⟩
  · rw [if_neg c4] at H
    have c4b0 : decide (a1 ≤ a0) = false := decide_eq_false c4
    clear c4
    obtain rfl := Option.some.inj H
    go_enter Try.func45, Try.ntmps45
    go_wp2
    go_ret
    exact ⟨by first | rfl | (simp; done) | (simp [*]; done), by repeat (first | exact Drawn0.refl _ | apply Drawn0.step)⟩

/-! ### spec_StateName: function 17 -/
def spec_StateName.f (a0 : Int) : Option (ByteArray) := (spec_l01In.f a0 0 5).bind fun t101 => (if t101 = true then ((some (([(⟨#[100, 101, 116, 101, 99, 116]⟩ : ByteArray), (⟨#[112, 111, 108, 108, 105, 110, 103]⟩ : ByteArray), (⟨#[99, 111, 110, 102, 105, 103]⟩ : ByteArray), (⟨#[97, 99, 116, 105, 118, 101]⟩ : ByteArray), (⟨#[114, 101, 99, 111, 118, 101, 114, 121]⟩ : ByteArray), (⟨#[100, 105, 115, 97, 98, 108, 101, 100]⟩ : ByteArray)] : List ByteArray) : List ByteArray)).bind fun y102 => (if 0 ≤ a0 then (if a0 < (y102.length : Int) then (some (rdOf ByteArray.empty y102 a0)) else (none)) else (none))) else (some (⟨#[]⟩ : ByteArray)))
set_option maxHeartbeats 8000000 in
set_option maxRecDepth 100000 in
theorem spec_StateName.calls (a0 : Int) (r : ByteArray) (w : World) (h : spec_StateName.f a0 = some r) :
    Calls Try.prog 17 #[.int .i64 a0] w fun e w' => e = .returned (.string r) ∧ Below w.heap.size w w' := by
  have HB := Aside0.mk (Below.refl w.heap.size w)
  have H : ((spec_l01In.f a0 0 5).bind fun t101 => (if t101 = true then ((some (([(⟨#[100, 101, 116, 101, 99, 116]⟩ : ByteArray), (⟨#[112, 111, 108, 108, 105, 110, 103]⟩ : ByteArray), (⟨#[99, 111, 110, 102, 105, 103]⟩ : ByteArray), (⟨#[97, 99, 116, 105, 118, 101]⟩ : ByteArray), (⟨#[114, 101, 99, 111, 118, 101, 114, 121]⟩ : ByteArray), (⟨#[100, 105, 115, 97, 98, 108, 101, 100]⟩ : ByteArray)] : List ByteArray) : List ByteArray)).bind fun y102 => (if 0 ≤ a0 then (if a0 < (y102.length : Int) then (some (rdOf ByteArray.empty y102 a0)) else (none)) else (none))) else (some (⟨#[]⟩ : ByteArray)))) = some r := h
  clear h
  replace H := Option.bind_eq_some_iff.mp H
  obtain ⟨t101, A20, H⟩ := H
  replace H : (if t101 = true then ((some (([(⟨#[100, 101, 116, 101, 99, 116]⟩ : ByteArray), (⟨#[112, 111, 108, 108, 105, 110, 103]⟩ : ByteArray), (⟨#[99, 111, 110, 102, 105, 103]⟩ : ByteArray), (⟨#[97, 99, 116, 105, 118, 101]⟩ : ByteArray), (⟨#[114, 101, 99, 111, 118, 101, 114, 121]⟩ : ByteArray), (⟨#[100, 105, 115, 97, 98, 108, 101, 100]⟩ : ByteArray)] : List ByteArray) : List ByteArray)).bind fun y102 => (if 0 ≤ a0 then (if a0 < (y102.length : Int) then (some (rdOf ByteArray.empty y102 a0)) else (none)) else (none))) else (some (⟨#[]⟩ : ByteArray))) = some r := H
  have A2 := Aside0.mk A20
  clear A20
  by_cases c3 : t101 = true
  · subst c3
    have H1 : ((some (([(⟨#[100, 101, 116, 101, 99, 116]⟩ : ByteArray), (⟨#[112, 111, 108, 108, 105, 110, 103]⟩ : ByteArray), (⟨#[99, 111, 110, 102, 105, 103]⟩ : ByteArray), (⟨#[97, 99, 116, 105, 118, 101]⟩ : ByteArray), (⟨#[114, 101, 99, 111, 118, 101, 114, 121]⟩ : ByteArray), (⟨#[100, 105, 115, 97, 98, 108, 101, 100]⟩ : ByteArray)] : List ByteArray) : List ByteArray)).bind fun y102 => (if 0 ≤ a0 then (if a0 < (y102.length : Int) then (some (rdOf ByteArray.empty y102 a0)) else (none)) else (none))) = some r := by rw [if_pos rfl] at H; exact H
    clear H
    have H := H1
    clear H1
    obtain ⟨y102, hy102⟩ : ∃ y_ : List ByteArray, y_ = (([(⟨#[100, 101, 116, 101, 99, 116]⟩ : ByteArray), (⟨#[112, 111, 108, 108, 105, 110, 103]⟩ : ByteArray), (⟨#[99, 111, 110, 102, 105, 103]⟩ : ByteArray), (⟨#[97, 99, 116, 105, 118, 101]⟩ : ByteArray), (⟨#[114, 101, 99, 111, 118, 101, 114, 121]⟩ : ByteArray), (⟨#[100, 105, 115, 97, 98, 108, 101, 100]⟩ : ByteArray)] : List ByteArray)) := ⟨_, rfl⟩
    replace H : (if 0 ≤ a0 then (if a0 < (y102.length : Int) then (some (rdOf ByteArray.empty y102 a0)) else (none)) else (none)) = some r := by first | (rw [hy102]; with_reducible exact H) | (have H2_ := (Option.bind_some _ _).symm.trans H; rw [hy102]; with_reducible exact H2_) | (have H2_ := (Option.bind_some _ _).symm.trans H; with_reducible exact H2_) | with_reducible exact H | (rw [hy102]; exact H) | exact H
    have Ny102 := Aside0.mk hy102
    clear hy102
    by_cases c4 : 0 ≤ a0
    · rw [if_pos c4] at H
      have c4b0 : decide (0 ≤ a0) = true := decide_eq_true c4
      clear c4
      by_cases c5 : a0 < (y102.length : Int)
      · rw [if_pos c5] at H
        have c5b0 : decide (a0 < (y102.length : Int)) = true := decide_eq_true c5
        clear c5
        obtain rfl := Option.some.inj H
        go_enter Try.func17, Try.ntmps17
        go_wp2_with (first | ((with_reducible refine gate_callee (f := 45) rfl ?_); refine goesL_ (some 4) rfl rfl Try.func45 (by kernel_rfl) rfl #[.int .i64 a0, .int .i64 0, .int .i64 5] rfl (by (try simp only [List.map_toArray, List.map_cons, List.map_nil]); first | done | rfl | (simp only [List.length_drop, List.length_take]; rfl)) ?_; (with_reducible refine (spec_l01In.calls a0 0 5 true _ A2.out).mono ?_); rintro e w' ⟨rfl, ⟨nd, rfl⟩⟩; refine ⟨_, rfl, ?_⟩) | ((with_reducible refine gate_dst (N := 6) rfl ?_); refine Kd.R_lit Kd.string _ 9 ?hg (N := 6) ?hd (xs := ([(⟨#[100, 101, 116, 101, 99, 116]⟩ : ByteArray), (⟨#[112, 111, 108, 108, 105, 110, 103]⟩ : ByteArray), (⟨#[99, 111, 110, 102, 105, 103]⟩ : ByteArray), (⟨#[97, 99, 116, 105, 118, 101]⟩ : ByteArray), (⟨#[114, 101, 99, 111, 118, 101, 114, 121]⟩ : ByteArray), (⟨#[100, 105, 115, 97, 98, 108, 101, 100]⟩ : ByteArray)] : List ByteArray)) (inner := [.string (⟨#[100, 101, 116, 101, 99, 116]⟩ : ByteArray), .string (⟨#[112, 111, 108, 108, 105, 110, 103]⟩ : ByteArray), .string (⟨#[99, 111, 110, 102, 105, 103]⟩ : ByteArray), .string (⟨#[97, 99, 116, 105, 118, 101]⟩ : ByteArray), .string (⟨#[114, 101, 99, 111, 118, 101, 114, 121]⟩ : ByteArray), .string (⟨#[100, 105, 115, 97, 98, 108, 101, 100]⟩ : ByteArray)]) (ok := fun _ => True) (okp := fun _ => True) ?hr ?hp (fun _ hk => hk) trivial (Below.refl _ _) (Nat.le_refl _) (by simp) ?_; (case hd => rfl); (case hg => rfl); (case hr => first | (go_simp; done) | (go_simp; rfl)); (case hp => exact (Reps.one (show Kd.M Kd.string _ _ _ (⟨#[100, 101, 116, 101, 99, 116]⟩ : ByteArray) [.string (⟨#[100, 101, 116, 101, 99, 116]⟩ : ByteArray)] from rfl) (Reps.one (show Kd.M Kd.string _ _ _ (⟨#[112, 111, 108, 108, 105, 110, 103]⟩ : ByteArray) [.string (⟨#[112, 111, 108, 108, 105, 110, 103]⟩ : ByteArray)] from rfl) (Reps.one (show Kd.M Kd.string _ _ _ (⟨#[99, 111, 110, 102, 105, 103]⟩ : ByteArray) [.string (⟨#[99, 111, 110, 102, 105, 103]⟩ : ByteArray)] from rfl) (Reps.one (show Kd.M Kd.string _ _ _ (⟨#[97, 99, 116, 105, 118, 101]⟩ : ByteArray) [.string (⟨#[97, 99, 116, 105, 118, 101]⟩ : ByteArray)] from rfl) (Reps.one (show Kd.M Kd.string _ _ _ (⟨#[114, 101, 99, 111, 118, 101, 114, 121]⟩ : ByteArray) [.string (⟨#[114, 101, 99, 111, 118, 101, 114, 121]⟩ : ByteArray)] from rfl) (Reps.one (show Kd.M Kd.string _ _ _ (⟨#[100, 105, 115, 97, 98, 108, 101, 100]⟩ : ByteArray) [.string (⟨#[100, 105, 115, 97, 98, 108, 101, 100]⟩ : ByteArray)] from rfl) (Reps.none _ _)))))))); intro v103 w6 ho7 hb hg_ hnew_; clear hg_ hnew_; (first | rw [← Ny102.out] at ho7 | (simp only [Int.reduceToNat] at ho7; rw [← Ny102.out] at ho7)); have n0_ := Aside0.mk (Kd.R_lower ho7 (below_size (by repeat (first | (with_reducible first | exact HB.out | apply below_alloc | apply pw_below_drewN | apply below_drew1) | exact HB.out)))); have n1_ := Aside0.mk (below_step (by repeat (first | (with_reducible first | exact HB.out | apply below_alloc | apply pw_below_drewN | apply below_drew1) | exact HB.out)) hb); clear HB; have HO104 := n0_; have HB := n1_; clear n0_ n1_; clear hb ho7; obtain ⟨Ao8, co8, eo8⟩ := Kd.R_slice HO104.out; subst eo8; have p105 : 0 ≤ (a0 : Int) := of_decide_eq_true (by first | (with_reducible assumption) | assumption); have q105 : a0 < (y102.length : Int) := of_decide_eq_true (by first | (with_reducible assumption) | assumption); obtain ⟨ad105, e105, hx105_0⟩ := Kd.at_string (Kd.R_reads' HO104.out).2.2 a0 p105 q105; cases e105; replace p105 := eq_true p105; replace q105 := eq_true q105))
        go_ret
        exact ⟨by first | rfl | (simp [errW_none, errW_some] <;> rfl) | (simp [*, errW_none, errW_some] <;> rfl), by repeat (first | (with_reducible first | exact HB.out | apply below_alloc | apply pw_below_drewN | apply below_drew1) | exact HB.out)⟩
      · rw [if_neg c5] at H
        exact absurd H (by simp)
    · rw [if_neg c4] at H
      exact absurd H (by simp)
  · replace c3 := Bool.eq_false_iff.mpr c3
    subst c3
    have H1 : (some (⟨#[]⟩ : ByteArray)) = some r := by rw [if_neg (show ¬ (false = true) by decide)] at H; exact H
    clear H
    have H := H1
    clear H1
    obtain rfl := Option.some.inj H
    go_enter Try.func17, Try.ntmps17
    go_wp2_with (first | ((with_reducible refine gate_callee (f := 45) rfl ?_); refine goesL_ (some 4) rfl rfl Try.func45 (by kernel_rfl) rfl #[.int .i64 a0, .int .i64 0, .int .i64 5] rfl (by (try simp only [List.map_toArray, List.map_cons, List.map_nil]); first | done | rfl | (simp only [List.length_drop, List.length_take]; rfl)) ?_; (with_reducible refine (spec_l01In.calls a0 0 5 false _ A2.out).mono ?_); rintro e w' ⟨rfl, ⟨nd, rfl⟩⟩; refine ⟨_, rfl, ?_⟩))
    go_ret
    exact ⟨by first | rfl | (simp [errW_none, errW_some] <;> rfl) | (simp [*, errW_none, errW_some] <;> rfl), by repeat (first | (with_reducible first | exact HB.out | apply below_alloc | apply pw_below_drewN | apply below_drew1) | exact HB.out)⟩

/-! ### impl_within: function 46 -/
def impl_within.f (a0 : Int) (a1 : Int) (a2 : Int) : Option (Bool) := if a0 ≥ a1 then (some (decide (a0 ≤ a2))) else (some false)
set_option maxHeartbeats 8000000 in
set_option maxRecDepth 100000 in
theorem impl_within.calls (a0 : Int) (a1 : Int) (a2 : Int) (r : Bool) (w : World) (h : impl_within.f a0 a1 a2 = some r) :
    Calls Try.prog 46 #[.int .i64 a0, .int .i64 a1, .int .i64 a2] w fun e w' => e = .returned (.bool r) ∧ Drawn0 w w' := by
  have H : (if a0 ≥ a1 then (some (decide (a0 ≤ a2))) else (some false)) = some r := h
  clear h
  by_cases c4 : a0 ≥ a1
  · rw [if_pos c4] at H
    have c4b0 : decide (a1 ≤ a0) = true := decide_eq_true c4
    clear c4
    obtain rfl := Option.some.inj H
    go_enter Try.func46, Try.ntmps46
    go_wp2
    go_ret
    exact ⟨by first | rfl | (simp; done) | (simp [*]; done), by repeat (first | exact Drawn0.refl _ | apply Drawn0.step)⟩
  · rw [if_neg c4] at H
    have c4b0 : decide (a1 ≤ a0) = false := decide_eq_false c4
    clear c4
    obtain rfl := Option.some.inj H
    go_enter Try.func46, Try.ntmps46
    go_wp2
    go_ret
    exact ⟨by first | rfl | (simp; done) | (simp [*]; done), by repeat (first | exact Drawn0.refl _ | apply Drawn0.step)⟩

/-! ### impl_StateName: function 18 -/
def impl_StateName.f (a0 : Int) : Option (ByteArray) := if a0 = 0 then (some (⟨#[100, 101, 116, 101, 99, 116]⟩ : ByteArray)) else (if a0 = 1 then (some (⟨#[112, 111, 108, 108, 105, 110, 103]⟩ : ByteArray)) else (if a0 = 2 then (some (⟨#[99, 111, 110, 102, 105, 103]⟩ : ByteArray)) else (if a0 = 3 then (some (⟨#[97, 99, 116, 105, 118, 101]⟩ : ByteArray)) else (if a0 = 4 then (some (⟨#[114, 101, 99, 111, 118, 101, 114, 121]⟩ : ByteArray)) else (if a0 = 5 then (some (⟨#[100, 105, 115, 97, 98, 108, 101, 100]⟩ : ByteArray)) else (some (⟨#[]⟩ : ByteArray)))))))
set_option maxHeartbeats 8000000 in
set_option maxRecDepth 100000 in
theorem impl_StateName.at0 (w : World) :
    Calls Try.prog 18 #[.int .i64 0] w fun e w' => e = .returned (.string ⟨#[100, 101, 116, 101, 99, 116]⟩) ∧ Drawn0 w w' := by
  have A0 := Aside0.mk (show impl_within.f 0 0 5 = some true from rfl)
  have hi : ∀ w, (Instr.index 58 (.agg #[.string ⟨#[100, 101, 116, 101, 99, 116]⟩, .string ⟨#[112, 111, 108, 108, 105, 110, 103]⟩, .string ⟨#[99, 111, 110, 102, 105, 103]⟩, .string ⟨#[97, 99, 116, 105, 118, 101]⟩, .string ⟨#[114, 101, 99, 111, 118, 101, 114, 121]⟩, .string ⟨#[100, 105, 115, 97, 98, 108, 101, 100]⟩]) (.int .i64 0)).run Try.prog w = .ok (.string ⟨#[100, 101, 116, 101, 99, 116]⟩) w := fun _ => by kernel_rfl
  go_enter Try.func18, Try.ntmps18
  go_wp2_with (first | ((with_reducible refine gate_callee (f := 46) rfl ?_); refine goesL_ (some 4) rfl rfl Try.func46 (by kernel_rfl) rfl #[.int .i64 0, .int .i64 0, .int .i64 5] rfl (by (try simp only [List.map_toArray, List.map_cons, List.map_nil]); first | done | rfl) ?_; (with_reducible refine (impl_within.calls 0 0 5 true _ A0.out).mono ?_); rintro e w' ⟨rfl, ⟨nd, rfl⟩⟩; refine ⟨_, rfl, ?_⟩))
  go_ret
  exact ⟨by first | rfl | (simp; done) | (simp [*]; done), by repeat (first | exact Drawn0.refl _ | apply Drawn0.step)⟩
set_option maxHeartbeats 8000000 in
set_option maxRecDepth 100000 in
theorem impl_StateName.at1 (w : World) :
    Calls Try.prog 18 #[.int .i64 1] w fun e w' => e = .returned (.string ⟨#[112, 111, 108, 108, 105, 110, 103]⟩) ∧ Drawn0 w w' := by
  have A0 := Aside0.mk (show impl_within.f 1 0 5 = some true from rfl)
  have hi : ∀ w, (Instr.index 58 (.agg #[.string ⟨#[100, 101, 116, 101, 99, 116]⟩, .string ⟨#[112, 111, 108, 108, 105, 110, 103]⟩, .string ⟨#[99, 111, 110, 102, 105, 103]⟩, .string ⟨#[97, 99, 116, 105, 118, 101]⟩, .string ⟨#[114, 101, 99, 111, 118, 101, 114, 121]⟩, .string ⟨#[100, 105, 115, 97, 98, 108, 101, 100]⟩]) (.int .i64 1)).run Try.prog w = .ok (.string ⟨#[112, 111, 108, 108, 105, 110, 103]⟩) w := fun _ => by kernel_rfl
  go_enter Try.func18, Try.ntmps18
  go_wp2_with (first | ((with_reducible refine gate_callee (f := 46) rfl ?_); refine goesL_ (some 4) rfl rfl Try.func46 (by kernel_rfl) rfl #[.int .i64 1, .int .i64 0, .int .i64 5] rfl (by (try simp only [List.map_toArray, List.map_cons, List.map_nil]); first | done | rfl) ?_; (with_reducible refine (impl_within.calls 1 0 5 true _ A0.out).mono ?_); rintro e w' ⟨rfl, ⟨nd, rfl⟩⟩; refine ⟨_, rfl, ?_⟩))
  go_ret
  exact ⟨by first | rfl | (simp; done) | (simp [*]; done), by repeat (first | exact Drawn0.refl _ | apply Drawn0.step)⟩
set_option maxHeartbeats 8000000 in
set_option maxRecDepth 100000 in
theorem impl_StateName.at2 (w : World) :
    Calls Try.prog 18 #[.int .i64 2] w fun e w' => e = .returned (.string ⟨#[99, 111, 110, 102, 105, 103]⟩) ∧ Drawn0 w w' := by
  have A0 := Aside0.mk (show impl_within.f 2 0 5 = some true from rfl)
  have hi : ∀ w, (Instr.index 58 (.agg #[.string ⟨#[100, 101, 116, 101, 99, 116]⟩, .string ⟨#[112, 111, 108, 108, 105, 110, 103]⟩, .string ⟨#[99, 111, 110, 102, 105, 103]⟩, .string ⟨#[97, 99, 116, 105, 118, 101]⟩, .string ⟨#[114, 101, 99, 111, 118, 101, 114, 121]⟩, .string ⟨#[100, 105, 115, 97, 98, 108, 101, 100]⟩]) (.int .i64 2)).run Try.prog w = .ok (.string ⟨#[99, 111, 110, 102, 105, 103]⟩) w := fun _ => by kernel_rfl
  go_enter Try.func18, Try.ntmps18
  go_wp2_with (first | ((with_reducible refine gate_callee (f := 46) rfl ?_); refine goesL_ (some 4) rfl rfl Try.func46 (by kernel_rfl) rfl #[.int .i64 2, .int .i64 0, .int .i64 5] rfl (by (try simp only [List.map_toArray, List.map_cons, List.map_nil]); first | done | rfl) ?_; (with_reducible refine (impl_within.calls 2 0 5 true _ A0.out).mono ?_); rintro e w' ⟨rfl, ⟨nd, rfl⟩⟩; refine ⟨_, rfl, ?_⟩))
  go_ret
  exact ⟨by first | rfl | (simp; done) | (simp [*]; done), by repeat (first | exact Drawn0.refl _ | apply Drawn0.step)⟩
set_option maxHeartbeats 8000000 in
set_option maxRecDepth 100000 in
theorem impl_StateName.at3 (w : World) :
    Calls Try.prog 18 #[.int .i64 3] w fun e w' => e = .returned (.string ⟨#[97, 99, 116, 105, 118, 101]⟩) ∧ Drawn0 w w' := by
  have A0 := Aside0.mk (show impl_within.f 3 0 5 = some true from rfl)
  have hi : ∀ w, (Instr.index 58 (.agg #[.string ⟨#[100, 101, 116, 101, 99, 116]⟩, .string ⟨#[112, 111, 108, 108, 105, 110, 103]⟩, .string ⟨#[99, 111, 110, 102, 105, 103]⟩, .string ⟨#[97, 99, 116, 105, 118, 101]⟩, .string ⟨#[114, 101, 99, 111, 118, 101, 114, 121]⟩, .string ⟨#[100, 105, 115, 97, 98, 108, 101, 100]⟩]) (.int .i64 3)).run Try.prog w = .ok (.string ⟨#[97, 99, 116, 105, 118, 101]⟩) w := fun _ => by kernel_rfl
  go_enter Try.func18, Try.ntmps18
  go_wp2_with (first | ((with_reducible refine gate_callee (f := 46) rfl ?_); refine goesL_ (some 4) rfl rfl Try.func46 (by kernel_rfl) rfl #[.int .i64 3, .int .i64 0, .int .i64 5] rfl (by (try simp only [List.map_toArray, List.map_cons, List.map_nil]); first | done | rfl) ?_; (with_reducible refine (impl_within.calls 3 0 5 true _ A0.out).mono ?_); rintro e w' ⟨rfl, ⟨nd, rfl⟩⟩; refine ⟨_, rfl, ?_⟩))
  go_ret
  exact ⟨by first | rfl | (simp; done) | (simp [*]; done), by repeat (first | exact Drawn0.refl _ | apply Drawn0.step)⟩
set_option maxHeartbeats 8000000 in
set_option maxRecDepth 100000 in
theorem impl_StateName.at4 (w : World) :
    Calls Try.prog 18 #[.int .i64 4] w fun e w' => e = .returned (.string ⟨#[114, 101, 99, 111, 118, 101, 114, 121]⟩) ∧ Drawn0 w w' := by
  have A0 := Aside0.mk (show impl_within.f 4 0 5 = some true from rfl)
  have hi : ∀ w, (Instr.index 58 (.agg #[.string ⟨#[100, 101, 116, 101, 99, 116]⟩, .string ⟨#[112, 111, 108, 108, 105, 110, 103]⟩, .string ⟨#[99, 111, 110, 102, 105, 103]⟩, .string ⟨#[97, 99, 116, 105, 118, 101]⟩, .string ⟨#[114, 101, 99, 111, 118, 101, 114, 121]⟩, .string ⟨#[100, 105, 115, 97, 98, 108, 101, 100]⟩]) (.int .i64 4)).run Try.prog w = .ok (.string ⟨#[114, 101, 99, 111, 118, 101, 114, 121]⟩) w := fun _ => by kernel_rfl
  go_enter Try.func18, Try.ntmps18
  go_wp2_with (first | ((with_reducible refine gate_callee (f := 46) rfl ?_); refine goesL_ (some 4) rfl rfl Try.func46 (by kernel_rfl) rfl #[.int .i64 4, .int .i64 0, .int .i64 5] rfl (by (try simp only [List.map_toArray, List.map_cons, List.map_nil]); first | done | rfl) ?_; (with_reducible refine (impl_within.calls 4 0 5 true _ A0.out).mono ?_); rintro e w' ⟨rfl, ⟨nd, rfl⟩⟩; refine ⟨_, rfl, ?_⟩))
  go_ret
  exact ⟨by first | rfl | (simp; done) | (simp [*]; done), by repeat (first | exact Drawn0.refl _ | apply Drawn0.step)⟩
set_option maxHeartbeats 8000000 in
set_option maxRecDepth 100000 in
theorem impl_StateName.at5 (w : World) :
    Calls Try.prog 18 #[.int .i64 5] w fun e w' => e = .returned (.string ⟨#[100, 105, 115, 97, 98, 108, 101, 100]⟩) ∧ Drawn0 w w' := by
  have A0 := Aside0.mk (show impl_within.f 5 0 5 = some true from rfl)
  have hi : ∀ w, (Instr.index 58 (.agg #[.string ⟨#[100, 101, 116, 101, 99, 116]⟩, .string ⟨#[112, 111, 108, 108, 105, 110, 103]⟩, .string ⟨#[99, 111, 110, 102, 105, 103]⟩, .string ⟨#[97, 99, 116, 105, 118, 101]⟩, .string ⟨#[114, 101, 99, 111, 118, 101, 114, 121]⟩, .string ⟨#[100, 105, 115, 97, 98, 108, 101, 100]⟩]) (.int .i64 5)).run Try.prog w = .ok (.string ⟨#[100, 105, 115, 97, 98, 108, 101, 100]⟩) w := fun _ => by kernel_rfl
  go_enter Try.func18, Try.ntmps18
  go_wp2_with (first | ((with_reducible refine gate_callee (f := 46) rfl ?_); refine goesL_ (some 4) rfl rfl Try.func46 (by kernel_rfl) rfl #[.int .i64 5, .int .i64 0, .int .i64 5] rfl (by (try simp only [List.map_toArray, List.map_cons, List.map_nil]); first | done | rfl) ?_; (with_reducible refine (impl_within.calls 5 0 5 true _ A0.out).mono ?_); rintro e w' ⟨rfl, ⟨nd, rfl⟩⟩; refine ⟨_, rfl, ?_⟩))
  go_ret
  exact ⟨by first | rfl | (simp; done) | (simp [*]; done), by repeat (first | exact Drawn0.refl _ | apply Drawn0.step)⟩
set_option maxHeartbeats 8000000 in
set_option maxRecDepth 100000 in
theorem impl_StateName.out (a0 : Int) (A0 : Aside0 (impl_within.f a0 0 5 = some false)) (w : World) :
    Calls Try.prog 18 #[.int .i64 a0] w fun e w' => e = .returned (.string ⟨#[]⟩) ∧ Drawn0 w w' := by
  go_enter Try.func18, Try.ntmps18
  go_wp2_with (first | ((with_reducible refine gate_callee (f := 46) rfl ?_); refine goesL_ (some 4) rfl rfl Try.func46 (by kernel_rfl) rfl #[.int .i64 a0, .int .i64 0, .int .i64 5] rfl (by (try simp only [List.map_toArray, List.map_cons, List.map_nil]); first | done | rfl) ?_; (with_reducible refine (impl_within.calls a0 0 5 false _ A0.out).mono ?_); rintro e w' ⟨rfl, ⟨nd, rfl⟩⟩; refine ⟨_, rfl, ?_⟩))
  go_ret
  exact ⟨by first | rfl | (simp; done) | (simp [*]; done), by repeat (first | exact Drawn0.refl _ | apply Drawn0.step)⟩
theorem impl_StateName.calls (a0 : Int) (r : ByteArray) (w : World) (h : impl_StateName.f a0 = some r) :
    Calls Try.prog 18 #[.int .i64 a0] w fun e w' => e = .returned (.string r) ∧ Drawn0 w w' := by
  unfold impl_StateName.f at h
  by_cases c0 : a0 = 0
  · rw [if_pos c0] at h; obtain rfl := Option.some.inj h; subst c0; exact impl_StateName.at0 w
  rw [if_neg c0] at h
  by_cases c1 : a0 = 1
  · rw [if_pos c1] at h; obtain rfl := Option.some.inj h; subst c1; exact impl_StateName.at1 w
  rw [if_neg c1] at h
  by_cases c2 : a0 = 2
  · rw [if_pos c2] at h; obtain rfl := Option.some.inj h; subst c2; exact impl_StateName.at2 w
  rw [if_neg c2] at h
  by_cases c3 : a0 = 3
  · rw [if_pos c3] at h; obtain rfl := Option.some.inj h; subst c3; exact impl_StateName.at3 w
  rw [if_neg c3] at h
  by_cases c4 : a0 = 4
  · rw [if_pos c4] at h; obtain rfl := Option.some.inj h; subst c4; exact impl_StateName.at4 w
  rw [if_neg c4] at h
  by_cases c5 : a0 = 5
  · rw [if_pos c5] at h; obtain rfl := Option.some.inj h; subst c5; exact impl_StateName.at5 w
  rw [if_neg c5] at h
  obtain rfl := Option.some.inj h
  refine impl_StateName.out a0 ⟨?_⟩ w
  unfold impl_within.f
  by_cases h1 : a0 ≥ 0
  · rw [if_pos h1, decide_eq_false (by omega)]
  · rw [if_neg h1]

/-! ### laws_FnExactStateName: function 4 -/
def laws_FnExactStateName.f (a0 : Int) : Option (Bool) := (spec_StateName.f a0).bind fun t106 => ((impl_StateName.f a0).bind fun t107 => (if t107.toList = t106.toList then (some true) else (some false)))
set_option maxHeartbeats 8000000 in
set_option maxRecDepth 100000 in
theorem laws_FnExactStateName.calls (a0 : Int) (r : Bool) (w : World) (hrt : Aside0 (r = true)) (h : laws_FnExactStateName.f a0 = some r) :
    Calls Try.prog 4 #[.int .i64 a0] w fun e w' => e = .returned (.bool r) ∧ Below w.heap.size w w' := by
  have HB := Aside0.mk (Below.refl w.heap.size w)
  have H : ((spec_StateName.f a0).bind fun t106 => ((impl_StateName.f a0).bind fun t107 => (if t107.toList = t106.toList then (some true) else (some false)))) = some r := h
  clear h
  replace H := Option.bind_eq_some_iff.mp H
  obtain ⟨t106, A20, H⟩ := H
  replace H : ((impl_StateName.f a0).bind fun t107 => (if t107.toList = t106.toList then (some true) else (some false))) = some r := H
  have A2 := Aside0.mk A20
  clear A20
  replace H := Option.bind_eq_some_iff.mp H
  obtain ⟨t107, A30, H⟩ := H
  replace H : (if t107.toList = t106.toList then (some true) else (some false)) = some r := H
  have A3 := Aside0.mk A30
  clear A30
  by_cases c4 : t107.toList = t106.toList
  · rw [if_pos c4] at H
    have c4b0 : (t107.toList == t106.toList) = true := beq_iff_eq.mpr c4
    have c4b1 : (t107.toList != t106.toList) = false := bne_eq_false_iff_eq.mpr c4
    clear c4
    obtain rfl := Option.some.inj H
    go_enter Try.func4, Try.ntmps4
    go_wp2_with (first | ((with_reducible refine gate_callee (f := 17) rfl ?_); refine goesL_ (some 6) rfl rfl Try.func17 (by kernel_rfl) rfl #[.int .i64 a0] rfl (by (try simp only [List.map_toArray, List.map_cons, List.map_nil]); first | done | rfl | (simp only [List.length_drop, List.length_take]; rfl)) ?_; (with_reducible refine (spec_StateName.calls a0 t106 _ A2.out).mono ?_); rintro e w5 ⟨rfl, hb⟩; refine ⟨_, rfl, ?_⟩; have n0_ := Aside0.mk (below_step (by repeat (first | (with_reducible first | exact HB.out | apply below_alloc | apply pw_below_drewN | apply below_drew1) | exact HB.out)) hb); clear HB; have HB := n0_; clear n0_; (try clear hb); (try clear hb2); (try clear hk); (try clear hi)) | ((with_reducible refine gate_callee (f := 18) rfl ?_); refine goesL_ (some 8) rfl rfl Try.func18 (by kernel_rfl) rfl #[.int .i64 a0] rfl (by (try simp only [List.map_toArray, List.map_cons, List.map_nil]); first | done | rfl | (simp only [List.length_drop, List.length_take]; rfl)) ?_; (with_reducible refine (impl_StateName.calls a0 t107 _ A3.out).mono ?_); rintro e w' ⟨rfl, ⟨nd, rfl⟩⟩; refine ⟨_, rfl, ?_⟩))
    go_ret
    exact ⟨by first | rfl | (simp [errW_none, errW_some] <;> rfl) | (simp [*, errW_none, errW_some] <;> rfl), by repeat (first | (with_reducible first | exact HB.out | apply below_alloc | apply pw_below_drewN | apply below_drew1) | exact HB.out)⟩
  · rw [if_neg c4] at H
    have c4b0 : (t107.toList == t106.toList) = false := beq_eq_false_iff_ne.mpr c4
    have c4b1 : (t107.toList != t106.toList) = true := bne_iff_ne.mpr c4
    exact absurd (H.trans (congrArg some hrt.out)) (by simp)

/-- THE ONE PURE STATEMENT of laws_FnExactStateName: yours. -/
def laws_FnExactStateName.Pure : Prop := ∀ (a0 : Int), (Lit.int .i64 a0).wf = true → laws_FnExactStateName.f a0 = some true
theorem laws_FnExactStateName.walk (P : laws_FnExactStateName.Pure) (a0 : Int) (w : World) (w0 : (Lit.int .i64 a0).wf = true) :
    Calls Try.prog 4 #[.int .i64 a0] w fun e w' => e = .returned (.bool true) ∧ Below w.heap.size w w' := by
  have h := P a0 w0
  refine (laws_FnExactStateName.calls a0 true w ⟨rfl⟩ h).mono ?_
  rintro e w' ⟨rfl, hd⟩
  exact ⟨rfl, hd⟩

end Go.Proofs.Ytkncnleibofkbaa.PFnExactStateName
