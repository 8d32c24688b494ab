-- Written by a program of this session (wip/xp): not trusted, Lean checks it.
import Derived.Test.YtojipnenoiiadaaPFnScramblesx0
import Derived.Test.YtojipnenoiiadaaPFnScramblesx1
import Derived.Test.YtojipnenoiiadaaPFnScramblesx4
import Derived.Test.YtojipnenoiiadaaPFnScramblesx6
namespace Go.Proofs.Ytojipnenoiiadaa.PFnScrambles
open Go.RowKit Go.Proofs.YtojipnenoiiadaaW.PrintWords Go.Proofs.YtojipnenoiiadaaW.PrintLast Go.Proofs.YtojipnenoiiadaaW.PrintMore
attribute [local go_sem] max2_int min2_int max_two min_two max_three min_three max_four min_four   -- for this text's walks alone
set_option linter.unusedVariables false
set_option linter.unusedSimpArgs false

/-! ### impl_PeriodOf: function 39 -/
def impl_PeriodOf.l0 : Nat → Int → Int → Int → Option (Int)
  | 0, _, _, _ => none
  | k + 1, x0, x3, x4 => if x4 = x0 then (some x3) else (if x3 ≤ 1000 then ((impl_NextState.f x4).bind fun t328 => (impl_PeriodOf.l0 k x0 (wrap64 (x3 + 1)) t328)) else (some x3))
def impl_PeriodOf.f (k : Nat) (a0 : Int) : Option (Int) := (impl_isState.f a0).bind fun t326 => (if t326 = true then ((impl_NextState.f a0).bind fun t327 => (impl_PeriodOf.l0 k a0 1 t327)) else (some 0))
theorem impl_PeriodOf.mono_l : ∀ k, (∀ y0 y1 y2, LeO (impl_PeriodOf.l0 k y0 y1 y2) (impl_PeriodOf.l0 (k + 1) y0 y1 y2))
  | 0 => fun _ _ _ r h => by simp [impl_PeriodOf.l0] at h
  | k + 1 => by
    have ih0 := impl_PeriodOf.mono_l k
    · intro y0 y1 y2
      unfold impl_PeriodOf.l0
      repeat' first
      | (with_reducible exact ih0 _ _ _)
      | (with_reducible exact LeO.refl _)
      | (with_reducible exact LeO.none _)
      | (with_reducible refine LeO.ite ?_ ?_)
      | (with_reducible refine LeO.bind ?_ (fun _ => ?_))
      | exact ih0 _ _ _
      | exact LeO.none _
      | refine LeO.ite ?_ ?_
      | refine LeO.bind ?_ (fun _ => ?_)
theorem impl_PeriodOf.mono : ∀ a0 k, LeO (impl_PeriodOf.f k a0) (impl_PeriodOf.f (k + 1) a0) := by
  intro a0 k
  have ih0 := impl_PeriodOf.mono_l k
  unfold impl_PeriodOf.f
  repeat' first
      | (with_reducible exact ih0 _ _ _)
      | (with_reducible exact LeO.refl _)
      | (with_reducible exact LeO.none _)
      | (with_reducible refine LeO.ite ?_ ?_)
      | (with_reducible refine LeO.bind ?_ (fun _ => ?_))
      | exact ih0 _ _ _
      | exact LeO.none _
      | refine LeO.ite ?_ ?_
      | refine LeO.bind ?_ (fun _ => ?_)
set_option maxHeartbeats 8000000 in
set_option maxRecDepth 100000 in
theorem impl_PeriodOf.calls (k : Nat) (a0 : Int) (r : Int) (w : World) (h : impl_PeriodOf.f k a0 = some r) :
    Calls Try.prog 39 #[.int .i64 a0] w fun e w' => e = .returned (.int .i64 r) ∧ Drawn0 w w' := by
  have H : ((impl_isState.f a0).bind fun t326 => (if t326 = true then ((impl_NextState.f a0).bind fun t327 => (impl_PeriodOf.l0 k a0 1 t327)) else (some 0))) = some r := h
  clear h
  replace H := Option.bind_eq_some_iff.mp H
  obtain ⟨t326, A20, H⟩ := H
  replace H : (if t326 = true then ((impl_NextState.f a0).bind fun t327 => (impl_PeriodOf.l0 k a0 1 t327)) else (some 0)) = some r := H
  have A2 := Aside0.mk A20
  clear A20
  by_cases c3 : t326 = true
  · subst c3
    have H1 : ((impl_NextState.f a0).bind fun t327 => (impl_PeriodOf.l0 k a0 1 t327)) = some r := by rw [if_pos rfl] at H; exact H
    clear H
    have H := H1
    clear H1
    replace H := Option.bind_eq_some_iff.mp H
    obtain ⟨t327, A40, H⟩ := H
    replace H : (impl_PeriodOf.l0 k a0 1 t327) = some r := H
    have A4 := Aside0.mk A40
    clear A40
    have H' := Aside0.mk H
    clear H
    go_enter Try.func39, Try.ntmps39
    go_wp2_with (first | ((with_reducible refine gate_callee (f := 86) rfl ?_); refine goesL_ (some 6) rfl rfl Try.func86 (by kernel_rfl) rfl #[.int .i64 a0] rfl (by (try simp only [List.map_toArray, List.map_cons, List.map_nil]); first | done | rfl | (simp only [List.length_drop, List.length_take]; rfl)) ?_; (with_reducible refine (impl_isState.calls a0 true _ A2.out).mono ?_); rintro e w' ⟨rfl, ⟨nd, rfl⟩⟩; refine ⟨_, rfl, ?_⟩) | ((with_reducible refine gate_callee (f := 41) rfl ?_); refine goesL_ (some 9) rfl rfl Try.func41 (by kernel_rfl) rfl #[.int .i64 a0] rfl (by (try simp only [List.map_toArray, List.map_cons, List.map_nil]); first | done | rfl | (simp only [List.length_drop, List.length_take]; rfl)) ?_; (with_reducible refine (impl_NextState.calls a0 t327 _ A4.out).mono ?_); rintro e w' ⟨rfl, ⟨nd, rfl⟩⟩; refine ⟨_, rfl, ?_⟩))
    go_loopg [3, 4] k (fun kq v3 v4 w' => ∃ (x3_1 : Int) (x4_1 : Int), v3 = .int .i64 x3_1 ∧ v4 = .int .i64 x4_1 ∧ Aside0 (impl_PeriodOf.l0 kq a0 x3_1 x4_1 = some r) ∧ Aside0 (kq ≤ k) ∧ Drawn0 w w')
    case atStart => exact ⟨(1), (t327), (by first | rfl | (simp; done) | (simp [*]; done)), (by first | rfl | (simp; done) | (simp [*]; done)), H', ⟨Nat.le_refl _⟩, by repeat (first | exact Drawn0.refl _ | apply Drawn0.step)⟩
    case round =>
      clear H'
      try clear p2
      try clear c3
      try clear c4
      obtain ⟨x3_1, x4_1, rfl, rfl, HA, HK1, ⟨m1, rfl⟩⟩ := hrel
      cases gk with
      | zero => exact absurd HA.out (by simp [impl_PeriodOf.l0])
      | succ k1 =>
        have H := HA.out
        clear HA
        simp only [impl_PeriodOf.l0] at H
        by_cases c5 : x4_1 = a0
        · rw [if_pos c5] at H
          have c5b0 : (x4_1 == a0) = true := beq_iff_eq.mpr c5
          have c5b1 : (x4_1 != a0) = false := bne_eq_false_iff_eq.mpr c5
          clear c5
          obtain rfl := Option.some.inj H
          go_wp2
          go_ret
          exact ⟨by first | rfl | (simp; done) | (simp [*]; done), by repeat (first | exact Drawn0.refl _ | apply Drawn0.step)⟩
        · rw [if_neg c5] at H
          have c5b0 : (x4_1 == a0) = false := beq_eq_false_iff_ne.mpr c5
          have c5b1 : (x4_1 != a0) = true := bne_iff_ne.mpr c5
          by_cases c6 : x3_1 ≤ 1000
          · rw [if_pos c6] at H
            have c6b0 : decide (x3_1 ≤ 1000) = true := decide_eq_true c6
            clear c6
            replace H := Option.bind_eq_some_iff.mp H
            obtain ⟨t328, A70, H⟩ := H
            replace H : (impl_PeriodOf.l0 k1 a0 (wrap64 (x3_1 + 1)) t328) = some r := H
            have A7 := Aside0.mk A70
            clear A70
            have H' := Aside0.mk H
            clear H
            go_wp2_with (first | ((with_reducible refine gate_callee (f := 41) rfl ?_); refine goesL_ (some 18) rfl rfl Try.func41 (by kernel_rfl) rfl #[.int .i64 x4_1] rfl (by (try simp only [List.map_toArray, List.map_cons, List.map_nil]); first | done | rfl | (simp only [List.length_drop, List.length_take]; rfl)) ?_; (with_reducible refine (impl_NextState.calls x4_1 t328 _ A7.out).mono ?_); rintro e w' ⟨rfl, ⟨nd, rfl⟩⟩; refine ⟨_, rfl, ?_⟩))
            go_roundg k1
            case measure => have := HK1.out; omega
            case rel => exact ⟨(wrap64 (x3_1 + 1)), (t328), (by first | rfl | (simp; done) | (simp [*]; done)), (by first | rfl | (simp; done) | (simp [*]; done)), H', ⟨by have := HK1.out; omega⟩, by repeat (first | exact Drawn0.refl _ | apply Drawn0.step)⟩
          · rw [if_neg c6] at H
            have c6b0 : decide (x3_1 ≤ 1000) = false := decide_eq_false c6
            clear c6
            obtain rfl := Option.some.inj H
            go_wp2
            go_ret
            exact ⟨by first | rfl | (simp; done) | (simp [*]; done), by repeat (first | exact Drawn0.refl _ | apply Drawn0.step)⟩
  · replace c3 := Bool.eq_false_iff.mpr c3
    subst c3
    have H1 : (some 0) = some r := by rw [if_neg (show ¬ (false = true) by decide)] at H; exact H
    clear H
    have H := H1
    clear H1
    obtain rfl := Option.some.inj H
    go_enter Try.func39, Try.ntmps39
    go_wp2_with (first | ((with_reducible refine gate_callee (f := 86) rfl ?_); refine goesL_ (some 6) rfl rfl Try.func86 (by kernel_rfl) rfl #[.int .i64 a0] rfl (by (try simp only [List.map_toArray, List.map_cons, List.map_nil]); first | done | rfl | (simp only [List.length_drop, List.length_take]; rfl)) ?_; (with_reducible refine (impl_isState.calls a0 false _ A2.out).mono ?_); rintro e w' ⟨rfl, ⟨nd, rfl⟩⟩; refine ⟨_, rfl, ?_⟩))
    go_ret
    exact ⟨by first | rfl | (simp; done) | (simp [*]; done), by repeat (first | exact Drawn0.refl _ | apply Drawn0.step)⟩

/-! ### impl_StateAfter: function 40 -/
mutual
def impl_StateAfter.j0 : Nat → Int → Int → Bool → Option (Int)
  | 0, _, _, _ => none
  | k + 1, x0, x1, x12 => if x12 = true then (some 0) else (impl_StateAfter.l0 k x0 x1 0)
def impl_StateAfter.l0 : Nat → Int → Int → Int → Option (Int)
  | 0, _, _, _ => none
  | k + 1, x0, x13, x14 => if x14 < x13 then ((impl_NextState.f x0).bind fun t331 => (impl_StateAfter.l0 k t331 x13 (wrap64 (x14 + 1)))) else (some x0)
end
def impl_StateAfter.f (k : Nat) (a0 : Int) (a1 : Int) : Option (Int) := (impl_isState.f a0).bind fun t329 => (if t329 = true then ((impl_within.f a1 0 1000).bind fun t330 => (impl_StateAfter.j0 k a0 a1 (!t330))) else (impl_StateAfter.j0 k a0 a1 true))
theorem impl_StateAfter.mono_l : ∀ k, (∀ y0 y1 y2, LeO (impl_StateAfter.j0 k y0 y1 y2) (impl_StateAfter.j0 (k + 1) y0 y1 y2)) ∧ (∀ y0 y1 y2, LeO (impl_StateAfter.l0 k y0 y1 y2) (impl_StateAfter.l0 (k + 1) y0 y1 y2))
  | 0 => ⟨fun _ _ _ r h => by simp [impl_StateAfter.j0] at h, fun _ _ _ r h => by simp [impl_StateAfter.l0] at h⟩
  | k + 1 => by
    obtain ⟨ih0, ih1⟩ := impl_StateAfter.mono_l k
    refine ⟨?_, ?_⟩
    · intro y0 y1 y2
      unfold impl_StateAfter.j0
      repeat' first
      | (with_reducible exact ih0 _ _ _)
      | (with_reducible exact ih1 _ _ _)
      | (with_reducible exact LeO.refl _)
      | (with_reducible exact LeO.none _)
      | (with_reducible refine LeO.ite ?_ ?_)
      | (with_reducible refine LeO.bind ?_ (fun _ => ?_))
      | exact ih0 _ _ _
      | exact ih1 _ _ _
      | exact LeO.none _
      | refine LeO.ite ?_ ?_
      | refine LeO.bind ?_ (fun _ => ?_)
    · intro y0 y1 y2
      unfold impl_StateAfter.l0
      repeat' first
      | (with_reducible exact ih0 _ _ _)
      | (with_reducible exact ih1 _ _ _)
      | (with_reducible exact LeO.refl _)
      | (with_reducible exact LeO.none _)
      | (with_reducible refine LeO.ite ?_ ?_)
      | (with_reducible refine LeO.bind ?_ (fun _ => ?_))
      | exact ih0 _ _ _
      | exact ih1 _ _ _
      | exact LeO.none _
      | refine LeO.ite ?_ ?_
      | refine LeO.bind ?_ (fun _ => ?_)
theorem impl_StateAfter.mono : ∀ a0 a1 k, LeO (impl_StateAfter.f k a0 a1) (impl_StateAfter.f (k + 1) a0 a1) := by
  intro a0 a1 k
  obtain ⟨ih0, ih1⟩ := impl_StateAfter.mono_l k
  unfold impl_StateAfter.f
  repeat' first
      | (with_reducible exact ih0 _ _ _)
      | (with_reducible exact ih1 _ _ _)
      | (with_reducible exact LeO.refl _)
      | (with_reducible exact LeO.none _)
      | (with_reducible refine LeO.ite ?_ ?_)
      | (with_reducible refine LeO.bind ?_ (fun _ => ?_))
      | exact ih0 _ _ _
      | exact ih1 _ _ _
      | exact LeO.none _
      | refine LeO.ite ?_ ?_
      | refine LeO.bind ?_ (fun _ => ?_)
set_option maxHeartbeats 8000000 in
set_option maxRecDepth 100000 in
theorem impl_StateAfter.calls (k : Nat) (a0 : Int) (a1 : Int) (r : Int) (w : World) (h : impl_StateAfter.f k a0 a1 = some r) :
    Calls Try.prog 40 #[.int .i64 a0, .int .i64 a1] w fun e w' => e = .returned (.int .i64 r) ∧ Drawn0 w w' := by
  have H : ((impl_isState.f a0).bind fun t329 => (if t329 = true then ((impl_within.f a1 0 1000).bind fun t330 => (impl_StateAfter.j0 k a0 a1 (!t330))) else (impl_StateAfter.j0 k a0 a1 true))) = some r := h
  clear h
  have HC3 := Aside0.mk H
  clear H
  go_enter Try.func40, Try.ntmps40
  go_upto_region 1 with (fail)
  go_cut [12] (fun v12 wc => ∃ (kq : Nat) (x12_2 : Bool), v12 = .bool x12_2 ∧ Aside0 (impl_StateAfter.j0 kq a0 a1 x12_2 = some r) ∧ Aside0 (kq ≤ k) ∧ Drawn0 w wc)
  case first =>
    have H := HC3.out
    clear HC3
    replace H := Option.bind_eq_some_iff.mp H
    obtain ⟨t329, A40, H⟩ := H
    replace H : (if t329 = true then ((impl_within.f a1 0 1000).bind fun t330 => (impl_StateAfter.j0 k a0 a1 (!t330))) else (impl_StateAfter.j0 k a0 a1 true)) = some r := H
    have A4 := Aside0.mk A40
    clear A40
    by_cases c5 : t329 = true
    · subst c5
      have H1 : ((impl_within.f a1 0 1000).bind fun t330 => (impl_StateAfter.j0 k a0 a1 (!t330))) = some r := by rw [if_pos rfl] at H; exact H
      clear H
      have H := H1
      clear H1
      replace H := Option.bind_eq_some_iff.mp H
      obtain ⟨t330, A60, H⟩ := H
      replace H : (impl_StateAfter.j0 k a0 a1 (!t330)) = some r := H
      have A6 := Aside0.mk A60
      clear A60
      have H' := Aside0.mk H
      clear H
      go_wp2_with (first | ((with_reducible refine gate_callee (f := 86) rfl ?_); refine goesL_ (some 6) rfl rfl Try.func86 (by kernel_rfl) rfl #[.int .i64 a0] rfl (by (try simp only [List.map_toArray, List.map_cons, List.map_nil]); first | done | rfl | (simp only [List.length_drop, List.length_take]; rfl)) ?_; (with_reducible refine (impl_isState.calls a0 true _ A4.out).mono ?_); rintro e w' ⟨rfl, ⟨nd, rfl⟩⟩; refine ⟨_, rfl, ?_⟩) | (go_at_call 59; (with_reducible refine (impl_within.calls a1 0 1000 t330 _ A6.out).mono ?_); rintro e w' ⟨rfl, ⟨nd, rfl⟩⟩))
      go_meet
      case rel => exact ⟨_, (!t330), (by first | rfl | (simp; done) | (simp [*]; done)), H', ⟨by first | omega | exact Nat.le_refl _⟩, by repeat (first | exact Drawn0.refl _ | apply Drawn0.step)⟩
    · replace c5 := Bool.eq_false_iff.mpr c5
      subst c5
      have H1 : (impl_StateAfter.j0 k a0 a1 true) = some r := by rw [if_neg (show ¬ (false = true) by decide)] at H; exact H
      clear H
      have H := H1
      clear H1
      have H' := Aside0.mk H
      clear H
      go_wp2_with (first | ((with_reducible refine gate_callee (f := 86) rfl ?_); refine goesL_ (some 6) rfl rfl Try.func86 (by kernel_rfl) rfl #[.int .i64 a0] rfl (by (try simp only [List.map_toArray, List.map_cons, List.map_nil]); first | done | rfl | (simp only [List.length_drop, List.length_take]; rfl)) ?_; (with_reducible refine (impl_isState.calls a0 false _ A4.out).mono ?_); rintro e w' ⟨rfl, ⟨nd, rfl⟩⟩; refine ⟨_, rfl, ?_⟩))
      go_meet
      case rel => exact ⟨_, (true), (by first | rfl | (simp; done) | (simp [*]; done)), H', ⟨by first | omega | exact Nat.le_refl _⟩, by repeat (first | exact Drawn0.refl _ | apply Drawn0.step)⟩
  case rest =>
    clear HC3
    try clear p2
    try clear c4
    try clear c5
    obtain ⟨kq, x12_2, rfl, HA, HJ2, ⟨mc2, rfl⟩⟩ := hcut
    cases kq with
    | zero => exact absurd HA.out (by simp [impl_StateAfter.j0])
    | succ kj2 =>
      have H := HA.out
      clear HA
      simp only [impl_StateAfter.j0] at H
      by_cases c7 : x12_2 = true
      · subst c7
        have H1 : (some 0) = some r := by rw [if_pos rfl] at H; exact H
        clear H
        have H := H1
        clear H1
        obtain rfl := Option.some.inj H
        go_wp2
        go_ret
        exact ⟨by first | rfl | (simp; done) | (simp [*]; done), by repeat (first | exact Drawn0.refl _ | apply Drawn0.step)⟩
      · replace c7 := Bool.eq_false_iff.mpr c7
        subst c7
        have H1 : (impl_StateAfter.l0 kj2 a0 a1 0) = some r := by rw [if_neg (show ¬ (false = true) by decide)] at H; exact H
        clear H
        have H := H1
        clear H1
        have H' := Aside0.mk H
        clear H
        go_wp2
        go_loopg [0, 14] kj2 (fun kq v0 v14 w' => ∃ (x0_2 : Int) (x14_2 : Int), v0 = .int .i64 x0_2 ∧ v14 = .int .i64 x14_2 ∧ Aside0 (impl_StateAfter.l0 kq x0_2 a1 x14_2 = some r) ∧ Aside0 (kq ≤ kj2) ∧ Drawn0 w w')
        case atStart => exact ⟨(a0), (0), (by first | rfl | (simp; done) | (simp [*]; done)), (by first | rfl | (simp; done) | (simp [*]; done)), H', ⟨Nat.le_refl _⟩, by repeat (first | exact Drawn0.refl _ | apply Drawn0.step)⟩
        case round =>
          clear H'
          try clear c2
          try clear p2
          try clear c4
          try clear c5
          try clear c7
          try clear p2
          obtain ⟨x0_2, x14_2, rfl, rfl, HA, HK2, ⟨m2, rfl⟩⟩ := hrel
          cases gk with
          | zero => exact absurd HA.out (by simp [impl_StateAfter.l0])
          | succ k2 =>
            have H := HA.out
            clear HA
            simp only [impl_StateAfter.l0] at H
            by_cases c8 : x14_2 < a1
            · rw [if_pos c8] at H
              have c8b0 : decide (x14_2 < a1) = true := decide_eq_true c8
              clear c8
              replace H := Option.bind_eq_some_iff.mp H
              obtain ⟨t331, A90, H⟩ := H
              replace H : (impl_StateAfter.l0 k2 t331 a1 (wrap64 (x14_2 + 1))) = some r := H
              have A9 := Aside0.mk A90
              clear A90
              have H' := Aside0.mk H
              clear H
              go_wp2_with (first | ((with_reducible refine gate_callee (f := 41) rfl ?_); refine goesL_ (some 17) rfl rfl Try.func41 (by kernel_rfl) rfl #[.int .i64 x0_2] rfl (by (try simp only [List.map_toArray, List.map_cons, List.map_nil]); first | done | rfl | (simp only [List.length_drop, List.length_take]; rfl)) ?_; (with_reducible refine (impl_NextState.calls x0_2 t331 _ A9.out).mono ?_); rintro e w' ⟨rfl, ⟨nd, rfl⟩⟩; refine ⟨_, rfl, ?_⟩))
              go_roundg k2
              case measure => have := HJ2.out; have := HK2.out; omega
              case rel => exact ⟨(t331), (wrap64 (x14_2 + 1)), (by first | rfl | (simp; done) | (simp [*]; done)), (by first | rfl | (simp; done) | (simp [*]; done)), H', ⟨by have := HJ2.out; have := HK2.out; omega⟩, by repeat (first | exact Drawn0.refl _ | apply Drawn0.step)⟩
            · rw [if_neg c8] at H
              have c8b0 : decide (x14_2 < a1) = false := decide_eq_false c8
              clear c8
              obtain rfl := Option.some.inj H
              go_wp2
              go_ret
              exact ⟨by first | rfl | (simp; done) | (simp [*]; done), by repeat (first | exact Drawn0.refl _ | apply Drawn0.step)⟩

/-! ### laws_FnScrambles: function 8 -/
def laws_FnScrambles.f (k : Nat) (l0 : List Int) : Option (Bool) := (laws_big.f l0).bind fun t332 => (if t332 = true then (some true) else ((spec_DrawSeed.f k l0).bind fun t333 => ((spec_DrawPacket.f k l0).bind fun bt334 => ((impl_EncodePacket.f k bt334.1 bt334.2.1 bt334.2.2.1 bt334.2.2.2.1 bt334.2.2.2.2.1 bt334.2.2.2.2.2.1 bt334.2.2.2.2.2.2.1 bt334.2.2.2.2.2.2.2).bind fun t344 => ((impl_ScrambleBytes.f k t333 t344).bind fun t347 => ((spec_DrawPlaces.f k l0).bind fun t350 => (if 0 < (t350.length : Int) then (if 1 < (t350.length : Int) then (if (t347.length : Int) = (t344.length : Int) then ((impl_ScrambleBytes.f k t333 t347).bind fun t355 => ((laws_sameInts.f k t355 t344).bind fun t358 => (if t358 = true then ((impl_PeriodOf.f k t333).bind fun t359 => (if t359 = 255 then ((impl_StateAfter.f k t333 255).bind fun t360 => (if t360 = t333 then ((impl_StateAfter.f k t333 (Int.tmod (rd t350 0) 300)).bind fun t361 => ((impl_StateAfter.f k t361 (Int.tmod (rd t350 1) 300)).bind fun t362 => ((impl_StateAfter.f k t333 (wrap64 ((Int.tmod (rd t350 0) 300) + (Int.tmod (rd t350 1) 300)))).bind fun t363 => (if t362 = t363 then ((impl_StateAfter.f k t333 1).bind fun t364 => ((impl_NextState.f t333).bind fun t365 => (some (t364 == t365)))) else (some false))))) else (some false))) else (some false))) else (some false)))) else (some false)) else (none)) else (none))))))))
theorem laws_FnScrambles.mono : ∀ a0 k, LeO (laws_FnScrambles.f k a0) (laws_FnScrambles.f (k + 1) a0) := by
  intro a0 k
  unfold laws_FnScrambles.f
  repeat' first
      | (with_reducible exact impl_EncodePacket.mono _ _ _ _ _ _ _ _ _)
      | (with_reducible exact impl_PeriodOf.mono _ _)
      | (with_reducible exact impl_ScrambleBytes.mono _ _ _)
      | (with_reducible exact impl_StateAfter.mono _ _ _)
      | (with_reducible exact laws_sameInts.mono _ _ _)
      | (with_reducible exact spec_DrawPacket.mono _ _)
      | (with_reducible exact spec_DrawPlaces.mono _ _)
      | (with_reducible exact spec_DrawSeed.mono _ _)
      | (with_reducible exact LeO.refl _)
      | (with_reducible exact LeO.none _)
      | (with_reducible refine LeO.ite ?_ ?_)
      | (with_reducible refine LeO.bind ?_ (fun _ => ?_))
      | exact impl_EncodePacket.mono _ _ _ _ _ _ _ _ _
      | exact impl_PeriodOf.mono _ _
      | exact impl_ScrambleBytes.mono _ _ _
      | exact impl_StateAfter.mono _ _ _
      | exact laws_sameInts.mono _ _ _
      | exact spec_DrawPacket.mono _ _
      | exact spec_DrawPlaces.mono _ _
      | exact spec_DrawSeed.mono _ _
      | exact LeO.none _
      | refine LeO.ite ?_ ?_
      | refine LeO.bind ?_ (fun _ => ?_)
set_option maxHeartbeats 8000000 in
set_option maxRecDepth 100000 in
theorem laws_FnScrambles.calls (k : Nat) (A0 : Option Addr) (c0 : Nat) (l0 : List Int) (r : Bool) (w : World) (hr0 : Kd.C (Kd.int .u8) w A0 l0.length l0) (hc0 : l0.length ≤ c0) (hrt : Aside0 (r = true)) (h : laws_FnScrambles.f k l0 = some r) :
    Calls Try.prog 8 #[.slice A0 l0.length c0] w fun e w' => e = .returned (.bool r) ∧ Below w.heap.size w w' := by
  have HR0 := Aside0.mk hr0
  have HC0 := Aside0.mk hc0
  clear hr0 hc0
  have HB := Aside0.mk (Below.refl w.heap.size w)
  have H : ((laws_big.f l0).bind fun t332 => (if t332 = true then (some true) else ((spec_DrawSeed.f k l0).bind fun t333 => ((spec_DrawPacket.f k l0).bind fun bt334 => ((impl_EncodePacket.f k bt334.1 bt334.2.1 bt334.2.2.1 bt334.2.2.2.1 bt334.2.2.2.2.1 bt334.2.2.2.2.2.1 bt334.2.2.2.2.2.2.1 bt334.2.2.2.2.2.2.2).bind fun t344 => ((impl_ScrambleBytes.f k t333 t344).bind fun t347 => ((spec_DrawPlaces.f k l0).bind fun t350 => (if 0 < (t350.length : Int) then (if 1 < (t350.length : Int) then (if (t347.length : Int) = (t344.length : Int) then ((impl_ScrambleBytes.f k t333 t347).bind fun t355 => ((laws_sameInts.f k t355 t344).bind fun t358 => (if t358 = true then ((impl_PeriodOf.f k t333).bind fun t359 => (if t359 = 255 then ((impl_StateAfter.f k t333 255).bind fun t360 => (if t360 = t333 then ((impl_StateAfter.f k t333 (Int.tmod (rd t350 0) 300)).bind fun t361 => ((impl_StateAfter.f k t361 (Int.tmod (rd t350 1) 300)).bind fun t362 => ((impl_StateAfter.f k t333 (wrap64 ((Int.tmod (rd t350 0) 300) + (Int.tmod (rd t350 1) 300)))).bind fun t363 => (if t362 = t363 then ((impl_StateAfter.f k t333 1).bind fun t364 => ((impl_NextState.f t333).bind fun t365 => (some (t364 == t365)))) else (some false))))) else (some false))) else (some false))) else (some false)))) else (some false)) else (none)) else (none))))))))) = some r := h
  clear h
  replace H := Option.bind_eq_some_iff.mp H
  obtain ⟨t332, A20, H⟩ := H
  replace H : (if t332 = true then (some true) else ((spec_DrawSeed.f k l0).bind fun t333 => ((spec_DrawPacket.f k l0).bind fun bt334 => ((impl_EncodePacket.f k bt334.1 bt334.2.1 bt334.2.2.1 bt334.2.2.2.1 bt334.2.2.2.2.1 bt334.2.2.2.2.2.1 bt334.2.2.2.2.2.2.1 bt334.2.2.2.2.2.2.2).bind fun t344 => ((impl_ScrambleBytes.f k t333 t344).bind fun t347 => ((spec_DrawPlaces.f k l0).bind fun t350 => (if 0 < (t350.length : Int) then (if 1 < (t350.length : Int) then (if (t347.length : Int) = (t344.length : Int) then ((impl_ScrambleBytes.f k t333 t347).bind fun t355 => ((laws_sameInts.f k t355 t344).bind fun t358 => (if t358 = true then ((impl_PeriodOf.f k t333).bind fun t359 => (if t359 = 255 then ((impl_StateAfter.f k t333 255).bind fun t360 => (if t360 = t333 then ((impl_StateAfter.f k t333 (Int.tmod (rd t350 0) 300)).bind fun t361 => ((impl_StateAfter.f k t361 (Int.tmod (rd t350 1) 300)).bind fun t362 => ((impl_StateAfter.f k t333 (wrap64 ((Int.tmod (rd t350 0) 300) + (Int.tmod (rd t350 1) 300)))).bind fun t363 => (if t362 = t363 then ((impl_StateAfter.f k t333 1).bind fun t364 => ((impl_NextState.f t333).bind fun t365 => (some (t364 == t365)))) else (some false))))) else (some false))) else (some false))) else (some false)))) else (some false)) else (none)) else (none)))))))) = some r := H
  have A2 := Aside0.mk A20
  clear A20
  by_cases c3 : t332 = true
  · subst c3
    have H1 : (some true) = some r := by rw [if_pos rfl] at H; exact H
    clear H
    have H := H1
    clear H1
    obtain rfl := Option.some.inj H
    go_enter Try.func8, Try.ntmps8
    go_wp2_with (first | ((with_reducible refine gate_callee (f := 14) rfl ?_); refine goesL_ (some 10) rfl rfl Try.func14 (by kernel_rfl) rfl #[.slice A0 l0.length c0] rfl (by (try simp only [List.map_toArray, List.map_cons, List.map_nil]); first | done | rfl | (simp only [List.length_drop, List.length_take]; rfl)) ?_; (with_reducible refine (laws_big.calls _ _ l0 true _ ?side1 ?side2 A2.out).mono ?_); (case side1 => repeat (first | exact HR0.out | (with_reducible refine Kd.C_alloc ?_ _) | (with_reducible refine Kd.C_drewN ?_ _) | (with_reducible refine Kd.C_drew ?_))); (case side2 => exact HC0.out); rintro e w' ⟨rfl, ⟨nd, rfl⟩⟩; refine ⟨_, rfl, ?_⟩))
    go_ret
    exact ⟨by first | rfl | (simp [errW_none, errW_some] <;> rfl) | (simp [*, errW_none, errW_some] <;> rfl), by repeat (first | (with_reducible first | exact HB.out | apply below_alloc | apply pw_below_drewN | apply below_drew1) | exact HB.out)⟩
  · replace c3 := Bool.eq_false_iff.mpr c3
    subst c3
    have H1 : ((spec_DrawSeed.f k l0).bind fun t333 => ((spec_DrawPacket.f k l0).bind fun bt334 => ((impl_EncodePacket.f k bt334.1 bt334.2.1 bt334.2.2.1 bt334.2.2.2.1 bt334.2.2.2.2.1 bt334.2.2.2.2.2.1 bt334.2.2.2.2.2.2.1 bt334.2.2.2.2.2.2.2).bind fun t344 => ((impl_ScrambleBytes.f k t333 t344).bind fun t347 => ((spec_DrawPlaces.f k l0).bind fun t350 => (if 0 < (t350.length : Int) then (if 1 < (t350.length : Int) then (if (t347.length : Int) = (t344.length : Int) then ((impl_ScrambleBytes.f k t333 t347).bind fun t355 => ((laws_sameInts.f k t355 t344).bind fun t358 => (if t358 = true then ((impl_PeriodOf.f k t333).bind fun t359 => (if t359 = 255 then ((impl_StateAfter.f k t333 255).bind fun t360 => (if t360 = t333 then ((impl_StateAfter.f k t333 (Int.tmod (rd t350 0) 300)).bind fun t361 => ((impl_StateAfter.f k t361 (Int.tmod (rd t350 1) 300)).bind fun t362 => ((impl_StateAfter.f k t333 (wrap64 ((Int.tmod (rd t350 0) 300) + (Int.tmod (rd t350 1) 300)))).bind fun t363 => (if t362 = t363 then ((impl_StateAfter.f k t333 1).bind fun t364 => ((impl_NextState.f t333).bind fun t365 => (some (t364 == t365)))) else (some false))))) else (some false))) else (some false))) else (some false)))) else (some false)) else (none)) else (none))))))) = some r := by rw [if_neg (show ¬ (false = true) by decide)] at H; exact H
    clear H
    have H := H1
    clear H1
    replace H := Option.bind_eq_some_iff.mp H
    obtain ⟨t333, A40, H⟩ := H
    replace H : ((spec_DrawPacket.f k l0).bind fun bt334 => ((impl_EncodePacket.f k bt334.1 bt334.2.1 bt334.2.2.1 bt334.2.2.2.1 bt334.2.2.2.2.1 bt334.2.2.2.2.2.1 bt334.2.2.2.2.2.2.1 bt334.2.2.2.2.2.2.2).bind fun t344 => ((impl_ScrambleBytes.f k t333 t344).bind fun t347 => ((spec_DrawPlaces.f k l0).bind fun t350 => (if 0 < (t350.length : Int) then (if 1 < (t350.length : Int) then (if (t347.length : Int) = (t344.length : Int) then ((impl_ScrambleBytes.f k t333 t347).bind fun t355 => ((laws_sameInts.f k t355 t344).bind fun t358 => (if t358 = true then ((impl_PeriodOf.f k t333).bind fun t359 => (if t359 = 255 then ((impl_StateAfter.f k t333 255).bind fun t360 => (if t360 = t333 then ((impl_StateAfter.f k t333 (Int.tmod (rd t350 0) 300)).bind fun t361 => ((impl_StateAfter.f k t361 (Int.tmod (rd t350 1) 300)).bind fun t362 => ((impl_StateAfter.f k t333 (wrap64 ((Int.tmod (rd t350 0) 300) + (Int.tmod (rd t350 1) 300)))).bind fun t363 => (if t362 = t363 then ((impl_StateAfter.f k t333 1).bind fun t364 => ((impl_NextState.f t333).bind fun t365 => (some (t364 == t365)))) else (some false))))) else (some false))) else (some false))) else (some false)))) else (some false)) else (none)) else (none)))))) = some r := H
    have A4 := Aside0.mk A40
    clear A40
    replace H := Option.bind_eq_some_iff.mp H
    obtain ⟨⟨t334, t335, t336, t337, t338, t339, t340, t341⟩, A50, H⟩ := H
    replace H : ((impl_EncodePacket.f k t334 t335 t336 t337 t338 t339 t340 t341).bind fun t344 => ((impl_ScrambleBytes.f k t333 t344).bind fun t347 => ((spec_DrawPlaces.f k l0).bind fun t350 => (if 0 < (t350.length : Int) then (if 1 < (t350.length : Int) then (if (t347.length : Int) = (t344.length : Int) then ((impl_ScrambleBytes.f k t333 t347).bind fun t355 => ((laws_sameInts.f k t355 t344).bind fun t358 => (if t358 = true then ((impl_PeriodOf.f k t333).bind fun t359 => (if t359 = 255 then ((impl_StateAfter.f k t333 255).bind fun t360 => (if t360 = t333 then ((impl_StateAfter.f k t333 (Int.tmod (rd t350 0) 300)).bind fun t361 => ((impl_StateAfter.f k t361 (Int.tmod (rd t350 1) 300)).bind fun t362 => ((impl_StateAfter.f k t333 (wrap64 ((Int.tmod (rd t350 0) 300) + (Int.tmod (rd t350 1) 300)))).bind fun t363 => (if t362 = t363 then ((impl_StateAfter.f k t333 1).bind fun t364 => ((impl_NextState.f t333).bind fun t365 => (some (t364 == t365)))) else (some false))))) else (some false))) else (some false))) else (some false)))) else (some false)) else (none)) else (none))))) = some r := H
    have A5 := Aside0.mk A50
    clear A50
    replace H := Option.bind_eq_some_iff.mp H
    obtain ⟨t344, A60, H⟩ := H
    replace H : ((impl_ScrambleBytes.f k t333 t344).bind fun t347 => ((spec_DrawPlaces.f k l0).bind fun t350 => (if 0 < (t350.length : Int) then (if 1 < (t350.length : Int) then (if (t347.length : Int) = (t344.length : Int) then ((impl_ScrambleBytes.f k t333 t347).bind fun t355 => ((laws_sameInts.f k t355 t344).bind fun t358 => (if t358 = true then ((impl_PeriodOf.f k t333).bind fun t359 => (if t359 = 255 then ((impl_StateAfter.f k t333 255).bind fun t360 => (if t360 = t333 then ((impl_StateAfter.f k t333 (Int.tmod (rd t350 0) 300)).bind fun t361 => ((impl_StateAfter.f k t361 (Int.tmod (rd t350 1) 300)).bind fun t362 => ((impl_StateAfter.f k t333 (wrap64 ((Int.tmod (rd t350 0) 300) + (Int.tmod (rd t350 1) 300)))).bind fun t363 => (if t362 = t363 then ((impl_StateAfter.f k t333 1).bind fun t364 => ((impl_NextState.f t333).bind fun t365 => (some (t364 == t365)))) else (some false))))) else (some false))) else (some false))) else (some false)))) else (some false)) else (none)) else (none)))) = some r := H
    have A6 := Aside0.mk A60
    clear A60
    replace H := Option.bind_eq_some_iff.mp H
    obtain ⟨t347, A70, H⟩ := H
    replace H : ((spec_DrawPlaces.f k l0).bind fun t350 => (if 0 < (t350.length : Int) then (if 1 < (t350.length : Int) then (if (t347.length : Int) = (t344.length : Int) then ((impl_ScrambleBytes.f k t333 t347).bind fun t355 => ((laws_sameInts.f k t355 t344).bind fun t358 => (if t358 = true then ((impl_PeriodOf.f k t333).bind fun t359 => (if t359 = 255 then ((impl_StateAfter.f k t333 255).bind fun t360 => (if t360 = t333 then ((impl_StateAfter.f k t333 (Int.tmod (rd t350 0) 300)).bind fun t361 => ((impl_StateAfter.f k t361 (Int.tmod (rd t350 1) 300)).bind fun t362 => ((impl_StateAfter.f k t333 (wrap64 ((Int.tmod (rd t350 0) 300) + (Int.tmod (rd t350 1) 300)))).bind fun t363 => (if t362 = t363 then ((impl_StateAfter.f k t333 1).bind fun t364 => ((impl_NextState.f t333).bind fun t365 => (some (t364 == t365)))) else (some false))))) else (some false))) else (some false))) else (some false)))) else (some false)) else (none)) else (none))) = some r := H
    have A7 := Aside0.mk A70
    clear A70
    replace H := Option.bind_eq_some_iff.mp H
    obtain ⟨t350, A80, H⟩ := H
    replace H : (if 0 < (t350.length : Int) then (if 1 < (t350.length : Int) then (if (t347.length : Int) = (t344.length : Int) then ((impl_ScrambleBytes.f k t333 t347).bind fun t355 => ((laws_sameInts.f k t355 t344).bind fun t358 => (if t358 = true then ((impl_PeriodOf.f k t333).bind fun t359 => (if t359 = 255 then ((impl_StateAfter.f k t333 255).bind fun t360 => (if t360 = t333 then ((impl_StateAfter.f k t333 (Int.tmod (rd t350 0) 300)).bind fun t361 => ((impl_StateAfter.f k t361 (Int.tmod (rd t350 1) 300)).bind fun t362 => ((impl_StateAfter.f k t333 (wrap64 ((Int.tmod (rd t350 0) 300) + (Int.tmod (rd t350 1) 300)))).bind fun t363 => (if t362 = t363 then ((impl_StateAfter.f k t333 1).bind fun t364 => ((impl_NextState.f t333).bind fun t365 => (some (t364 == t365)))) else (some false))))) else (some false))) else (some false))) else (some false)))) else (some false)) else (none)) else (none)) = some r := H
    have A8 := Aside0.mk A80
    clear A80
    by_cases c9 : 0 < (t350.length : Int)
    · rw [if_pos c9] at H
      have c9b0 : decide (0 < (t350.length : Int)) = true := decide_eq_true c9
      have c9b1 : decide (0 < t350.length) = true := decide_eq_true (by omega)
      clear c9
      by_cases c10 : 1 < (t350.length : Int)
      · rw [if_pos c10] at H
        have c10b0 : decide (1 < (t350.length : Int)) = true := decide_eq_true c10
        have c10b1 : decide (1 < t350.length) = true := decide_eq_true (by omega)
        clear c10
        by_cases c11 : (t347.length : Int) = (t344.length : Int)
        · rw [if_pos c11] at H
          have c11b0 : ((t347.length : Int) == (t344.length : Int)) = true := beq_iff_eq.mpr c11
          have c11b1 : ((t347.length : Int) != (t344.length : Int)) = false := bne_eq_false_iff_eq.mpr c11
          have c11b2 : (t347.length == t344.length) = true := by first | simpa using c11 | (simp at c11 ⊢; omega)
          clear c11
          replace H := Option.bind_eq_some_iff.mp H
          obtain ⟨t355, A120, H⟩ := H
          replace H : ((laws_sameInts.f k t355 t344).bind fun t358 => (if t358 = true then ((impl_PeriodOf.f k t333).bind fun t359 => (if t359 = 255 then ((impl_StateAfter.f k t333 255).bind fun t360 => (if t360 = t333 then ((impl_StateAfter.f k t333 (Int.tmod (rd t350 0) 300)).bind fun t361 => ((impl_StateAfter.f k t361 (Int.tmod (rd t350 1) 300)).bind fun t362 => ((impl_StateAfter.f k t333 (wrap64 ((Int.tmod (rd t350 0) 300) + (Int.tmod (rd t350 1) 300)))).bind fun t363 => (if t362 = t363 then ((impl_StateAfter.f k t333 1).bind fun t364 => ((impl_NextState.f t333).bind fun t365 => (some (t364 == t365)))) else (some false))))) else (some false))) else (some false))) else (some false))) = some r := H
          have A12 := Aside0.mk A120
          clear A120
          replace H := Option.bind_eq_some_iff.mp H
          obtain ⟨t358, A130, H⟩ := H
          replace H : (if t358 = true then ((impl_PeriodOf.f k t333).bind fun t359 => (if t359 = 255 then ((impl_StateAfter.f k t333 255).bind fun t360 => (if t360 = t333 then ((impl_StateAfter.f k t333 (Int.tmod (rd t350 0) 300)).bind fun t361 => ((impl_StateAfter.f k t361 (Int.tmod (rd t350 1) 300)).bind fun t362 => ((impl_StateAfter.f k t333 (wrap64 ((Int.tmod (rd t350 0) 300) + (Int.tmod (rd t350 1) 300)))).bind fun t363 => (if t362 = t363 then ((impl_StateAfter.f k t333 1).bind fun t364 => ((impl_NextState.f t333).bind fun t365 => (some (t364 == t365)))) else (some false))))) else (some false))) else (some false))) else (some false)) = some r := H
          have A13 := Aside0.mk A130
          clear A130
          by_cases c14 : t358 = true
          · subst c14
            have H1 : ((impl_PeriodOf.f k t333).bind fun t359 => (if t359 = 255 then ((impl_StateAfter.f k t333 255).bind fun t360 => (if t360 = t333 then ((impl_StateAfter.f k t333 (Int.tmod (rd t350 0) 300)).bind fun t361 => ((impl_StateAfter.f k t361 (Int.tmod (rd t350 1) 300)).bind fun t362 => ((impl_StateAfter.f k t333 (wrap64 ((Int.tmod (rd t350 0) 300) + (Int.tmod (rd t350 1) 300)))).bind fun t363 => (if t362 = t363 then ((impl_StateAfter.f k t333 1).bind fun t364 => ((impl_NextState.f t333).bind fun t365 => (some (t364 == t365)))) else (some false))))) else (some false))) else (some false))) = some r := by rw [if_pos rfl] at H; exact H
            clear H
            have H := H1
            clear H1
            replace H := Option.bind_eq_some_iff.mp H
            obtain ⟨t359, A150, H⟩ := H
            replace H : (if t359 = 255 then ((impl_StateAfter.f k t333 255).bind fun t360 => (if t360 = t333 then ((impl_StateAfter.f k t333 (Int.tmod (rd t350 0) 300)).bind fun t361 => ((impl_StateAfter.f k t361 (Int.tmod (rd t350 1) 300)).bind fun t362 => ((impl_StateAfter.f k t333 (wrap64 ((Int.tmod (rd t350 0) 300) + (Int.tmod (rd t350 1) 300)))).bind fun t363 => (if t362 = t363 then ((impl_StateAfter.f k t333 1).bind fun t364 => ((impl_NextState.f t333).bind fun t365 => (some (t364 == t365)))) else (some false))))) else (some false))) else (some false)) = some r := H
            have A15 := Aside0.mk A150
            clear A150
            by_cases c16 : t359 = 255
            · rw [if_pos c16] at H
              have c16b0 : (t359 == 255) = true := beq_iff_eq.mpr c16
              have c16b1 : (t359 != 255) = false := bne_eq_false_iff_eq.mpr c16
              clear c16
              replace H := Option.bind_eq_some_iff.mp H
              obtain ⟨t360, A170, H⟩ := H
              replace H : (if t360 = t333 then ((impl_StateAfter.f k t333 (Int.tmod (rd t350 0) 300)).bind fun t361 => ((impl_StateAfter.f k t361 (Int.tmod (rd t350 1) 300)).bind fun t362 => ((impl_StateAfter.f k t333 (wrap64 ((Int.tmod (rd t350 0) 300) + (Int.tmod (rd t350 1) 300)))).bind fun t363 => (if t362 = t363 then ((impl_StateAfter.f k t333 1).bind fun t364 => ((impl_NextState.f t333).bind fun t365 => (some (t364 == t365)))) else (some false))))) else (some false)) = some r := H
              have A17 := Aside0.mk A170
              clear A170
              by_cases c18 : t360 = t333
              · rw [if_pos c18] at H
                have c18b0 : (t360 == t333) = true := beq_iff_eq.mpr c18
                have c18b1 : (t360 != t333) = false := bne_eq_false_iff_eq.mpr c18
                clear c18
                replace H := Option.bind_eq_some_iff.mp H
                obtain ⟨t361, A190, H⟩ := H
                replace H : ((impl_StateAfter.f k t361 (Int.tmod (rd t350 1) 300)).bind fun t362 => ((impl_StateAfter.f k t333 (wrap64 ((Int.tmod (rd t350 0) 300) + (Int.tmod (rd t350 1) 300)))).bind fun t363 => (if t362 = t363 then ((impl_StateAfter.f k t333 1).bind fun t364 => ((impl_NextState.f t333).bind fun t365 => (some (t364 == t365)))) else (some false)))) = some r := H
                have A19 := Aside0.mk A190
                clear A190
                replace H := Option.bind_eq_some_iff.mp H
                obtain ⟨t362, A200, H⟩ := H
                replace H : ((impl_StateAfter.f k t333 (wrap64 ((Int.tmod (rd t350 0) 300) + (Int.tmod (rd t350 1) 300)))).bind fun t363 => (if t362 = t363 then ((impl_StateAfter.f k t333 1).bind fun t364 => ((impl_NextState.f t333).bind fun t365 => (some (t364 == t365)))) else (some false))) = some r := H
                have A20 := Aside0.mk A200
                clear A200
                replace H := Option.bind_eq_some_iff.mp H
                obtain ⟨t363, A210, H⟩ := H
                replace H : (if t362 = t363 then ((impl_StateAfter.f k t333 1).bind fun t364 => ((impl_NextState.f t333).bind fun t365 => (some (t364 == t365)))) else (some false)) = some r := H
                have A21 := Aside0.mk A210
                clear A210
                by_cases c22 : t362 = t363
                · rw [if_pos c22] at H
                  have c22b0 : (t362 == t363) = true := beq_iff_eq.mpr c22
                  have c22b1 : (t362 != t363) = false := bne_eq_false_iff_eq.mpr c22
                  clear c22
                  replace H := Option.bind_eq_some_iff.mp H
                  obtain ⟨t364, A230, H⟩ := H
                  replace H : ((impl_NextState.f t333).bind fun t365 => (some (t364 == t365))) = some r := H
                  have A23 := Aside0.mk A230
                  clear A230
                  replace H := Option.bind_eq_some_iff.mp H
                  obtain ⟨t365, A240, H⟩ := H
                  replace H : (some (t364 == t365)) = some r := H
                  have A24 := Aside0.mk A240
                  clear A240
                  obtain rfl := Option.some.inj H
                  go_enter Try.func8, Try.ntmps8
                  go_wp2_with (first | ((with_reducible refine gate_callee (f := 14) rfl ?_); refine goesL_ (some 10) rfl rfl Try.func14 (by kernel_rfl) rfl #[.slice A0 l0.length c0] rfl (by (try simp only [List.map_toArray, List.map_cons, List.map_nil]); first | done | rfl | (simp only [List.length_drop, List.length_take]; rfl)) ?_; (with_reducible refine (laws_big.calls _ _ l0 false _ ?side1 ?side2 A2.out).mono ?_); (case side1 => repeat (first | exact HR0.out | (with_reducible refine Kd.C_alloc ?_ _) | (with_reducible refine Kd.C_drewN ?_ _) | (with_reducible refine Kd.C_drew ?_))); (case side2 => exact HC0.out); rintro e w' ⟨rfl, ⟨nd, rfl⟩⟩; refine ⟨_, rfl, ?_⟩) | ((with_reducible refine gate_callee (f := 37) rfl ?_); refine goesL_ (some 12) rfl rfl Try.func37 (by kernel_rfl) rfl #[.slice A0 l0.length c0] rfl (by (try simp only [List.map_toArray, List.map_cons, List.map_nil]); first | done | rfl | (simp only [List.length_drop, List.length_take]; rfl)) ?_; (with_reducible refine (spec_DrawSeed.calls k _ _ l0 t333 _ ?side1 ?side2 A4.out).mono ?_); (case side1 => repeat (first | exact HR0.out | (with_reducible refine Kd.C_alloc ?_ _) | (with_reducible refine Kd.C_drewN ?_ _) | (with_reducible refine Kd.C_drew ?_))); (case side2 => exact HC0.out); rintro e w25 ⟨rfl, hb⟩; refine ⟨_, rfl, ?_⟩; have n0_ := Aside0.mk (below_step (by repeat (first | (with_reducible first | exact HB.out | apply below_alloc | apply pw_below_drewN | apply below_drew1) | exact HB.out)) hb); clear HB; have HB := n0_; clear n0_; (try clear hb); (try clear hb2); (try clear hk); (try clear hi)) | ((with_reducible refine gate_callee (f := 23) rfl ?_); refine goesL_ (some 14) rfl rfl Try.func23 (by kernel_rfl) rfl #[.slice A0 l0.length c0] rfl (by (try simp only [List.map_toArray, List.map_cons, List.map_nil]); first | done | rfl | (simp only [List.length_drop, List.length_take]; rfl)) ?_; (with_reducible refine (spec_DrawPacket.calls k _ _ l0 t334 t335 t336 t337 t338 t339 t340 t341 _ ?side1 ?side2 A5.out).mono ?_); (case side1 => repeat (first | exact (Kd.C_below HR0.out HB.out) | (with_reducible refine Kd.C_alloc ?_ _) | (with_reducible refine Kd.C_drewN ?_ _) | (with_reducible refine Kd.C_drew ?_))); (case side2 => exact HC0.out); rintro e w26 ⟨v342, rfl, ho0, hb⟩; refine ⟨_, rfl, ?_⟩; have n0_ := Aside0.mk (Kd.R_lower ho0 (below_size (by repeat (first | (with_reducible first | exact HB.out | apply below_alloc | apply pw_below_drewN | apply below_drew1) | exact HB.out)))); have n1_ := Aside0.mk (below_step (by repeat (first | (with_reducible first | exact HB.out | apply below_alloc | apply pw_below_drewN | apply below_drew1) | exact HB.out)) hb); clear HB; have HO343 := n0_; have HB := n1_; clear n0_ n1_; (try clear hb); (try clear hb2); (try clear hk); (try clear hi); (try clear ho0); obtain ⟨Ao27, co27, eo27⟩ := Kd.R_slice HO343.out; subst eo27) | ((with_reducible refine gate_callee (f := 22) rfl ?_); refine goesL_ (some 15) rfl rfl Try.func22 (by kernel_rfl) rfl #[.agg #[.int .i64 t334, .int .i64 t335, .int .i64 t336, .int .i64 t337, .int .i64 t338, .int .i64 t339, .int .i64 t340, .slice Ao27 t341.length co27]] rfl (by (try simp only [List.map_toArray, List.map_cons, List.map_nil]); first | done | rfl | (simp only [List.length_drop, List.length_take]; rfl)) ?_; (with_reducible refine (impl_EncodePacket.calls k t334 t335 t336 t337 t338 t339 t340 _ _ t341 t344 _ ?side1 ?side2 A6.out).mono ?_); (case side1 => repeat (first | exact (Kd.R_reads' HO343.out).2.2 | (with_reducible refine Kd.C_alloc ?_ _) | (with_reducible refine Kd.C_drewN ?_ _) | (with_reducible refine Kd.C_drew ?_))); (case side2 => exact (Kd.R_reads' HO343.out).2.1); rintro e w28 ⟨v345, rfl, ho0, hb⟩; refine ⟨_, rfl, ?_⟩; have n0_ := Aside0.mk (Kd.R_elder' (by (with_reducible repeat (first | apply Kd.R_alloc | apply Kd.R_drewN | apply Kd.R_drew)); exact HO343.out) (Kd.R_base ho0) hb); have n1_ := Aside0.mk (Kd.R_lower (Kd.R_new' ho0 (Kd.R_lt (by (with_reducible repeat (first | apply Kd.R_alloc | apply Kd.R_drewN | apply Kd.R_drew)); exact HO343.out))) (below_size (by repeat (first | (with_reducible first | exact HB.out | apply below_alloc | apply pw_below_drewN | apply below_drew1) | exact HB.out)))); have n2_ := Aside0.mk (below_step (by repeat (first | (with_reducible first | exact HB.out | apply below_alloc | apply pw_below_drewN | apply below_drew1) | exact HB.out)) hb); clear HO343; clear HB; have HO343 := n0_; have HO346 := n1_; have HB := n2_; clear n0_ n1_ n2_; (try clear hb); (try clear hb2); (try clear hk); (try clear hi); (try clear ho0); obtain ⟨Ao29, co29, eo29⟩ := Kd.R_slice HO346.out; subst eo29) | ((with_reducible refine gate_callee (f := 38) rfl ?_); refine goesL_ (some 18) rfl rfl Try.func38 (by kernel_rfl) rfl #[.int .i64 t333, .slice Ao29 t344.length co29] rfl (by (try simp only [List.map_toArray, List.map_cons, List.map_nil]); first | done | rfl | (simp only [List.length_drop, List.length_take]; rfl)) ?_; (with_reducible refine (impl_ScrambleBytes.calls k t333 _ _ t344 t347 _ ?side1 ?side2 A7.out).mono ?_); (case side1 => repeat (first | exact (Kd.R_reads' HO346.out).2.2 | (with_reducible refine Kd.C_alloc ?_ _) | (with_reducible refine Kd.C_drewN ?_ _) | (with_reducible refine Kd.C_drew ?_))); (case side2 => exact (Kd.R_reads' HO346.out).2.1); rintro e w30 ⟨v348, rfl, ho0, hb⟩; refine ⟨_, rfl, ?_⟩; have n0_ := Aside0.mk (Kd.R_elder' (by (with_reducible repeat (first | apply Kd.R_alloc | apply Kd.R_drewN | apply Kd.R_drew)); exact HO343.out) (Kd.R_base ho0) hb); have n1_ := Aside0.mk (Kd.R_elder' (by (with_reducible repeat (first | apply Kd.R_alloc | apply Kd.R_drewN | apply Kd.R_drew)); exact HO346.out) (Kd.R_base ho0) hb); have n2_ := Aside0.mk (Kd.R_lower (Kd.R_new' (Kd.R_new' ho0 (Kd.R_lt (by (with_reducible repeat (first | apply Kd.R_alloc | apply Kd.R_drewN | apply Kd.R_drew)); exact HO343.out))) (Kd.R_lt (by (with_reducible repeat (first | apply Kd.R_alloc | apply Kd.R_drewN | apply Kd.R_drew)); exact HO346.out))) (below_size (by repeat (first | (with_reducible first | exact HB.out | apply below_alloc | apply pw_below_drewN | apply below_drew1) | exact HB.out)))); have n3_ := Aside0.mk (below_step (by repeat (first | (with_reducible first | exact HB.out | apply below_alloc | apply pw_below_drewN | apply below_drew1) | exact HB.out)) hb); clear HO343; clear HO346; clear HB; have HO343 := n0_; have HO346 := n1_; have HO349 := n2_; have HB := n3_; clear n0_ n1_ n2_ n3_; (try clear hb); (try clear hb2); (try clear hk); (try clear hi); (try clear ho0)) | ((with_reducible refine gate_callee (f := 24) rfl ?_); refine goesL_ (some 20) rfl rfl Try.func24 (by kernel_rfl) rfl #[.slice A0 l0.length c0] rfl (by (try simp only [List.map_toArray, List.map_cons, List.map_nil]); first | done | rfl | (simp only [List.length_drop, List.length_take]; rfl)) ?_; (with_reducible refine (spec_DrawPlaces.calls k _ _ l0 t350 _ ?side1 ?side2 A8.out).mono ?_); (case side1 => repeat (first | exact (Kd.C_below HR0.out HB.out) | (with_reducible refine Kd.C_alloc ?_ _) | (with_reducible refine Kd.C_drewN ?_ _) | (with_reducible refine Kd.C_drew ?_))); (case side2 => exact HC0.out); rintro e w31 ⟨v351, rfl, ho0, hb⟩; refine ⟨_, rfl, ?_⟩; have n0_ := Aside0.mk (Kd.R_elder' (by (with_reducible repeat (first | apply Kd.R_alloc | apply Kd.R_drewN | apply Kd.R_drew)); exact HO343.out) (Kd.R_base ho0) hb); have n1_ := Aside0.mk (Kd.R_elder' (by (with_reducible repeat (first | apply Kd.R_alloc | apply Kd.R_drewN | apply Kd.R_drew)); exact HO346.out) (Kd.R_base ho0) hb); have n2_ := Aside0.mk (Kd.R_elder' (by (with_reducible repeat (first | apply Kd.R_alloc | apply Kd.R_drewN | apply Kd.R_drew)); exact HO349.out) (Kd.R_base ho0) hb); have n3_ := Aside0.mk (Kd.R_lower (Kd.R_new' (Kd.R_new' (Kd.R_new' ho0 (Kd.R_lt (by (with_reducible repeat (first | apply Kd.R_alloc | apply Kd.R_drewN | apply Kd.R_drew)); exact HO343.out))) (Kd.R_lt (by (with_reducible repeat (first | apply Kd.R_alloc | apply Kd.R_drewN | apply Kd.R_drew)); exact HO346.out))) (Kd.R_lt (by (with_reducible repeat (first | apply Kd.R_alloc | apply Kd.R_drewN | apply Kd.R_drew)); exact HO349.out))) (below_size (by repeat (first | (with_reducible first | exact HB.out | apply below_alloc | apply pw_below_drewN | apply below_drew1) | exact HB.out)))); have n4_ := Aside0.mk (below_step (by repeat (first | (with_reducible first | exact HB.out | apply below_alloc | apply pw_below_drewN | apply below_drew1) | exact HB.out)) hb); clear HO343; clear HO346; clear HO349; clear HB; have HO343 := n0_; have HO346 := n1_; have HO349 := n2_; have HO352 := n3_; have HB := n4_; clear n0_ n1_ n2_ n3_ n4_; (try clear hb); (try clear hb2); (try clear hk); (try clear hi); (try clear ho0); obtain ⟨Ao32, co32, eo32⟩ := Kd.R_slice HO352.out; subst eo32; have p353 : 0 ≤ (0 : Int) := (by omega); have q353 : 0 < (t350.length : Int) := of_decide_eq_true (by first | (with_reducible assumption) | assumption); obtain ⟨ad353, e353, hx353_0⟩ := Kd.at_int (Kd.R_reads' HO352.out).2.2 0 p353 q353; cases e353; have qi353 : (0 < t350.length) = True := eq_true (by omega); (try rw [show ((0 : Int)).toNat = 0 from rfl] at hx353_0); (try rw [Addr.add_zero'] at hx353_0); replace p353 := eq_true p353; replace q353 := eq_true q353; have p354 : 0 ≤ (1 : Int) := (by omega); have q354 : 1 < (t350.length : Int) := of_decide_eq_true (by first | (with_reducible assumption) | assumption); obtain ⟨ad354, e354, hx354_0⟩ := Kd.at_int (Kd.R_reads' HO352.out).2.2 1 p354 q354; obtain rfl : ad353 = ad354 := (by injection e354); (try simp only [show (1 : Int).toNat = 1 from rfl, Nat.reduceMul, Nat.reduceEqDiff, Go.Addr.add, ↓reduceIte] at hx354_0); have qi354 : (1 < t350.length) = True := eq_true (by omega); (try rw [show ((1 : Int)).toNat = 1 from rfl] at hx354_0); replace p354 := eq_true p354; replace q354 := eq_true q354; obtain ⟨Ao33, co33, eo33⟩ := Kd.R_slice HO349.out; subst eo33) | (go_at_call 38; (with_reducible refine (impl_ScrambleBytes.calls k t333 _ _ t347 t355 _ ?side1 ?side2 A12.out).mono ?_); (case side1 => repeat (first | exact (Kd.R_reads' HO349.out).2.2 | (with_reducible refine Kd.C_alloc ?_ _) | (with_reducible refine Kd.C_drewN ?_ _) | (with_reducible refine Kd.C_drew ?_))); (case side2 => exact (Kd.R_reads' HO349.out).2.1); rintro e w34 ⟨v356, rfl, ho0, hb⟩; have n0_ := Aside0.mk (Kd.R_elder' (by (with_reducible repeat (first | apply Kd.R_alloc | apply Kd.R_drewN | apply Kd.R_drew)); exact HO343.out) (Kd.R_base ho0) hb); have n1_ := Aside0.mk (Kd.R_elder' (by (with_reducible repeat (first | apply Kd.R_alloc | apply Kd.R_drewN | apply Kd.R_drew)); exact HO346.out) (Kd.R_base ho0) hb); have n2_ := Aside0.mk (Kd.R_elder' (by (with_reducible repeat (first | apply Kd.R_alloc | apply Kd.R_drewN | apply Kd.R_drew)); exact HO349.out) (Kd.R_base ho0) hb); have n3_ := Aside0.mk (Kd.R_elder' (by (with_reducible repeat (first | apply Kd.R_alloc | apply Kd.R_drewN | apply Kd.R_drew)); exact HO352.out) (Kd.R_base ho0) hb); have n4_ := Aside0.mk (Kd.R_lower (Kd.R_new' (Kd.R_new' (Kd.R_new' (Kd.R_new' ho0 (Kd.R_lt (by (with_reducible repeat (first | apply Kd.R_alloc | apply Kd.R_drewN | apply Kd.R_drew)); exact HO343.out))) (Kd.R_lt (by (with_reducible repeat (first | apply Kd.R_alloc | apply Kd.R_drewN | apply Kd.R_drew)); exact HO346.out))) (Kd.R_lt (by (with_reducible repeat (first | apply Kd.R_alloc | apply Kd.R_drewN | apply Kd.R_drew)); exact HO349.out))) (Kd.R_lt (by (with_reducible repeat (first | apply Kd.R_alloc | apply Kd.R_drewN | apply Kd.R_drew)); exact HO352.out))) (below_size (by repeat (first | (with_reducible first | exact HB.out | apply below_alloc | apply pw_below_drewN | apply below_drew1) | exact HB.out)))); have n5_ := Aside0.mk (below_step (by repeat (first | (with_reducible first | exact HB.out | apply below_alloc | apply pw_below_drewN | apply below_drew1) | exact HB.out)) hb); clear HO343; clear HO346; clear HO349; clear HO352; clear HB; have HO343 := n0_; have HO346 := n1_; have HO349 := n2_; have HO352 := n3_; have HO357 := n4_; have HB := n5_; clear n0_ n1_ n2_ n3_ n4_ n5_; (try clear hb); (try clear hb2); (try clear hk); (try clear hi); (try clear ho0); obtain ⟨Ao35, co35, eo35⟩ := Kd.R_slice HO357.out; subst eo35) | (go_at_call 20; (with_reducible refine (laws_sameInts.calls k _ _ t355 _ _ t344 true _ ?side1 ?side2 ?side3 ?side4 A13.out).mono ?_); (case side1 => repeat (first | exact (Kd.R_reads' HO357.out).2.2 | (with_reducible refine Kd.C_alloc ?_ _) | (with_reducible refine Kd.C_drewN ?_ _) | (with_reducible refine Kd.C_drew ?_))); (case side2 => exact (Kd.R_reads' HO357.out).2.1); (case side3 => repeat (first | exact (Kd.R_reads' HO346.out).2.2 | (with_reducible refine Kd.C_alloc ?_ _) | (with_reducible refine Kd.C_drewN ?_ _) | (with_reducible refine Kd.C_drew ?_))); (case side4 => exact (Kd.R_reads' HO346.out).2.1); rintro e w' ⟨rfl, ⟨nd, rfl⟩⟩) | (go_at_call 39; (with_reducible refine (impl_PeriodOf.calls k t333 t359 _ A15.out).mono ?_); rintro e w' ⟨rfl, ⟨nd, rfl⟩⟩) | (go_at_call 40; (with_reducible refine (impl_StateAfter.calls k t333 255 t360 _ A17.out).mono ?_); rintro e w' ⟨rfl, ⟨nd, rfl⟩⟩) | (go_at_call 40; (with_reducible refine (impl_StateAfter.calls k t333 (Int.tmod (rd t350 0) 300) t361 _ A19.out).mono ?_); rintro e w' ⟨rfl, ⟨nd, rfl⟩⟩) | (go_at_call 40; (with_reducible refine (impl_StateAfter.calls k t361 (Int.tmod (rd t350 1) 300) t362 _ A20.out).mono ?_); rintro e w' ⟨rfl, ⟨nd, rfl⟩⟩) | (go_at_call 40; (with_reducible refine (impl_StateAfter.calls k t333 (wrap64 ((Int.tmod (rd t350 0) 300) + (Int.tmod (rd t350 1) 300))) t363 _ A21.out).mono ?_); rintro e w' ⟨rfl, ⟨nd, rfl⟩⟩) | (go_at_call 40; (with_reducible refine (impl_StateAfter.calls k t333 1 t364 _ A23.out).mono ?_); rintro e w' ⟨rfl, ⟨nd, rfl⟩⟩) | (go_at_call 41; (with_reducible refine (impl_NextState.calls t333 t365 _ A24.out).mono ?_); rintro e w' ⟨rfl, ⟨nd, rfl⟩⟩))
                  go_ret
                  exact ⟨by first | rfl | (simp [errW_none, errW_some] <;> rfl) | (simp [*, errW_none, errW_some] <;> rfl), by repeat (first | (with_reducible first | exact HB.out | apply below_alloc | apply pw_below_drewN | apply below_drew1) | exact HB.out)⟩
                · rw [if_neg c22] at H
                  have c22b0 : (t362 == t363) = false := beq_eq_false_iff_ne.mpr c22
                  have c22b1 : (t362 != t363) = true := bne_iff_ne.mpr c22
                  exact absurd (H.trans (congrArg some hrt.out)) (by simp)
              · rw [if_neg c18] at H
                have c18b0 : (t360 == t333) = false := beq_eq_false_iff_ne.mpr c18
                have c18b1 : (t360 != t333) = true := bne_iff_ne.mpr c18
                exact absurd (H.trans (congrArg some hrt.out)) (by simp)
            · rw [if_neg c16] at H
              have c16b0 : (t359 == 255) = false := beq_eq_false_iff_ne.mpr c16
              have c16b1 : (t359 != 255) = true := bne_iff_ne.mpr c16
              exact absurd (H.trans (congrArg some hrt.out)) (by simp)
          · replace c14 := Bool.eq_false_iff.mpr c14
            subst c14
            have H1 : (some false) = some r := by rw [if_neg (show ¬ (false = true) by decide)] at H; exact H
            clear H
            have H := H1
            clear H1
            exact absurd (H.trans (congrArg some hrt.out)) (by simp)
        · rw [if_neg c11] at H
          have c11b0 : ((t347.length : Int) == (t344.length : Int)) = false := beq_eq_false_iff_ne.mpr c11
          have c11b1 : ((t347.length : Int) != (t344.length : Int)) = true := bne_iff_ne.mpr c11
          have c11b2 : (t347.length == t344.length) = false := by first | simpa using c11 | (simp at c11 ⊢; omega)
          exact absurd (H.trans (congrArg some hrt.out)) (by simp)
      · rw [if_neg c10] at H
        exact absurd H (by simp)
    · rw [if_neg c9] at H
      exact absurd H (by simp)

/-- THE ONE PURE STATEMENT of laws_FnScrambles: yours. -/
def laws_FnScrambles.Pure : Prop := ∀ (l0 : List Int), l0.length ≤ maxLen → l0.length * 1 ≤ 140737488351232 → (∀ x ∈ l0, (Lit.int .u8 x).wf = true) → ∃ k, laws_FnScrambles.f k l0 = some true
theorem laws_FnScrambles.walk (P : laws_FnScrambles.Pure) (a0 : Option Addr) (len0 cap0 : Nat) (z0 : List Int) (w : World) (w0 : (a0 = none ∧ len0 = 0 ∧ cap0 = 0 ∧ z0 = []) ∨ ∃ x, a0 = some x ∧ len0 ≤ cap0 ∧ cap0 ≤ maxLen ∧ z0.length = cap0 ∧ (∀ i, i < z0.length → w.cell? (x.add i) = some (.int .u8 (z0.getD i 0))) ∧ ∀ n ∈ z0, (Lit.int .u8 n).wf = true) (y0 : len0 * 1 ≤ 140737488351232) :
    Calls Try.prog 8 #[.slice a0 len0 cap0] w fun e w' => e = .returned (.bool true) ∧ Below w.heap.size w w' := by
  obtain ⟨l0, rfl, hr0, hm0, hw0, hc0⟩ := ReadsInt.ofRowC w0
  obtain ⟨k, h⟩ := P l0 hm0 y0 hw0
  refine (laws_FnScrambles.calls k _ _ l0 true w (Kd.C_of_reads (d := (0 : Int)) (h1 := fun _ => rfl) hr0) hc0 ⟨rfl⟩ h).mono ?_
  rintro e w' ⟨rfl, hd⟩
  exact ⟨rfl, hd⟩

end Go.Proofs.Ytojipnenoiiadaa.PFnScrambles
