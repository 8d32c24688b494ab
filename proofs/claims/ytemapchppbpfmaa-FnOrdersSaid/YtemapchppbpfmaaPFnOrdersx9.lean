-- Written by a program of this session (wip/xp): not trusted, Lean checks it.
import Derived.Test.YtemapchppbpfmaaPFnOrdersx0
import Derived.Test.YtemapchppbpfmaaPFnOrdersx5
import Derived.Test.YtemapchppbpfmaaPFnOrdersx8
namespace Go.Proofs.Ytemapchppbpfmaa.PFnOrders
open Go.RowKit Go.Proofs.YtemapchppbpfmaaW.PrintWords Go.Proofs.YtemapchppbpfmaaW.PrintLast Go.Proofs.YtemapchppbpfmaaW.PrintMore
attribute [local go_sem] max2_int min2_int max_two min_two max_three min_three max_four min_four   -- for this text's walks alone
set_option linter.unusedVariables false
set_option linter.unusedSimpArgs false

/-! ### impl_IsLegalOrder: function 20 -/
mutual
def impl_IsLegalOrder.l0 : Nat → List (S29) → List Int → List Int → Int → Int → Option (Bool)
 | 0, _, _, _, _, _ => none
 | k + 1, x0, x1, x9, x10, x11 => if x11 < x10 then (if 0 ≤ x11 then (if x11 < (x9.length : Int) then ((impl_within.f (rd x9 x11) 0 (wrap64 ((x0.length : Int) - 1))).bind fun t418 => (if t418 = true then (if x11 ≤ (x1.length : Int) then ((slices_Contains_int_int.f k (x1.take (x11 : Int).toNat) (rd x9 x11)).bind fun t420 => (impl_IsLegalOrder.j1 k x0 x1 x11 (rd x9 x11) x9 x10 x11 t420)) else (none)) else (impl_IsLegalOrder.j1 k x0 x1 x11 (rd x9 x11) x9 x10 x11 true))) else (none)) else (none)) else (some ((x1.length : Int) == (x0.length : Int)))
def impl_IsLegalOrder.j1 : Nat → List (S29) → List Int → Int → Int → List Int → Int → Int → Bool → Option (Bool)
 | 0, _, _, _, _, _, _, _, _ => none
 | k + 1, x0, x1, x5, x6, x9, x10, x11, x28 => if x28 = true then (some false) else (if 0 ≤ x5 then (if x5 ≤ (x1.length : Int) then (impl_IsLegalOrder.l1 k x0 x1 x6 x9 x10 x11 (x1.take (x5 : Int).toNat) ((x1.take (x5 : Int).toNat).length : Int) 0) else (none)) else (none))
def impl_IsLegalOrder.l1 : Nat → List (S29) → List Int → Int → List Int → Int → Int → List Int → Int → Int → Option (Bool)
 | 0, _, _, _, _, _, _, _, _, _ => none
 | k + 1, x0, x1, x6, x9, x10, x11, x31, x32, x33 => if x33 < x32 then (if 0 ≤ x33 then (if x33 < (x31.length : Int) then (if x6 < (rd x31 x33) then (if 0 ≤ (rd x31 x33) then (if (rd x31 x33) < (x0.length : Int) then (if 0 ≤ x6 then (if x6 < (x0.length : Int) then ((impl_MayPass.f k ((rd_T29 x0 (rd x31 x33)).f0) ((rd_T29 x0 (rd x31 x33)).f1) ((rd_T29 x0 (rd x31 x33)).f2) ((rd_T29 x0 (rd x31 x33)).f3) ((rd_T29 x0 (rd x31 x33)).f4) ((rd_T29 x0 (rd x31 x33)).f5) ((rd_T29 x0 (rd x31 x33)).f6) ((rd_T29 x0 (rd x31 x33)).f7) ((rd_T29 x0 x6).f0) ((rd_T29 x0 x6).f1) ((rd_T29 x0 x6).f2) ((rd_T29 x0 x6).f3) ((rd_T29 x0 x6).f4) ((rd_T29 x0 x6).f5) ((rd_T29 x0 x6).f6) ((rd_T29 x0 x6).f7)).bind fun t425 => (if t425 = true then (impl_IsLegalOrder.l1 k x0 x1 x6 x9 x10 x11 x31 x32 (wrap64 (x33 + 1))) else (some false))) else (none)) else (none)) else (none)) else (none)) else (impl_IsLegalOrder.l1 k x0 x1 x6 x9 x10 x11 x31 x32 (wrap64 (x33 + 1)))) else (none)) else (none)) else (impl_IsLegalOrder.l0 k x0 x1 x9 x10 (wrap64 (x11 + 1)))
end
def impl_IsLegalOrder.f (k : Nat) (l0 : List (S29)) (l1 : List Int) : Option (Bool) := impl_IsLegalOrder.l0 k l0 l1 l1 (l1.length : Int) 0
theorem impl_IsLegalOrder.mono_l : ∀ k, (∀ y0 y1 y2 y3 y4, LeO (impl_IsLegalOrder.l0 k y0 y1 y2 y3 y4) (impl_IsLegalOrder.l0 (k + 1) y0 y1 y2 y3 y4)) ∧ (∀ y0 y1 y2 y3 y4 y5 y6 y7, LeO (impl_IsLegalOrder.j1 k y0 y1 y2 y3 y4 y5 y6 y7) (impl_IsLegalOrder.j1 (k + 1) y0 y1 y2 y3 y4 y5 y6 y7)) ∧ (∀ y0 y1 y2 y3 y4 y5 y6 y7 y8, LeO (impl_IsLegalOrder.l1 k y0 y1 y2 y3 y4 y5 y6 y7 y8) (impl_IsLegalOrder.l1 (k + 1) y0 y1 y2 y3 y4 y5 y6 y7 y8))
 | 0 => ⟨fun _ _ _ _ _ r h => by simp [impl_IsLegalOrder.l0] at h, fun _ _ _ _ _ _ _ _ r h => by simp [impl_IsLegalOrder.j1] at h, fun _ _ _ _ _ _ _ _ _ r h => by simp [impl_IsLegalOrder.l1] at h⟩
 | k + 1 => by
  obtain ⟨ih0, ih1, ih2⟩ := impl_IsLegalOrder.mono_l k
  refine ⟨?_, ?_, ?_⟩
  ·intro y0 y1 y2 y3 y4
   unfold impl_IsLegalOrder.l0
   repeat' first
   | (with_reducible exact ih0 _ _ _ _ _)
   | (with_reducible exact ih1 _ _ _ _ _ _ _ _)
   | (with_reducible exact ih2 _ _ _ _ _ _ _ _ _)
   | (with_reducible exact impl_MayPass.mono _ _ _ _ _ _ _ _ _ _ _ _ _ _ _ _ _)
   | (with_reducible exact slices_Contains_int_int.mono _ _ _)
   | (with_reducible exact LeO.refl _)
   | (with_reducible exact LeO.none _)
   | (with_reducible refine LeO.ite ?_ ?_)
   | (with_reducible refine LeO.bind ?_ (fun _ => ?_))
   | exact ih0 _ _ _ _ _
   | exact ih1 _ _ _ _ _ _ _ _
   | exact ih2 _ _ _ _ _ _ _ _ _
   | exact impl_MayPass.mono _ _ _ _ _ _ _ _ _ _ _ _ _ _ _ _ _
   | exact slices_Contains_int_int.mono _ _ _
   | exact LeO.none _
   | refine LeO.ite ?_ ?_
   | refine LeO.bind ?_ (fun _ => ?_)
  ·intro y0 y1 y2 y3 y4 y5 y6 y7
   unfold impl_IsLegalOrder.j1
   repeat' first
   | (with_reducible exact ih0 _ _ _ _ _)
   | (with_reducible exact ih1 _ _ _ _ _ _ _ _)
   | (with_reducible exact ih2 _ _ _ _ _ _ _ _ _)
   | (with_reducible exact impl_MayPass.mono _ _ _ _ _ _ _ _ _ _ _ _ _ _ _ _ _)
   | (with_reducible exact slices_Contains_int_int.mono _ _ _)
   | (with_reducible exact LeO.refl _)
   | (with_reducible exact LeO.none _)
   | (with_reducible refine LeO.ite ?_ ?_)
   | (with_reducible refine LeO.bind ?_ (fun _ => ?_))
   | exact ih0 _ _ _ _ _
   | exact ih1 _ _ _ _ _ _ _ _
   | exact ih2 _ _ _ _ _ _ _ _ _
   | exact impl_MayPass.mono _ _ _ _ _ _ _ _ _ _ _ _ _ _ _ _ _
   | exact slices_Contains_int_int.mono _ _ _
   | exact LeO.none _
   | refine LeO.ite ?_ ?_
   | refine LeO.bind ?_ (fun _ => ?_)
  ·intro y0 y1 y2 y3 y4 y5 y6 y7 y8
   unfold impl_IsLegalOrder.l1
   repeat' first
   | (with_reducible exact ih0 _ _ _ _ _)
   | (with_reducible exact ih1 _ _ _ _ _ _ _ _)
   | (with_reducible exact ih2 _ _ _ _ _ _ _ _ _)
   | (with_reducible exact impl_MayPass.mono _ _ _ _ _ _ _ _ _ _ _ _ _ _ _ _ _)
   | (with_reducible exact slices_Contains_int_int.mono _ _ _)
   | (with_reducible exact LeO.refl _)
   | (with_reducible exact LeO.none _)
   | (with_reducible refine LeO.ite ?_ ?_)
   | (with_reducible refine LeO.bind ?_ (fun _ => ?_))
   | exact ih0 _ _ _ _ _
   | exact ih1 _ _ _ _ _ _ _ _
   | exact ih2 _ _ _ _ _ _ _ _ _
   | exact impl_MayPass.mono _ _ _ _ _ _ _ _ _ _ _ _ _ _ _ _ _
   | exact slices_Contains_int_int.mono _ _ _
   | exact LeO.none _
   | refine LeO.ite ?_ ?_
   | refine LeO.bind ?_ (fun _ => ?_)
theorem impl_IsLegalOrder.mono : ∀ a0 a1 k, LeO (impl_IsLegalOrder.f k a0 a1) (impl_IsLegalOrder.f (k + 1) a0 a1) := by
 intro a0 a1 k
 obtain ⟨ih0, ih1, ih2⟩ := impl_IsLegalOrder.mono_l k
 unfold impl_IsLegalOrder.f
 repeat' first
   | (with_reducible exact ih0 _ _ _ _ _)
   | (with_reducible exact ih1 _ _ _ _ _ _ _ _)
   | (with_reducible exact ih2 _ _ _ _ _ _ _ _ _)
   | (with_reducible exact impl_MayPass.mono _ _ _ _ _ _ _ _ _ _ _ _ _ _ _ _ _)
   | (with_reducible exact slices_Contains_int_int.mono _ _ _)
   | (with_reducible exact LeO.refl _)
   | (with_reducible exact LeO.none _)
   | (with_reducible refine LeO.ite ?_ ?_)
   | (with_reducible refine LeO.bind ?_ (fun _ => ?_))
   | exact ih0 _ _ _ _ _
   | exact ih1 _ _ _ _ _ _ _ _
   | exact ih2 _ _ _ _ _ _ _ _ _
   | exact impl_MayPass.mono _ _ _ _ _ _ _ _ _ _ _ _ _ _ _ _ _
   | exact slices_Contains_int_int.mono _ _ _
   | exact LeO.none _
   | refine LeO.ite ?_ ?_
   | refine LeO.bind ?_ (fun _ => ?_)
def impl_IsLegalOrder.T9 : Bool × List (List Nat × List Nat) := (true, [([], []), ([], []), ([0, 1], [0, 1]), ([2], [2]), ([3], [3]), ([3], [3]), ([4, 5, 3], [3, 4, 5]), ([6, 3], [3, 6]), ([3], [3]), ([3], [3]), ([8, 9, 3], [3, 8, 9]), ([10, 3], [3, 10]), ([7, 11, 3, 3], [3, 7, 11]), ([12, 3], [3, 12]), ([3, 13], [3, 13])])
def impl_IsLegalOrder.B9 : List Nat := [0, 0, 3, 7, 15, 15, 63, 127, 15, 15, 783, 1807, 4095, 8191, 16383]
theorem impl_IsLegalOrder.tab9 : rtab .any (opsOf Try.f20 9) = impl_IsLegalOrder.T9 := by kernel_rfl
theorem impl_IsLegalOrder.bits9 : waitsOk impl_IsLegalOrder.T9.2 impl_IsLegalOrder.B9 = true := by kernel_rfl
set_option maxHeartbeats 8000000 in
set_option maxRecDepth 100000 in
theorem impl_IsLegalOrder.calls (k : Nat) (A0 : Option Addr) (c0 : Nat) (l0 : List (S29)) (A1 : Option Addr) (c1 : Nat) (l1 : List Int) (r : Bool) (w : World) (hr0 : Kd.C k29 w A0 l0.length l0) (hc0 : l0.length ≤ c0) (hr1 : Kd.C (Kd.int .i64) w A1 l1.length l1) (hc1 : l1.length ≤ c1) (h : impl_IsLegalOrder.f k l0 l1 = some r) :
  Calls Try.prog 20 #[.slice A0 l0.length c0, .slice A1 l1.length c1] w fun e w' => e = .returned (.bool r) ∧ Below w.heap.size w w' := by
 have hu29 := Try.underlying29
 have HR0 := Aside0.mk hr0
 have HC0 := Aside0.mk hc0
 clear hr0 hc0
 have HR1 := Aside0.mk hr1
 have HC1 := Aside0.mk hc1
 clear hr1 hc1
 have HB := Aside0.mk (Below.refl w.heap.size w)
 have H : (impl_IsLegalOrder.l0 k l0 l1 l1 (l1.length : Int) 0) = some r := h
 clear h
 have H' := Aside0.mk H
 clear H
 go_enter Try.func20, Try.ntmps20
 go_wp2
 go_loopg [11] k (fun kq v11 w' => ∃ (x11_1 : Int), v11 = .int .i64 x11_1 ∧ Aside0 (impl_IsLegalOrder.l0 kq l0 l1 l1 (l1.length : Int) x11_1 = some r) ∧ Aside0 (kq ≤ k) ∧ Aside0 (Below w.heap.size w w'))
 case atStart => exact ⟨(0), (by first | rfl | (simp; done) | (simp [*]; done)), H', ⟨Nat.le_refl _⟩, ⟨by repeat (first | (with_reducible first | exact HB.out | apply below_alloc | apply pw_below_drewN | apply below_drew1) | exact HB.out)⟩⟩
 case round =>
  clear H'
  obtain ⟨x11_1, rfl, HA, HK1, HB⟩ := hrel
  cases gk with
  | zero => exact absurd HA.out (by simp [impl_IsLegalOrder.l0])
  | succ k1 =>
   have H := HA.out
   clear HA
   simp only [impl_IsLegalOrder.l0] at H
   by_cases c3 : x11_1 < (l1.length : Int)
   ·rw [if_pos c3] at H
    have c3b0 : decide (x11_1 < (l1.length : Int)) = true := decide_eq_true c3
    clear c3
    by_cases c4 : 0 ≤ x11_1
    ·rw [if_pos c4] at H
     have c4b0 : decide (0 ≤ x11_1) = true := decide_eq_true c4
     clear c4
     by_cases c5 : x11_1 < (l1.length : Int)
     ·rw [if_pos c5] at H
      have c5b0 : decide (x11_1 < (l1.length : Int)) = true := decide_eq_true c5
      clear c5
      have HC6 := Aside0.mk H
      clear H
      have p417 : 0 ≤ (x11_1 : Int) := of_decide_eq_true (by first | (with_reducible assumption) | assumption)
      have q417 : x11_1 < (l1.length : Int) := of_decide_eq_true (by first | (with_reducible assumption) | assumption)
      obtain ⟨ad417, e417, hx417_0⟩ := Kd.at_int HR1.out x11_1 p417 q417
      cases e417
      replace hx417_0 := (HB.out.cell (World.block_lt_of_cell? w _ hx417_0)).trans hx417_0
      replace p417 := eq_true p417
      replace q417 := eq_true q417
      go_upto_region 4 with (fail)
      go_cut [28] (fun v28 wc => ∃ (kq : Nat) (x28_5 : Bool), v28 = .bool x28_5 ∧ Aside0 (impl_IsLegalOrder.j1 kq l0 l1 x11_1 (rd l1 x11_1) l1 (l1.length : Int) x11_1 x28_5 = some r) ∧ Aside0 (kq ≤ k1) ∧ Aside0 (Below w.heap.size w wc))
      case first =>
       have H := HC6.out
       clear HC6
       replace H := Option.bind_eq_some_iff.mp H
       obtain ⟨t418, A70, H⟩ := H
       replace H : (if t418 = true then (if x11_1 ≤ (l1.length : Int) then ((slices_Contains_int_int.f k1 (l1.take (x11_1 : Int).toNat) (rd l1 x11_1)).bind fun t420 => (impl_IsLegalOrder.j1 k1 l0 l1 x11_1 (rd l1 x11_1) l1 (l1.length : Int) x11_1 t420)) else (none)) else (impl_IsLegalOrder.j1 k1 l0 l1 x11_1 (rd l1 x11_1) l1 (l1.length : Int) x11_1 true)) = some r := H
       have A7 := Aside0.mk A70
       clear A70
       by_cases c8 : t418 = true
       ·subst c8
        have H1 : (if x11_1 ≤ (l1.length : Int) then ((slices_Contains_int_int.f k1 (l1.take (x11_1 : Int).toNat) (rd l1 x11_1)).bind fun t420 => (impl_IsLegalOrder.j1 k1 l0 l1 x11_1 (rd l1 x11_1) l1 (l1.length : Int) x11_1 t420)) else (none)) = some r := by rw [if_pos rfl] at H; exact H
        clear H
        have H := H1
        clear H1
        have c9b0 := eq_true (of_decide_eq_true (by first | (with_reducible assumption) | assumption) : 0 ≤ x11_1)
        by_cases c10 : x11_1 ≤ (l1.length : Int)
        ·rw [if_pos c10] at H
         have c10b0 := eq_true c10
         have c10b1 : decide (x11_1 ≤ (l1.length : Int)) = true := decide_eq_true c10
         clear c10
         replace H := Option.bind_eq_some_iff.mp H
         obtain ⟨t420, A110, H⟩ := H
         replace H : (impl_IsLegalOrder.j1 k1 l0 l1 x11_1 (rd l1 x11_1) l1 (l1.length : Int) x11_1 t420) = some r := H
         have A11 := Aside0.mk A110
         clear A110
         have H' := Aside0.mk H
         clear H
         go_wp2_with (first | ((with_reducible refine gate_callee (f := 39) rfl ?_); refine goesL_ (some 20) rfl rfl Try.func39 (by kernel_rfl) rfl #[.int .i64 (rd l1 x11_1), .int .i64 0, .int .i64 (wrap64 ((l0.length : Int) - 1))] rfl (by (try simp only [List.map_toArray, List.map_cons, List.map_nil]); first | done | rfl) ?_; (with_reducible refine (impl_within.calls (rd l1 x11_1) 0 (wrap64 ((l0.length : Int) - 1)) true _ A7.out).mono ?_); rintro e w' ⟨rfl, ⟨nd, rfl⟩⟩; refine ⟨_, rfl, ?_⟩; obtain ⟨i012, hi012, _, hsz12, _⟩ := info_parts info3; obtain ⟨hcut12, hA12, hC12⟩ := print_take_of (P := Try.prog) (Value.int .i64) 0 24 3 .i64 Try.underlying24 hi012 hsz12 (some ad417) c1 l1 x11_1 (of_decide_eq_true (by first | (with_reducible assumption) | assumption)) (of_decide_eq_true (by first | (with_reducible assumption) | assumption)) HC1.out; have HR419 := Aside0.mk (Kd.C_of_reads (h1 := fun _ => rfl) (hA12 _ (Kd.reads_of_C HR1.out))); have HC419 := Aside0.mk hC12; clear hA12 hC12 hi012 hsz12) | (go_at_call 40; refine calls_of_args (args' := #[.slice (some ad417) (l1.take (x11_1 : Int).toNat).length c1, .int .i64 (rd l1 x11_1)]) (by have h1 : x11_1 ≤ (l1.length : Int) := of_decide_eq_true (by first | (with_reducible assumption) | assumption); have h0 : 0 ≤ (x11_1 : Int) := of_decide_eq_true (by first | (with_reducible assumption) | assumption); rw [List.length_take, Nat.min_eq_left (by omega)]) ?_; (with_reducible refine (slices_Contains_int_int.calls k1 _ _ (l1.take (x11_1 : Int).toNat) (rd l1 x11_1) t420 _ ?side1 ?side2 A11.out).mono ?_); (case side1 => repeat (first | exact (Kd.C_below HR419.out (by repeat (first | (with_reducible first | exact HB.out | apply below_alloc | apply pw_below_drewN | apply below_drew1) | exact HB.out))) | (with_reducible refine Kd.C_alloc ?_ _) | (with_reducible refine Kd.C_drewN ?_ _) | (with_reducible refine Kd.C_drew ?_))); (case side2 => exact HC419.out); rintro e w' ⟨rfl, ⟨nd, rfl⟩⟩))
         go_meet
         case rel => exact ⟨_, (t420), (by first | rfl | (simp; done) | (simp [*]; done)), H', ⟨by have := HK1.out; first | omega | exact Nat.le_refl _⟩, ⟨by repeat (first | (with_reducible first | exact HB.out | apply below_alloc | apply pw_below_drewN | apply below_drew1) | exact HB.out)⟩⟩
        ·rw [if_neg c10] at H
         exact absurd H (by simp)
       ·replace c8 := Bool.eq_false_iff.mpr c8
        subst c8
        have H1 : (impl_IsLegalOrder.j1 k1 l0 l1 x11_1 (rd l1 x11_1) l1 (l1.length : Int) x11_1 true) = some r := by rw [if_neg (show ¬ (false = true) by decide)] at H; exact H
        clear H
        have H := H1
        clear H1
        have H' := Aside0.mk H
        clear H
        go_wp2_with (first | ((with_reducible refine gate_callee (f := 39) rfl ?_); refine goesL_ (some 20) rfl rfl Try.func39 (by kernel_rfl) rfl #[.int .i64 (rd l1 x11_1), .int .i64 0, .int .i64 (wrap64 ((l0.length : Int) - 1))] rfl (by (try simp only [List.map_toArray, List.map_cons, List.map_nil]); first | done | rfl) ?_; (with_reducible refine (impl_within.calls (rd l1 x11_1) 0 (wrap64 ((l0.length : Int) - 1)) false _ A7.out).mono ?_); rintro e w' ⟨rfl, ⟨nd, rfl⟩⟩; refine ⟨_, rfl, ?_⟩))
        go_meet
        case rel => exact ⟨_, (true), (by first | rfl | (simp; done) | (simp [*]; done)), H', ⟨by have := HK1.out; first | omega | exact Nat.le_refl _⟩, ⟨by repeat (first | (with_reducible first | exact HB.out | apply below_alloc | apply pw_below_drewN | apply below_drew1) | exact HB.out)⟩⟩
      case rest =>
       clear HC6
       obtain ⟨kq, x28_5, rfl, HA, HJ5, HB⟩ := hcut
       cases kq with
       | zero => exact absurd HA.out (by simp [impl_IsLegalOrder.j1])
       | succ kj5 =>
        have H := HA.out
        clear HA
        simp only [impl_IsLegalOrder.j1] at H
        by_cases c13 : x28_5 = true
        ·subst c13
         have H1 : (some false) = some r := by rw [if_pos rfl] at H; exact H
         clear H
         have H := H1
         clear H1
         obtain rfl := Option.some.inj H
         go_wp2
         go_ret
         exact ⟨by first | rfl | (simp [errW_none, errW_some] <;> rfl) | (simp [*, errW_none, errW_some] <;> rfl), by repeat (first | (with_reducible first | exact HB.out | apply below_alloc | apply pw_below_drewN | apply below_drew1) | exact HB.out)⟩
        ·replace c13 := Bool.eq_false_iff.mpr c13
         subst c13
         have H1 : (if 0 ≤ x11_1 then (if x11_1 ≤ (l1.length : Int) then (impl_IsLegalOrder.l1 kj5 l0 l1 (rd l1 x11_1) l1 (l1.length : Int) x11_1 (l1.take (x11_1 : Int).toNat) ((l1.take (x11_1 : Int).toNat).length : Int) 0) else (none)) else (none)) = some r := by rw [if_neg (show ¬ (false = true) by decide)] at H; exact H
         clear H
         have H := H1
         clear H1
         by_cases c14 : 0 ≤ x11_1
         ·rw [if_pos c14] at H
          have c14b0 := eq_true c14
          have c14b1 : decide (0 ≤ x11_1) = true := decide_eq_true c14
          clear c14
          by_cases c15 : x11_1 ≤ (l1.length : Int)
          ·rw [if_pos c15] at H
           have c15b0 := eq_true c15
           have c15b1 : decide (x11_1 ≤ (l1.length : Int)) = true := decide_eq_true c15
           clear c15
           have H' := Aside0.mk H
           clear H
           obtain ⟨i016, hi016, _, hsz16, _⟩ := info_parts info3
           obtain ⟨hcut16, hA16, hC16⟩ := print_take_of (P := Try.prog) (Value.int .i64) 0 24 3 .i64 Try.underlying24 hi016 hsz16 (some ad417) c1 l1 x11_1 (of_decide_eq_true (by first | (with_reducible assumption) | assumption)) (of_decide_eq_true (by first | (with_reducible assumption) | assumption)) HC1.out
           have HLM16 := Aside0.mk (show (((l1.take (x11_1 : Int).toNat).length : Nat) : Int) = max x11_1 0 from by have h1 : x11_1 ≤ (l1.length : Int) := of_decide_eq_true (by first | (with_reducible assumption) | assumption); have h0 : 0 ≤ (x11_1 : Int) := of_decide_eq_true (by first | (with_reducible assumption) | assumption); rw [List.length_take]; omega)
           have HR421 := Aside0.mk (Kd.C_of_reads (h1 := fun _ => rfl) (hA16 _ (Kd.reads_of_C HR1.out)))
           have HC421 := Aside0.mk hC16
           clear hA16 hC16 hi016 hsz16
           go_wp2
           go_loopg [33] kj5 (fun kq v33 w' => ∃ (x33_3 : Int), v33 = .int .i64 x33_3 ∧ Aside0 (impl_IsLegalOrder.l1 kq l0 l1 (rd l1 x11_1) l1 (l1.length : Int) x11_1 (l1.take (x11_1 : Int).toNat) ((l1.take (x11_1 : Int).toNat).length : Int) x33_3 = some r) ∧ Aside0 (kq ≤ kj5) ∧ Aside0 (Below w.heap.size w w'))
           case atStart => exact ⟨(0), (by first | rfl | (simp; done) | (simp [*]; done)), H', ⟨Nat.le_refl _⟩, ⟨by repeat (first | (with_reducible first | exact HB.out | apply below_alloc | apply pw_below_drewN | apply below_drew1) | exact HB.out)⟩⟩
           case round =>
            clear H'
            obtain ⟨x33_3, rfl, HA, HK3, HB⟩ := hrel
            cases gk with
            | zero => exact absurd HA.out (by simp [impl_IsLegalOrder.l1])
            | succ k3 =>
             have H := HA.out
             clear HA
             simp only [impl_IsLegalOrder.l1] at H
             by_cases c17 : x33_3 < ((l1.take (x11_1 : Int).toNat).length : Int)
             ·rw [if_pos c17] at H
              have c17b0 : decide (x33_3 < ((l1.take (x11_1 : Int).toNat).length : Int)) = true := decide_eq_true c17
              have c17b0m : decide (x33_3 < max x11_1 0) = true := by rw [← HLM16.out]; exact c17b0
              clear c17
              by_cases c18 : 0 ≤ x33_3
              ·rw [if_pos c18] at H
               have c18b0 : decide (0 ≤ x33_3) = true := decide_eq_true c18
               clear c18
               by_cases c19 : x33_3 < ((l1.take (x11_1 : Int).toNat).length : Int)
               ·rw [if_pos c19] at H
                have c19b0 : decide (x33_3 < ((l1.take (x11_1 : Int).toNat).length : Int)) = true := decide_eq_true c19
                have c19b0m : decide (x33_3 < max x11_1 0) = true := by rw [← HLM16.out]; exact c19b0
                clear c19
                by_cases c20 : (rd l1 x11_1) < (rd (l1.take (x11_1 : Int).toNat) x33_3)
                ·rw [if_pos c20] at H
                 have c20b0 : decide ((rd l1 x11_1) < (rd (l1.take (x11_1 : Int).toNat) x33_3)) = true := decide_eq_true c20
                 clear c20
                 by_cases c21 : 0 ≤ (rd (l1.take (x11_1 : Int).toNat) x33_3)
                 ·rw [if_pos c21] at H
                  have c21b0 : decide (0 ≤ (rd (l1.take (x11_1 : Int).toNat) x33_3)) = true := decide_eq_true c21
                  clear c21
                  by_cases c22 : (rd (l1.take (x11_1 : Int).toNat) x33_3) < (l0.length : Int)
                  ·rw [if_pos c22] at H
                   have c22b0 : decide ((rd (l1.take (x11_1 : Int).toNat) x33_3) < (l0.length : Int)) = true := decide_eq_true c22
                   clear c22
                   by_cases c23 : 0 ≤ (rd l1 x11_1)
                   ·rw [if_pos c23] at H
                    have c23b0 : decide (0 ≤ (rd l1 x11_1)) = true := decide_eq_true c23
                    clear c23
                    by_cases c24 : (rd l1 x11_1) < (l0.length : Int)
                    ·rw [if_pos c24] at H
                     have c24b0 : decide ((rd l1 x11_1) < (l0.length : Int)) = true := decide_eq_true c24
                     clear c24
                     replace H := Option.bind_eq_some_iff.mp H
                     obtain ⟨t425, A250, H⟩ := H
                     replace H : (if t425 = true then (impl_IsLegalOrder.l1 k3 l0 l1 (rd l1 x11_1) l1 (l1.length : Int) x11_1 (l1.take (x11_1 : Int).toNat) ((l1.take (x11_1 : Int).toNat).length : Int) (wrap64 (x33_3 + 1))) else (some false)) = some r := H
                     have A25 := Aside0.mk A250
                     clear A250
                     by_cases c26 : t425 = true
                     ·subst c26
                      have H1 : (impl_IsLegalOrder.l1 k3 l0 l1 (rd l1 x11_1) l1 (l1.length : Int) x11_1 (l1.take (x11_1 : Int).toNat) ((l1.take (x11_1 : Int).toNat).length : Int) (wrap64 (x33_3 + 1))) = some r := by rw [if_pos rfl] at H; exact H
                      clear H
                      have H := H1
                      clear H1
                      have H' := Aside0.mk H
                      clear H
                      have p422 : 0 ≤ (x33_3 : Int) := of_decide_eq_true (by first | (with_reducible assumption) | assumption)
                      have q422 : x33_3 < ((l1.take (x11_1 : Int).toNat).length : Int) := of_decide_eq_true (by first | (with_reducible assumption) | assumption)
                      have q422m := eq_true (show x33_3 < max x11_1 0 from by rw [← HLM16.out]; exact q422)
                      obtain ⟨ad422, e422, hx422_0⟩ := Kd.at_int HR421.out x33_3 p422 q422
                      obtain rfl : ad417 = ad422 := (by injection e422)
                      replace hx422_0 := (HB.out.cell (World.block_lt_of_cell? w _ hx422_0)).trans hx422_0
                      replace p422 := eq_true p422
                      replace q422 := eq_true q422
                      try go_wp2
                      have n0_ := Aside0.mk (below_drew1 HB.out)
                      clear HB
                      have HB := n0_
                      clear n0_
                      have p423 : 0 ≤ ((rd (l1.take (x11_1 : Int).toNat) x33_3) : Int) := of_decide_eq_true (by first | (with_reducible assumption) | assumption)
                      have q423 : (rd (l1.take (x11_1 : Int).toNat) x33_3) < (l0.length : Int) := of_decide_eq_true (by first | (with_reducible assumption) | assumption)
                      obtain ⟨ad423, A423_7, c423_7, e423, hx423_0, hx423_1, hx423_2, hx423_3, hx423_4, hx423_5, hx423_6, hx423_7, hl423_7, hi423_7⟩ := at_T29 HR0.out (rd (l1.take (x11_1 : Int).toNat) x33_3) p423 q423
                      have hw423_7 := hx423_7
                      have hw423_6 := hx423_6
                      have hw423_5 := hx423_5
                      have hw423_4 := hx423_4
                      have hw423_3 := hx423_3
                      have hw423_2 := hx423_2
                      have hw423_1 := hx423_1
                      have hw423_0 := hx423_0
                      cases e423
                      replace hx423_0 := (HB.out.cell (World.block_lt_of_cell? w _ hx423_0)).trans hx423_0
                      replace hx423_1 := (HB.out.cell (World.block_lt_of_cell? w _ hx423_1)).trans hx423_1
                      replace hx423_2 := (HB.out.cell (World.block_lt_of_cell? w _ hx423_2)).trans hx423_2
                      replace hx423_3 := (HB.out.cell (World.block_lt_of_cell? w _ hx423_3)).trans hx423_3
                      replace hx423_4 := (HB.out.cell (World.block_lt_of_cell? w _ hx423_4)).trans hx423_4
                      replace hx423_5 := (HB.out.cell (World.block_lt_of_cell? w _ hx423_5)).trans hx423_5
                      replace hx423_6 := (HB.out.cell (World.block_lt_of_cell? w _ hx423_6)).trans hx423_6
                      replace hx423_7 := (HB.out.cell (World.block_lt_of_cell? w _ hx423_7)).trans hx423_7
                      have HR423_7 := Aside0.mk hi423_7
                      have HC423_7 := Aside0.mk hl423_7
                      clear hi423_7 hl423_7
                      replace p423 := eq_true p423
                      replace q423 := eq_true q423
                      have p424 : 0 ≤ ((rd l1 x11_1) : Int) := of_decide_eq_true (by first | (with_reducible assumption) | assumption)
                      have q424 : (rd l1 x11_1) < (l0.length : Int) := of_decide_eq_true (by first | (with_reducible assumption) | assumption)
                      obtain ⟨ad424, A424_7, c424_7, e424, hx424_0, hx424_1, hx424_2, hx424_3, hx424_4, hx424_5, hx424_6, hx424_7, hl424_7, hi424_7⟩ := at_T29 HR0.out (rd l1 x11_1) p424 q424
                      have hw424_7 := hx424_7
                      have hw424_6 := hx424_6
                      have hw424_5 := hx424_5
                      have hw424_4 := hx424_4
                      have hw424_3 := hx424_3
                      have hw424_2 := hx424_2
                      have hw424_1 := hx424_1
                      have hw424_0 := hx424_0
                      obtain rfl : ad423 = ad424 := (by injection e424)
                      replace hx424_0 := (HB.out.cell (World.block_lt_of_cell? w _ hx424_0)).trans hx424_0
                      replace hx424_1 := (HB.out.cell (World.block_lt_of_cell? w _ hx424_1)).trans hx424_1
                      replace hx424_2 := (HB.out.cell (World.block_lt_of_cell? w _ hx424_2)).trans hx424_2
                      replace hx424_3 := (HB.out.cell (World.block_lt_of_cell? w _ hx424_3)).trans hx424_3
                      replace hx424_4 := (HB.out.cell (World.block_lt_of_cell? w _ hx424_4)).trans hx424_4
                      replace hx424_5 := (HB.out.cell (World.block_lt_of_cell? w _ hx424_5)).trans hx424_5
                      replace hx424_6 := (HB.out.cell (World.block_lt_of_cell? w _ hx424_6)).trans hx424_6
                      replace hx424_7 := (HB.out.cell (World.block_lt_of_cell? w _ hx424_7)).trans hx424_7
                      have HR424_7 := Aside0.mk hi424_7
                      have HC424_7 := Aside0.mk hl424_7
                      clear hi424_7 hl424_7
                      replace p424 := eq_true p424
                      replace q424 := eq_true q424
                      refine start_ (n := 15) (S := fun w' => w'.cell? (ad423.add (((rd (l1.take (x11_1 : Int).toNat) x33_3)).toNat * 8)) = some (.int .i64 ((rd_T29 l0 (rd (l1.take (x11_1 : Int).toNat) x33_3)).f0)) ∧ w'.cell? ⟨(ad423.add (((rd (l1.take (x11_1 : Int).toNat) x33_3)).toNat * 8)).block, (ad423.add (((rd (l1.take (x11_1 : Int).toNat) x33_3)).toNat * 8)).off + 1, none⟩ = some (.int .i64 ((rd_T29 l0 (rd (l1.take (x11_1 : Int).toNat) x33_3)).f1)) ∧ w'.cell? ⟨(ad423.add (((rd (l1.take (x11_1 : Int).toNat) x33_3)).toNat * 8)).block, (ad423.add (((rd (l1.take (x11_1 : Int).toNat) x33_3)).toNat * 8)).off + 2, none⟩ = some (.int .i64 ((rd_T29 l0 (rd (l1.take (x11_1 : Int).toNat) x33_3)).f2)) ∧ w'.cell? ⟨(ad423.add (((rd (l1.take (x11_1 : Int).toNat) x33_3)).toNat * 8)).block, (ad423.add (((rd (l1.take (x11_1 : Int).toNat) x33_3)).toNat * 8)).off + 3, none⟩ = some (.int .i64 ((rd_T29 l0 (rd (l1.take (x11_1 : Int).toNat) x33_3)).f3)) ∧ w'.cell? ⟨(ad423.add (((rd (l1.take (x11_1 : Int).toNat) x33_3)).toNat * 8)).block, (ad423.add (((rd (l1.take (x11_1 : Int).toNat) x33_3)).toNat * 8)).off + 4, none⟩ = some (.int .i64 ((rd_T29 l0 (rd (l1.take (x11_1 : Int).toNat) x33_3)).f4)) ∧ w'.cell? ⟨(ad423.add (((rd (l1.take (x11_1 : Int).toNat) x33_3)).toNat * 8)).block, (ad423.add (((rd (l1.take (x11_1 : Int).toNat) x33_3)).toNat * 8)).off + 5, none⟩ = some (.int .i64 ((rd_T29 l0 (rd (l1.take (x11_1 : Int).toNat) x33_3)).f5)) ∧ w'.cell? ⟨(ad423.add (((rd (l1.take (x11_1 : Int).toNat) x33_3)).toNat * 8)).block, (ad423.add (((rd (l1.take (x11_1 : Int).toNat) x33_3)).toNat * 8)).off + 6, none⟩ = some (.int .i64 ((rd_T29 l0 (rd (l1.take (x11_1 : Int).toNat) x33_3)).f6)) ∧ w'.cell? ⟨(ad423.add (((rd (l1.take (x11_1 : Int).toNat) x33_3)).toNat * 8)).block, (ad423.add (((rd (l1.take (x11_1 : Int).toNat) x33_3)).toNat * 8)).off + 7, none⟩ = some (.slice A423_7 ((rd_T29 l0 (rd (l1.take (x11_1 : Int).toNat) x33_3)).f7).length c423_7) ∧ w'.cell? (ad423.add (((rd l1 x11_1)).toNat * 8)) = some (.int .i64 ((rd_T29 l0 (rd l1 x11_1)).f0)) ∧ w'.cell? ⟨(ad423.add (((rd l1 x11_1)).toNat * 8)).block, (ad423.add (((rd l1 x11_1)).toNat * 8)).off + 1, none⟩ = some (.int .i64 ((rd_T29 l0 (rd l1 x11_1)).f1)) ∧ w'.cell? ⟨(ad423.add (((rd l1 x11_1)).toNat * 8)).block, (ad423.add (((rd l1 x11_1)).toNat * 8)).off + 2, none⟩ = some (.int .i64 ((rd_T29 l0 (rd l1 x11_1)).f2)) ∧ w'.cell? ⟨(ad423.add (((rd l1 x11_1)).toNat * 8)).block, (ad423.add (((rd l1 x11_1)).toNat * 8)).off + 3, none⟩ = some (.int .i64 ((rd_T29 l0 (rd l1 x11_1)).f3)) ∧ w'.cell? ⟨(ad423.add (((rd l1 x11_1)).toNat * 8)).block, (ad423.add (((rd l1 x11_1)).toNat * 8)).off + 4, none⟩ = some (.int .i64 ((rd_T29 l0 (rd l1 x11_1)).f4)) ∧ w'.cell? ⟨(ad423.add (((rd l1 x11_1)).toNat * 8)).block, (ad423.add (((rd l1 x11_1)).toNat * 8)).off + 5, none⟩ = some (.int .i64 ((rd_T29 l0 (rd l1 x11_1)).f5)) ∧ w'.cell? ⟨(ad423.add (((rd l1 x11_1)).toNat * 8)).block, (ad423.add (((rd l1 x11_1)).toNat * 8)).off + 6, none⟩ = some (.int .i64 ((rd_T29 l0 (rd l1 x11_1)).f6)) ∧ w'.cell? ⟨(ad423.add (((rd l1 x11_1)).toNat * 8)).block, (ad423.add (((rd l1 x11_1)).toNat * 8)).off + 7, none⟩ = some (.slice A424_7 ((rd_T29 l0 (rd l1 x11_1)).f7).length c424_7)) (ds := []) #[false, false, false, false, false, false, false, false, false, false, false, false, false, false, false] (by kernel_rfl) rfl rfl ⟨((HB.out.cell (World.block_lt_of_cell? w _ hw423_0)).trans hw423_0), ((HB.out.cell (World.block_lt_of_cell? w _ hw423_1)).trans hw423_1), ((HB.out.cell (World.block_lt_of_cell? w _ hw423_2)).trans hw423_2), ((HB.out.cell (World.block_lt_of_cell? w _ hw423_3)).trans hw423_3), ((HB.out.cell (World.block_lt_of_cell? w _ hw423_4)).trans hw423_4), ((HB.out.cell (World.block_lt_of_cell? w _ hw423_5)).trans hw423_5), ((HB.out.cell (World.block_lt_of_cell? w _ hw423_6)).trans hw423_6), ((HB.out.cell (World.block_lt_of_cell? w _ hw423_7)).trans hw423_7), ((HB.out.cell (World.block_lt_of_cell? w _ hw424_0)).trans hw424_0), ((HB.out.cell (World.block_lt_of_cell? w _ hw424_1)).trans hw424_1), ((HB.out.cell (World.block_lt_of_cell? w _ hw424_2)).trans hw424_2), ((HB.out.cell (World.block_lt_of_cell? w _ hw424_3)).trans hw424_3), ((HB.out.cell (World.block_lt_of_cell? w _ hw424_4)).trans hw424_4), ((HB.out.cell (World.block_lt_of_cell? w _ hw424_5)).trans hw424_5), ((HB.out.cell (World.block_lt_of_cell? w _ hw424_6)).trans hw424_6), ((HB.out.cell (World.block_lt_of_cell? w _ hw424_7)).trans hw424_7)⟩ (fun hHeld => ?_); refine with_tabW impl_IsLegalOrder.tab9 impl_IsLegalOrder.bits9 (fun HT_ HW_ => ?_)
                      generalize wr.drew = w27 at HB HR423_7 HR424_7 hx423_0 hx423_1 hx423_2 hx423_3 hx423_4 hx423_5 hx423_6 hx423_7 hx424_0 hx424_1 hx424_2 hx424_3 hx424_4 hx424_5 hx424_6 hx424_7 hHeld ⊢
                      refine pure_ (i := 0) (N := some 37) (v := ?_) (a' := ?_) #[true, false, false, false, false, false, false, false, false, false, false, false, false, false, false] rfl rfl (any_of HT_.out (by kernel_rfl)) (fun _ _ _ h => h) (Or.inl ⟨by rfl, ?_⟩) ?_ ?_
                      rotate_left
                      ·intro w'
                       go_simp
                       with_reducible rfl
                      rotate_left
                      ·simp only [Act.put, List.setIfInBounds_toArray, List.set_cons_zero, List.set_cons_succ, i64_w, i32_w]
                       rfl
                      refine pure_ (i := 1) (N := some 38) (v := ?_) (a' := ?_) #[true, true, false, false, false, false, false, false, false, false, false, false, false, false, false] rfl rfl (any_of HT_.out (by kernel_rfl)) (fun _ _ _ h => h) (Or.inl ⟨by rfl, ?_⟩) ?_ ?_
                      rotate_left
                      ·intro w'
                       go_simp
                       with_reducible rfl
                      rotate_left
                      ·simp only [Act.put, List.setIfInBounds_toArray, List.set_cons_zero, List.set_cons_succ, i64_w, i32_w]
                       rfl
                      refine pure_ (i := 2) (N := some 39) (v := ?_) (a' := ?_) #[true, true, true, false, false, false, false, false, false, false, false, false, false, false, false] rfl rfl (any_of HT_.out (by kernel_rfl)) (fun _ _ _ h => h) (Or.inl ⟨by rfl, ?_⟩) ?_ ?_
                      rotate_left
                      ·intro w'
                       go_simp
                       with_reducible rfl
                      rotate_left
                      ·simp only [Act.put, List.setIfInBounds_toArray, List.set_cons_zero, List.set_cons_succ, i64_w, i32_w]
                       rfl
                      refine pure_ (i := 3) (N := some 40) (v := ?_) (a' := ?_) #[true, true, true, true, false, false, false, false, false, false, false, false, false, false, false] rfl rfl (any_of HT_.out (by kernel_rfl)) (fun _ _ _ h => h) (Or.inl ⟨by rfl, ?_⟩) ?_ ?_
                      rotate_left
                      ·intro w'
                       go_simp
                       with_reducible rfl
                      rotate_left
                      ·simp only [Act.put, List.setIfInBounds_toArray, List.set_cons_zero, List.set_cons_succ, i64_w, i32_w]
                       rfl
                      refine pure_ (i := 4) (N := some 41) (v := ?_) (a' := ?_) #[true, true, true, true, true, false, false, false, false, false, false, false, false, false, false] rfl rfl (any_of HT_.out (by kernel_rfl)) (fun _ _ _ h => h) (Or.inl ⟨by rfl, ?_⟩) ?_ ?_
                      rotate_left
                      ·intro w'
                       go_simp
                       with_reducible rfl
                      rotate_left
                      ·simp only [Act.put, List.setIfInBounds_toArray, List.set_cons_zero, List.set_cons_succ, i64_w, i32_w]
                       rfl
                      refine pure_ (i := 5) (N := some 42) (v := ?_) (a' := ?_) #[true, true, true, true, true, true, false, false, false, false, false, false, false, false, false] rfl rfl (any_of HT_.out (by kernel_rfl)) (fun _ _ _ h => h) (Or.inl ⟨by rfl, ?_⟩) ?_ ?_
                      rotate_left
                      ·intro w'
                       go_simp
                       with_reducible rfl
                      rotate_left
                      ·simp only [Act.put, List.setIfInBounds_toArray, List.set_cons_zero, List.set_cons_succ, i64_w, i32_w]
                       rfl
                      refine pure_ (i := 6) (N := some 43) (v := ?_) (a' := ?_) #[true, true, true, true, true, true, true, false, false, false, false, false, false, false, false] rfl rfl (any_of HT_.out (by kernel_rfl)) (fun _ _ _ h => h) (Or.inl ⟨by rfl, ?_⟩) ?_ ?_
                      rotate_left
                      ·intro w'
                       go_simp
                       with_reducible rfl
                      rotate_left
                      ·simp only [Act.put, List.setIfInBounds_toArray, List.set_cons_zero, List.set_cons_succ, i64_w, i32_w]
                       rfl
                      refine pure_ (i := 8) (N := some 45) (v := ?_) (a' := ?_) #[true, true, true, true, true, true, true, false, true, false, false, false, false, false, false] rfl rfl (any_of HT_.out (by kernel_rfl)) (fun _ _ _ h => h) (Or.inl ⟨by rfl, ?_⟩) ?_ ?_
                      rotate_left
                      ·intro w'
                       go_simp
                       with_reducible rfl
                      rotate_left
                      ·simp only [Act.put, List.setIfInBounds_toArray, List.set_cons_zero, List.set_cons_succ, i64_w, i32_w]
                       rfl
                      refine pure_ (i := 9) (N := some 46) (v := ?_) (a' := ?_) #[true, true, true, true, true, true, true, false, true, true, false, false, false, false, false] rfl rfl (any_of HT_.out (by kernel_rfl)) (fun _ _ _ h => h) (Or.inl ⟨by rfl, ?_⟩) ?_ ?_
                      rotate_left
                      ·intro w'
                       go_simp
                       with_reducible rfl
                      rotate_left
                      ·simp only [Act.put, List.setIfInBounds_toArray, List.set_cons_zero, List.set_cons_succ, i64_w, i32_w]
                       rfl
                      refine pure_ (i := 10) (N := some 47) (v := ?_) (a' := ?_) #[true, true, true, true, true, true, true, false, true, true, true, false, false, false, false] rfl rfl (any_of HT_.out (by kernel_rfl)) (fun _ _ _ h => h) (Or.inl ⟨by rfl, ?_⟩) ?_ ?_
                      rotate_left
                      ·intro w'
                       go_simp
                       with_reducible rfl
                      rotate_left
                      ·simp only [Act.put, List.setIfInBounds_toArray, List.set_cons_zero, List.set_cons_succ, i64_w, i32_w]
                       rfl
                      refine take_ (i := 7) (N := some 44) (v := ?_) (a' := ?_) #[true, true, true, true, true, true, true, true, true, true, true, false, false, false, false] rfl rfl (take_ofW HT_.out HW_.out (by kernel_rfl)) (fun _ _ _ h => h) (Or.inl ⟨by rfl, ?_⟩) hHeld ?_ ?_
                      rotate_left
                      ·rintro w' ⟨s0, s1, s2, s3, s4, s5, s6, s7, s8, s9, s10, s11, s12, s13, s14, s15⟩
                       go_simp
                       with_reducible rfl
                      rotate_left
                      ·simp only [Act.put, List.setIfInBounds_toArray, List.set_cons_zero, List.set_cons_succ, i64_w, i32_w]
                       rfl
                      refine take_ (i := 11) (N := some 48) (v := ?_) (a' := ?_) #[true, true, true, true, true, true, true, true, true, true, true, true, false, false, false] rfl rfl (take_ofW HT_.out HW_.out (by kernel_rfl)) (fun _ _ _ h => h) (Or.inl ⟨by rfl, ?_⟩) hHeld ?_ ?_
                      rotate_left
                      ·rintro w' ⟨s0, s1, s2, s3, s4, s5, s6, s7, s8, s9, s10, s11, s12, s13, s14, s15⟩
                       go_simp
                       with_reducible rfl
                      rotate_left
                      ·simp only [Act.put, List.setIfInBounds_toArray, List.set_cons_zero, List.set_cons_succ, i64_w, i32_w]
                       rfl
                      refine one_ (i := 12) (N := some 49) #[true, true, true, true, true, true, true, true, true, true, true, true, true, false, false] rfl rfl (one_of HT_.out (by kernel_rfl)) (by decide) (fun K hK => ?_)
                      refine goes_ Try.func18 (by kernel_rfl) rfl #[.agg #[.int .i64 ((rd_T29 l0 (rd (l1.take (x11_1 : Int).toNat) x33_3)).f0), .int .i64 ((rd_T29 l0 (rd (l1.take (x11_1 : Int).toNat) x33_3)).f1), .int .i64 ((rd_T29 l0 (rd (l1.take (x11_1 : Int).toNat) x33_3)).f2), .int .i64 ((rd_T29 l0 (rd (l1.take (x11_1 : Int).toNat) x33_3)).f3), .int .i64 ((rd_T29 l0 (rd (l1.take (x11_1 : Int).toNat) x33_3)).f4), .int .i64 ((rd_T29 l0 (rd (l1.take (x11_1 : Int).toNat) x33_3)).f5), .int .i64 ((rd_T29 l0 (rd (l1.take (x11_1 : Int).toNat) x33_3)).f6), .slice A423_7 ((rd_T29 l0 (rd (l1.take (x11_1 : Int).toNat) x33_3)).f7).length c423_7], .agg #[.int .i64 ((rd_T29 l0 (rd l1 x11_1)).f0), .int .i64 ((rd_T29 l0 (rd l1 x11_1)).f1), .int .i64 ((rd_T29 l0 (rd l1 x11_1)).f2), .int .i64 ((rd_T29 l0 (rd l1 x11_1)).f3), .int .i64 ((rd_T29 l0 (rd l1 x11_1)).f4), .int .i64 ((rd_T29 l0 (rd l1 x11_1)).f5), .int .i64 ((rd_T29 l0 (rd l1 x11_1)).f6), .slice A424_7 ((rd_T29 l0 (rd l1 x11_1)).f7).length c424_7]] (by rfl) rfl rfl (by (try simp only [List.map_toArray, List.map_cons, List.map_nil]); first | done | rfl) ?_
                      with_reducible refine (impl_MayPass.calls k3 ((rd_T29 l0 (rd (l1.take (x11_1 : Int).toNat) x33_3)).f0) ((rd_T29 l0 (rd (l1.take (x11_1 : Int).toNat) x33_3)).f1) ((rd_T29 l0 (rd (l1.take (x11_1 : Int).toNat) x33_3)).f2) ((rd_T29 l0 (rd (l1.take (x11_1 : Int).toNat) x33_3)).f3) ((rd_T29 l0 (rd (l1.take (x11_1 : Int).toNat) x33_3)).f4) ((rd_T29 l0 (rd (l1.take (x11_1 : Int).toNat) x33_3)).f5) ((rd_T29 l0 (rd (l1.take (x11_1 : Int).toNat) x33_3)).f6) _ _ ((rd_T29 l0 (rd (l1.take (x11_1 : Int).toNat) x33_3)).f7) ((rd_T29 l0 (rd l1 x11_1)).f0) ((rd_T29 l0 (rd l1 x11_1)).f1) ((rd_T29 l0 (rd l1 x11_1)).f2) ((rd_T29 l0 (rd l1 x11_1)).f3) ((rd_T29 l0 (rd l1 x11_1)).f4) ((rd_T29 l0 (rd l1 x11_1)).f5) ((rd_T29 l0 (rd l1 x11_1)).f6) _ _ ((rd_T29 l0 (rd l1 x11_1)).f7) true _ ?side1 ?side2 ?side3 ?side4 A25.out).mono ?_
                      (case side1 => repeat (first | exact (Kd.C_below HR423_7.out HB.out) | (with_reducible refine Kd.C_alloc ?_ _) | (with_reducible refine Kd.C_drewN ?_ _) | (with_reducible refine Kd.C_drew ?_)))
                      (case side2 => exact HC423_7.out)
                      (case side3 => repeat (first | exact (Kd.C_below HR424_7.out HB.out) | (with_reducible refine Kd.C_alloc ?_ _) | (with_reducible refine Kd.C_drewN ?_ _) | (with_reducible refine Kd.C_drew ?_)))
                      (case side4 => exact HC424_7.out)
                      rintro e w28 ⟨rfl, hb⟩
                      refine ⟨_, rfl, ?_⟩
                      have n0_ := Aside0.mk (below_step (by repeat (first | (with_reducible first | exact HB.out | apply below_alloc | apply pw_below_drewN | apply below_drew1) | exact HB.out)) hb)
                      clear HB
                      have HB := n0_
                      clear n0_
                      refine hK.out _ _ ⟨((HB.out.cell (World.block_lt_of_cell? w _ hw423_0)).trans hw423_0), ((HB.out.cell (World.block_lt_of_cell? w _ hw423_1)).trans hw423_1), ((HB.out.cell (World.block_lt_of_cell? w _ hw423_2)).trans hw423_2), ((HB.out.cell (World.block_lt_of_cell? w _ hw423_3)).trans hw423_3), ((HB.out.cell (World.block_lt_of_cell? w _ hw423_4)).trans hw423_4), ((HB.out.cell (World.block_lt_of_cell? w _ hw423_5)).trans hw423_5), ((HB.out.cell (World.block_lt_of_cell? w _ hw423_6)).trans hw423_6), ((HB.out.cell (World.block_lt_of_cell? w _ hw423_7)).trans hw423_7), ((HB.out.cell (World.block_lt_of_cell? w _ hw424_0)).trans hw424_0), ((HB.out.cell (World.block_lt_of_cell? w _ hw424_1)).trans hw424_1), ((HB.out.cell (World.block_lt_of_cell? w _ hw424_2)).trans hw424_2), ((HB.out.cell (World.block_lt_of_cell? w _ hw424_3)).trans hw424_3), ((HB.out.cell (World.block_lt_of_cell? w _ hw424_4)).trans hw424_4), ((HB.out.cell (World.block_lt_of_cell? w _ hw424_5)).trans hw424_5), ((HB.out.cell (World.block_lt_of_cell? w _ hw424_6)).trans hw424_6), ((HB.out.cell (World.block_lt_of_cell? w _ hw424_7)).trans hw424_7)⟩ (fun hHeld => ?_)
                      clear hK K
                      refine norm_ (a' := ?_) ?_ ?_
                      rotate_left
                      ·show Act.put _ (some 49) _ = _
                       simp only [Act.put, List.setIfInBounds_toArray, List.set_cons_zero, List.set_cons_succ, i64_w, i32_w]
                       rfl
                      refine pure_ (i := 13) (N := some 50) (v := ?_) (a' := ?_) #[true, true, true, true, true, true, true, true, true, true, true, true, true, true, false] rfl rfl (any_of HT_.out (by kernel_rfl)) (fun _ _ _ h => h) (Or.inl ⟨by rfl, ?_⟩) ?_ ?_
                      rotate_left
                      ·intro w'
                       go_simp
                       with_reducible rfl
                      rotate_left
                      ·simp only [Act.put, List.setIfInBounds_toArray, List.set_cons_zero, List.set_cons_succ, i64_w, i32_w]
                       rfl
                      refine pure_ (i := 14) (N := some 51) (v := ?_) (a' := ?_) #[true, true, true, true, true, true, true, true, true, true, true, true, true, true, true] rfl rfl (any_of HT_.out (by kernel_rfl)) (fun _ _ _ h => h) (Or.inl ⟨by rfl, ?_⟩) ?_ ?_
                      rotate_left
                      ·intro w'
                       go_simp
                       with_reducible rfl
                      rotate_left
                      ·simp only [Act.put, List.setIfInBounds_toArray, List.set_cons_zero, List.set_cons_succ, i64_w, i32_w]
                       rfl
                      refine done_ (done_of HT_.out (by kernel_rfl)) ?_
                      try go_wp2
                      go_roundg k3
                      case measure => have := HK1.out; have := HJ5.out; have := HK3.out; omega
                      case rel => exact ⟨(wrap64 (x33_3 + 1)), (by first | rfl | (simp; done) | (simp [*]; done)), H', ⟨by have := HK1.out; have := HJ5.out; have := HK3.out; omega⟩, ⟨by repeat (first | (with_reducible first | exact HB.out | apply below_alloc | apply pw_below_drewN | apply below_drew1) | exact HB.out)⟩⟩
                     ·replace c26 := Bool.eq_false_iff.mpr c26
                      subst c26
                      have H1 : (some false) = some r := by rw [if_neg (show ¬ (false = true) by decide)] at H; exact H
                      clear H
                      have H := H1
                      clear H1
                      obtain rfl := Option.some.inj H
                      have p422 : 0 ≤ (x33_3 : Int) := of_decide_eq_true (by first | (with_reducible assumption) | assumption)
                      have q422 : x33_3 < ((l1.take (x11_1 : Int).toNat).length : Int) := of_decide_eq_true (by first | (with_reducible assumption) | assumption)
                      have q422m := eq_true (show x33_3 < max x11_1 0 from by rw [← HLM16.out]; exact q422)
                      obtain ⟨ad422, e422, hx422_0⟩ := Kd.at_int HR421.out x33_3 p422 q422
                      obtain rfl : ad417 = ad422 := (by injection e422)
                      replace hx422_0 := (HB.out.cell (World.block_lt_of_cell? w _ hx422_0)).trans hx422_0
                      replace p422 := eq_true p422
                      replace q422 := eq_true q422
                      try go_wp2
                      have n0_ := Aside0.mk (below_drew1 HB.out)
                      clear HB
                      have HB := n0_
                      clear n0_
                      have p423 : 0 ≤ ((rd (l1.take (x11_1 : Int).toNat) x33_3) : Int) := of_decide_eq_true (by first | (with_reducible assumption) | assumption)
                      have q423 : (rd (l1.take (x11_1 : Int).toNat) x33_3) < (l0.length : Int) := of_decide_eq_true (by first | (with_reducible assumption) | assumption)
                      obtain ⟨ad423, A423_7, c423_7, e423, hx423_0, hx423_1, hx423_2, hx423_3, hx423_4, hx423_5, hx423_6, hx423_7, hl423_7, hi423_7⟩ := at_T29 HR0.out (rd (l1.take (x11_1 : Int).toNat) x33_3) p423 q423
                      have hw423_7 := hx423_7
                      have hw423_6 := hx423_6
                      have hw423_5 := hx423_5
                      have hw423_4 := hx423_4
                      have hw423_3 := hx423_3
                      have hw423_2 := hx423_2
                      have hw423_1 := hx423_1
                      have hw423_0 := hx423_0
                      cases e423
                      replace hx423_0 := (HB.out.cell (World.block_lt_of_cell? w _ hx423_0)).trans hx423_0
                      replace hx423_1 := (HB.out.cell (World.block_lt_of_cell? w _ hx423_1)).trans hx423_1
                      replace hx423_2 := (HB.out.cell (World.block_lt_of_cell? w _ hx423_2)).trans hx423_2
                      replace hx423_3 := (HB.out.cell (World.block_lt_of_cell? w _ hx423_3)).trans hx423_3
                      replace hx423_4 := (HB.out.cell (World.block_lt_of_cell? w _ hx423_4)).trans hx423_4
                      replace hx423_5 := (HB.out.cell (World.block_lt_of_cell? w _ hx423_5)).trans hx423_5
                      replace hx423_6 := (HB.out.cell (World.block_lt_of_cell? w _ hx423_6)).trans hx423_6
                      replace hx423_7 := (HB.out.cell (World.block_lt_of_cell? w _ hx423_7)).trans hx423_7
                      have HR423_7 := Aside0.mk hi423_7
                      have HC423_7 := Aside0.mk hl423_7
                      clear hi423_7 hl423_7
                      replace p423 := eq_true p423
                      replace q423 := eq_true q423
                      have p424 : 0 ≤ ((rd l1 x11_1) : Int) := of_decide_eq_true (by first | (with_reducible assumption) | assumption)
                      have q424 : (rd l1 x11_1) < (l0.length : Int) := of_decide_eq_true (by first | (with_reducible assumption) | assumption)
                      obtain ⟨ad424, A424_7, c424_7, e424, hx424_0, hx424_1, hx424_2, hx424_3, hx424_4, hx424_5, hx424_6, hx424_7, hl424_7, hi424_7⟩ := at_T29 HR0.out (rd l1 x11_1) p424 q424
                      have hw424_7 := hx424_7
                      have hw424_6 := hx424_6
                      have hw424_5 := hx424_5
                      have hw424_4 := hx424_4
                      have hw424_3 := hx424_3
                      have hw424_2 := hx424_2
                      have hw424_1 := hx424_1
                      have hw424_0 := hx424_0
                      obtain rfl : ad423 = ad424 := (by injection e424)
                      replace hx424_0 := (HB.out.cell (World.block_lt_of_cell? w _ hx424_0)).trans hx424_0
                      replace hx424_1 := (HB.out.cell (World.block_lt_of_cell? w _ hx424_1)).trans hx424_1
                      replace hx424_2 := (HB.out.cell (World.block_lt_of_cell? w _ hx424_2)).trans hx424_2
                      replace hx424_3 := (HB.out.cell (World.block_lt_of_cell? w _ hx424_3)).trans hx424_3
                      replace hx424_4 := (HB.out.cell (World.block_lt_of_cell? w _ hx424_4)).trans hx424_4
                      replace hx424_5 := (HB.out.cell (World.block_lt_of_cell? w _ hx424_5)).trans hx424_5
                      replace hx424_6 := (HB.out.cell (World.block_lt_of_cell? w _ hx424_6)).trans hx424_6
                      replace hx424_7 := (HB.out.cell (World.block_lt_of_cell? w _ hx424_7)).trans hx424_7
                      have HR424_7 := Aside0.mk hi424_7
                      have HC424_7 := Aside0.mk hl424_7
                      clear hi424_7 hl424_7
                      replace p424 := eq_true p424
                      replace q424 := eq_true q424
                      refine start_ (n := 15) (S := fun w' => w'.cell? (ad423.add (((rd (l1.take (x11_1 : Int).toNat) x33_3)).toNat * 8)) = some (.int .i64 ((rd_T29 l0 (rd (l1.take (x11_1 : Int).toNat) x33_3)).f0)) ∧ w'.cell? ⟨(ad423.add (((rd (l1.take (x11_1 : Int).toNat) x33_3)).toNat * 8)).block, (ad423.add (((rd (l1.take (x11_1 : Int).toNat) x33_3)).toNat * 8)).off + 1, none⟩ = some (.int .i64 ((rd_T29 l0 (rd (l1.take (x11_1 : Int).toNat) x33_3)).f1)) ∧ w'.cell? ⟨(ad423.add (((rd (l1.take (x11_1 : Int).toNat) x33_3)).toNat * 8)).block, (ad423.add (((rd (l1.take (x11_1 : Int).toNat) x33_3)).toNat * 8)).off + 2, none⟩ = some (.int .i64 ((rd_T29 l0 (rd (l1.take (x11_1 : Int).toNat) x33_3)).f2)) ∧ w'.cell? ⟨(ad423.add (((rd (l1.take (x11_1 : Int).toNat) x33_3)).toNat * 8)).block, (ad423.add (((rd (l1.take (x11_1 : Int).toNat) x33_3)).toNat * 8)).off + 3, none⟩ = some (.int .i64 ((rd_T29 l0 (rd (l1.take (x11_1 : Int).toNat) x33_3)).f3)) ∧ w'.cell? ⟨(ad423.add (((rd (l1.take (x11_1 : Int).toNat) x33_3)).toNat * 8)).block, (ad423.add (((rd (l1.take (x11_1 : Int).toNat) x33_3)).toNat * 8)).off + 4, none⟩ = some (.int .i64 ((rd_T29 l0 (rd (l1.take (x11_1 : Int).toNat) x33_3)).f4)) ∧ w'.cell? ⟨(ad423.add (((rd (l1.take (x11_1 : Int).toNat) x33_3)).toNat * 8)).block, (ad423.add (((rd (l1.take (x11_1 : Int).toNat) x33_3)).toNat * 8)).off + 5, none⟩ = some (.int .i64 ((rd_T29 l0 (rd (l1.take (x11_1 : Int).toNat) x33_3)).f5)) ∧ w'.cell? ⟨(ad423.add (((rd (l1.take (x11_1 : Int).toNat) x33_3)).toNat * 8)).block, (ad423.add (((rd (l1.take (x11_1 : Int).toNat) x33_3)).toNat * 8)).off + 6, none⟩ = some (.int .i64 ((rd_T29 l0 (rd (l1.take (x11_1 : Int).toNat) x33_3)).f6)) ∧ w'.cell? ⟨(ad423.add (((rd (l1.take (x11_1 : Int).toNat) x33_3)).toNat * 8)).block, (ad423.add (((rd (l1.take (x11_1 : Int).toNat) x33_3)).toNat * 8)).off + 7, none⟩ = some (.slice A423_7 ((rd_T29 l0 (rd (l1.take (x11_1 : Int).toNat) x33_3)).f7).length c423_7) ∧ w'.cell? (ad423.add (((rd l1 x11_1)).toNat * 8)) = some (.int .i64 ((rd_T29 l0 (rd l1 x11_1)).f0)) ∧ w'.cell? ⟨(ad423.add (((rd l1 x11_1)).toNat * 8)).block, (ad423.add (((rd l1 x11_1)).toNat * 8)).off + 1, none⟩ = some (.int .i64 ((rd_T29 l0 (rd l1 x11_1)).f1)) ∧ w'.cell? ⟨(ad423.add (((rd l1 x11_1)).toNat * 8)).block, (ad423.add (((rd l1 x11_1)).toNat * 8)).off + 2, none⟩ = some (.int .i64 ((rd_T29 l0 (rd l1 x11_1)).f2)) ∧ w'.cell? ⟨(ad423.add (((rd l1 x11_1)).toNat * 8)).block, (ad423.add (((rd l1 x11_1)).toNat * 8)).off + 3, none⟩ = some (.int .i64 ((rd_T29 l0 (rd l1 x11_1)).f3)) ∧ w'.cell? ⟨(ad423.add (((rd l1 x11_1)).toNat * 8)).block, (ad423.add (((rd l1 x11_1)).toNat * 8)).off + 4, none⟩ = some (.int .i64 ((rd_T29 l0 (rd l1 x11_1)).f4)) ∧ w'.cell? ⟨(ad423.add (((rd l1 x11_1)).toNat * 8)).block, (ad423.add (((rd l1 x11_1)).toNat * 8)).off + 5, none⟩ = some (.int .i64 ((rd_T29 l0 (rd l1 x11_1)).f5)) ∧ w'.cell? ⟨(ad423.add (((rd l1 x11_1)).toNat * 8)).block, (ad423.add (((rd l1 x11_1)).toNat * 8)).off + 6, none⟩ = some (.int .i64 ((rd_T29 l0 (rd l1 x11_1)).f6)) ∧ w'.cell? ⟨(ad423.add (((rd l1 x11_1)).toNat * 8)).block, (ad423.add (((rd l1 x11_1)).toNat * 8)).off + 7, none⟩ = some (.slice A424_7 ((rd_T29 l0 (rd l1 x11_1)).f7).length c424_7)) (ds := []) #[false, false, false, false, false, false, false, false, false, false, false, false, false, false, false] (by kernel_rfl) rfl rfl ⟨((HB.out.cell (World.block_lt_of_cell? w _ hw423_0)).trans hw423_0), ((HB.out.cell (World.block_lt_of_cell? w _ hw423_1)).trans hw423_1), ((HB.out.cell (World.block_lt_of_cell? w _ hw423_2)).trans hw423_2), ((HB.out.cell (World.block_lt_of_cell? w _ hw423_3)).trans hw423_3), ((HB.out.cell (World.block_lt_of_cell? w _ hw423_4)).trans hw423_4), ((HB.out.cell (World.block_lt_of_cell? w _ hw423_5)).trans hw423_5), ((HB.out.cell (World.block_lt_of_cell? w _ hw423_6)).trans hw423_6), ((HB.out.cell (World.block_lt_of_cell? w _ hw423_7)).trans hw423_7), ((HB.out.cell (World.block_lt_of_cell? w _ hw424_0)).trans hw424_0), ((HB.out.cell (World.block_lt_of_cell? w _ hw424_1)).trans hw424_1), ((HB.out.cell (World.block_lt_of_cell? w _ hw424_2)).trans hw424_2), ((HB.out.cell (World.block_lt_of_cell? w _ hw424_3)).trans hw424_3), ((HB.out.cell (World.block_lt_of_cell? w _ hw424_4)).trans hw424_4), ((HB.out.cell (World.block_lt_of_cell? w _ hw424_5)).trans hw424_5), ((HB.out.cell (World.block_lt_of_cell? w _ hw424_6)).trans hw424_6), ((HB.out.cell (World.block_lt_of_cell? w _ hw424_7)).trans hw424_7)⟩ (fun hHeld => ?_); refine with_tabW impl_IsLegalOrder.tab9 impl_IsLegalOrder.bits9 (fun HT_ HW_ => ?_)
                      generalize wr.drew = w29 at HB HR423_7 HR424_7 hx423_0 hx423_1 hx423_2 hx423_3 hx423_4 hx423_5 hx423_6 hx423_7 hx424_0 hx424_1 hx424_2 hx424_3 hx424_4 hx424_5 hx424_6 hx424_7 hHeld ⊢
                      refine pure_ (i := 0) (N := some 37) (v := ?_) (a' := ?_) #[true, false, false, false, false, false, false, false, false, false, false, false, false, false, false] rfl rfl (any_of HT_.out (by kernel_rfl)) (fun _ _ _ h => h) (Or.inl ⟨by rfl, ?_⟩) ?_ ?_
                      rotate_left
                      ·intro w'
                       go_simp
                       with_reducible rfl
                      rotate_left
                      ·simp only [Act.put, List.setIfInBounds_toArray, List.set_cons_zero, List.set_cons_succ, i64_w, i32_w]
                       rfl
                      refine pure_ (i := 1) (N := some 38) (v := ?_) (a' := ?_) #[true, true, false, false, false, false, false, false, false, false, false, false, false, false, false] rfl rfl (any_of HT_.out (by kernel_rfl)) (fun _ _ _ h => h) (Or.inl ⟨by rfl, ?_⟩) ?_ ?_
                      rotate_left
                      ·intro w'
                       go_simp
                       with_reducible rfl
                      rotate_left
                      ·simp only [Act.put, List.setIfInBounds_toArray, List.set_cons_zero, List.set_cons_succ, i64_w, i32_w]
                       rfl
                      refine pure_ (i := 2) (N := some 39) (v := ?_) (a' := ?_) #[true, true, true, false, false, false, false, false, false, false, false, false, false, false, false] rfl rfl (any_of HT_.out (by kernel_rfl)) (fun _ _ _ h => h) (Or.inl ⟨by rfl, ?_⟩) ?_ ?_
                      rotate_left
                      ·intro w'
                       go_simp
                       with_reducible rfl
                      rotate_left
                      ·simp only [Act.put, List.setIfInBounds_toArray, List.set_cons_zero, List.set_cons_succ, i64_w, i32_w]
                       rfl
                      refine pure_ (i := 3) (N := some 40) (v := ?_) (a' := ?_) #[true, true, true, true, false, false, false, false, false, false, false, false, false, false, false] rfl rfl (any_of HT_.out (by kernel_rfl)) (fun _ _ _ h => h) (Or.inl ⟨by rfl, ?_⟩) ?_ ?_
                      rotate_left
                      ·intro w'
                       go_simp
                       with_reducible rfl
                      rotate_left
                      ·simp only [Act.put, List.setIfInBounds_toArray, List.set_cons_zero, List.set_cons_succ, i64_w, i32_w]
                       rfl
                      refine pure_ (i := 4) (N := some 41) (v := ?_) (a' := ?_) #[true, true, true, true, true, false, false, false, false, false, false, false, false, false, false] rfl rfl (any_of HT_.out (by kernel_rfl)) (fun _ _ _ h => h) (Or.inl ⟨by rfl, ?_⟩) ?_ ?_
                      rotate_left
                      ·intro w'
                       go_simp
                       with_reducible rfl
                      rotate_left
                      ·simp only [Act.put, List.setIfInBounds_toArray, List.set_cons_zero, List.set_cons_succ, i64_w, i32_w]
                       rfl
                      refine pure_ (i := 5) (N := some 42) (v := ?_) (a' := ?_) #[true, true, true, true, true, true, false, false, false, false, false, false, false, false, false] rfl rfl (any_of HT_.out (by kernel_rfl)) (fun _ _ _ h => h) (Or.inl ⟨by rfl, ?_⟩) ?_ ?_
                      rotate_left
                      ·intro w'
                       go_simp
                       with_reducible rfl
                      rotate_left
                      ·simp only [Act.put, List.setIfInBounds_toArray, List.set_cons_zero, List.set_cons_succ, i64_w, i32_w]
                       rfl
                      refine pure_ (i := 6) (N := some 43) (v := ?_) (a' := ?_) #[true, true, true, true, true, true, true, false, false, false, false, false, false, false, false] rfl rfl (any_of HT_.out (by kernel_rfl)) (fun _ _ _ h => h) (Or.inl ⟨by rfl, ?_⟩) ?_ ?_
                      rotate_left
                      ·intro w'
                       go_simp
                       with_reducible rfl
                      rotate_left
                      ·simp only [Act.put, List.setIfInBounds_toArray, List.set_cons_zero, List.set_cons_succ, i64_w, i32_w]
                       rfl
                      refine pure_ (i := 8) (N := some 45) (v := ?_) (a' := ?_) #[true, true, true, true, true, true, true, false, true, false, false, false, false, false, false] rfl rfl (any_of HT_.out (by kernel_rfl)) (fun _ _ _ h => h) (Or.inl ⟨by rfl, ?_⟩) ?_ ?_
                      rotate_left
                      ·intro w'
                       go_simp
                       with_reducible rfl
                      rotate_left
                      ·simp only [Act.put, List.setIfInBounds_toArray, List.set_cons_zero, List.set_cons_succ, i64_w, i32_w]
                       rfl
                      refine pure_ (i := 9) (N := some 46) (v := ?_) (a' := ?_) #[true, true, true, true, true, true, true, false, true, true, false, false, false, false, false] rfl rfl (any_of HT_.out (by kernel_rfl)) (fun _ _ _ h => h) (Or.inl ⟨by rfl, ?_⟩) ?_ ?_
                      rotate_left
                      ·intro w'
                       go_simp
                       with_reducible rfl
                      rotate_left
                      ·simp only [Act.put, List.setIfInBounds_toArray, List.set_cons_zero, List.set_cons_succ, i64_w, i32_w]
                       rfl
                      refine pure_ (i := 10) (N := some 47) (v := ?_) (a' := ?_) #[true, true, true, true, true, true, true, false, true, true, true, false, false, false, false] rfl rfl (any_of HT_.out (by kernel_rfl)) (fun _ _ _ h => h) (Or.inl ⟨by rfl, ?_⟩) ?_ ?_
                      rotate_left
                      ·intro w'
                       go_simp
                       with_reducible rfl
                      rotate_left
                      ·simp only [Act.put, List.setIfInBounds_toArray, List.set_cons_zero, List.set_cons_succ, i64_w, i32_w]
                       rfl
                      refine take_ (i := 7) (N := some 44) (v := ?_) (a' := ?_) #[true, true, true, true, true, true, true, true, true, true, true, false, false, false, false] rfl rfl (take_ofW HT_.out HW_.out (by kernel_rfl)) (fun _ _ _ h => h) (Or.inl ⟨by rfl, ?_⟩) hHeld ?_ ?_
                      rotate_left
                      ·rintro w' ⟨s0, s1, s2, s3, s4, s5, s6, s7, s8, s9, s10, s11, s12, s13, s14, s15⟩
                       go_simp
                       with_reducible rfl
                      rotate_left
                      ·simp only [Act.put, List.setIfInBounds_toArray, List.set_cons_zero, List.set_cons_succ, i64_w, i32_w]
                       rfl
                      refine take_ (i := 11) (N := some 48) (v := ?_) (a' := ?_) #[true, true, true, true, true, true, true, true, true, true, true, true, false, false, false] rfl rfl (take_ofW HT_.out HW_.out (by kernel_rfl)) (fun _ _ _ h => h) (Or.inl ⟨by rfl, ?_⟩) hHeld ?_ ?_
                      rotate_left
                      ·rintro w' ⟨s0, s1, s2, s3, s4, s5, s6, s7, s8, s9, s10, s11, s12, s13, s14, s15⟩
                       go_simp
                       with_reducible rfl
                      rotate_left
                      ·simp only [Act.put, List.setIfInBounds_toArray, List.set_cons_zero, List.set_cons_succ, i64_w, i32_w]
                       rfl
                      refine one_ (i := 12) (N := some 49) #[true, true, true, true, true, true, true, true, true, true, true, true, true, false, false] rfl rfl (one_of HT_.out (by kernel_rfl)) (by decide) (fun K hK => ?_)
                      refine goes_ Try.func18 (by kernel_rfl) rfl #[.agg #[.int .i64 ((rd_T29 l0 (rd (l1.take (x11_1 : Int).toNat) x33_3)).f0), .int .i64 ((rd_T29 l0 (rd (l1.take (x11_1 : Int).toNat) x33_3)).f1), .int .i64 ((rd_T29 l0 (rd (l1.take (x11_1 : Int).toNat) x33_3)).f2), .int .i64 ((rd_T29 l0 (rd (l1.take (x11_1 : Int).toNat) x33_3)).f3), .int .i64 ((rd_T29 l0 (rd (l1.take (x11_1 : Int).toNat) x33_3)).f4), .int .i64 ((rd_T29 l0 (rd (l1.take (x11_1 : Int).toNat) x33_3)).f5), .int .i64 ((rd_T29 l0 (rd (l1.take (x11_1 : Int).toNat) x33_3)).f6), .slice A423_7 ((rd_T29 l0 (rd (l1.take (x11_1 : Int).toNat) x33_3)).f7).length c423_7], .agg #[.int .i64 ((rd_T29 l0 (rd l1 x11_1)).f0), .int .i64 ((rd_T29 l0 (rd l1 x11_1)).f1), .int .i64 ((rd_T29 l0 (rd l1 x11_1)).f2), .int .i64 ((rd_T29 l0 (rd l1 x11_1)).f3), .int .i64 ((rd_T29 l0 (rd l1 x11_1)).f4), .int .i64 ((rd_T29 l0 (rd l1 x11_1)).f5), .int .i64 ((rd_T29 l0 (rd l1 x11_1)).f6), .slice A424_7 ((rd_T29 l0 (rd l1 x11_1)).f7).length c424_7]] (by rfl) rfl rfl (by (try simp only [List.map_toArray, List.map_cons, List.map_nil]); first | done | rfl) ?_
                      with_reducible refine (impl_MayPass.calls k3 ((rd_T29 l0 (rd (l1.take (x11_1 : Int).toNat) x33_3)).f0) ((rd_T29 l0 (rd (l1.take (x11_1 : Int).toNat) x33_3)).f1) ((rd_T29 l0 (rd (l1.take (x11_1 : Int).toNat) x33_3)).f2) ((rd_T29 l0 (rd (l1.take (x11_1 : Int).toNat) x33_3)).f3) ((rd_T29 l0 (rd (l1.take (x11_1 : Int).toNat) x33_3)).f4) ((rd_T29 l0 (rd (l1.take (x11_1 : Int).toNat) x33_3)).f5) ((rd_T29 l0 (rd (l1.take (x11_1 : Int).toNat) x33_3)).f6) _ _ ((rd_T29 l0 (rd (l1.take (x11_1 : Int).toNat) x33_3)).f7) ((rd_T29 l0 (rd l1 x11_1)).f0) ((rd_T29 l0 (rd l1 x11_1)).f1) ((rd_T29 l0 (rd l1 x11_1)).f2) ((rd_T29 l0 (rd l1 x11_1)).f3) ((rd_T29 l0 (rd l1 x11_1)).f4) ((rd_T29 l0 (rd l1 x11_1)).f5) ((rd_T29 l0 (rd l1 x11_1)).f6) _ _ ((rd_T29 l0 (rd l1 x11_1)).f7) false _ ?side1 ?side2 ?side3 ?side4 A25.out).mono ?_
                      (case side1 => repeat (first | exact (Kd.C_below HR423_7.out HB.out) | (with_reducible refine Kd.C_alloc ?_ _) | (with_reducible refine Kd.C_drewN ?_ _) | (with_reducible refine Kd.C_drew ?_)))
                      (case side2 => exact HC423_7.out)
                      (case side3 => repeat (first | exact (Kd.C_below HR424_7.out HB.out) | (with_reducible refine Kd.C_alloc ?_ _) | (with_reducible refine Kd.C_drewN ?_ _) | (with_reducible refine Kd.C_drew ?_)))
                      (case side4 => exact HC424_7.out)
                      rintro e w30 ⟨rfl, hb⟩
                      refine ⟨_, rfl, ?_⟩
                      have n0_ := Aside0.mk (below_step (by repeat (first | (with_reducible first | exact HB.out | apply below_alloc | apply pw_below_drewN | apply below_drew1) | exact HB.out)) hb)
                      clear HB
                      have HB := n0_
                      clear n0_
                      refine hK.out _ _ ⟨((HB.out.cell (World.block_lt_of_cell? w _ hw423_0)).trans hw423_0), ((HB.out.cell (World.block_lt_of_cell? w _ hw423_1)).trans hw423_1), ((HB.out.cell (World.block_lt_of_cell? w _ hw423_2)).trans hw423_2), ((HB.out.cell (World.block_lt_of_cell? w _ hw423_3)).trans hw423_3), ((HB.out.cell (World.block_lt_of_cell? w _ hw423_4)).trans hw423_4), ((HB.out.cell (World.block_lt_of_cell? w _ hw423_5)).trans hw423_5), ((HB.out.cell (World.block_lt_of_cell? w _ hw423_6)).trans hw423_6), ((HB.out.cell (World.block_lt_of_cell? w _ hw423_7)).trans hw423_7), ((HB.out.cell (World.block_lt_of_cell? w _ hw424_0)).trans hw424_0), ((HB.out.cell (World.block_lt_of_cell? w _ hw424_1)).trans hw424_1), ((HB.out.cell (World.block_lt_of_cell? w _ hw424_2)).trans hw424_2), ((HB.out.cell (World.block_lt_of_cell? w _ hw424_3)).trans hw424_3), ((HB.out.cell (World.block_lt_of_cell? w _ hw424_4)).trans hw424_4), ((HB.out.cell (World.block_lt_of_cell? w _ hw424_5)).trans hw424_5), ((HB.out.cell (World.block_lt_of_cell? w _ hw424_6)).trans hw424_6), ((HB.out.cell (World.block_lt_of_cell? w _ hw424_7)).trans hw424_7)⟩ (fun hHeld => ?_)
                      clear hK K
                      refine norm_ (a' := ?_) ?_ ?_
                      rotate_left
                      ·show Act.put _ (some 49) _ = _
                       simp only [Act.put, List.setIfInBounds_toArray, List.set_cons_zero, List.set_cons_succ, i64_w, i32_w]
                       rfl
                      refine pure_ (i := 13) (N := some 50) (v := ?_) (a' := ?_) #[true, true, true, true, true, true, true, true, true, true, true, true, true, true, false] rfl rfl (any_of HT_.out (by kernel_rfl)) (fun _ _ _ h => h) (Or.inl ⟨by rfl, ?_⟩) ?_ ?_
                      rotate_left
                      ·intro w'
                       go_simp
                       with_reducible rfl
                      rotate_left
                      ·simp only [Act.put, List.setIfInBounds_toArray, List.set_cons_zero, List.set_cons_succ, i64_w, i32_w]
                       rfl
                      refine pure_ (i := 14) (N := some 51) (v := ?_) (a' := ?_) #[true, true, true, true, true, true, true, true, true, true, true, true, true, true, true] rfl rfl (any_of HT_.out (by kernel_rfl)) (fun _ _ _ h => h) (Or.inl ⟨by rfl, ?_⟩) ?_ ?_
                      rotate_left
                      ·intro w'
                       go_simp
                       with_reducible rfl
                      rotate_left
                      ·simp only [Act.put, List.setIfInBounds_toArray, List.set_cons_zero, List.set_cons_succ, i64_w, i32_w]
                       rfl
                      refine done_ (done_of HT_.out (by kernel_rfl)) ?_
                      try go_wp2
                      go_ret
                      exact ⟨by first | rfl | (simp [errW_none, errW_some] <;> rfl) | (simp [*, errW_none, errW_some] <;> rfl), by repeat (first | (with_reducible first | exact HB.out | apply below_alloc | apply pw_below_drewN | apply below_drew1) | exact HB.out)⟩
                    ·rw [if_neg c24] at H
                     exact absurd H (by simp)
                   ·rw [if_neg c23] at H
                    exact absurd H (by simp)
                  ·rw [if_neg c22] at H
                   exact absurd H (by simp)
                 ·rw [if_neg c21] at H
                  exact absurd H (by simp)
                ·rw [if_neg c20] at H
                 have c20b0 : decide ((rd l1 x11_1) < (rd (l1.take (x11_1 : Int).toNat) x33_3)) = false := decide_eq_false c20
                 clear c20
                 have H' := Aside0.mk H
                 clear H
                 have p422 : 0 ≤ (x33_3 : Int) := of_decide_eq_true (by first | (with_reducible assumption) | assumption)
                 have q422 : x33_3 < ((l1.take (x11_1 : Int).toNat).length : Int) := of_decide_eq_true (by first | (with_reducible assumption) | assumption)
                 have q422m := eq_true (show x33_3 < max x11_1 0 from by rw [← HLM16.out]; exact q422)
                 obtain ⟨ad422, e422, hx422_0⟩ := Kd.at_int HR421.out x33_3 p422 q422
                 obtain rfl : ad417 = ad422 := (by injection e422)
                 replace hx422_0 := (HB.out.cell (World.block_lt_of_cell? w _ hx422_0)).trans hx422_0
                 replace p422 := eq_true p422
                 replace q422 := eq_true q422
                 try go_wp2
                 have n0_ := Aside0.mk (below_drew1 HB.out)
                 clear HB
                 have HB := n0_
                 clear n0_
                 refine start_ (n := 15) (S := fun w' => True) (ds := []) #[false, false, false, false, false, false, false, false, false, false, false, false, false, false, false] (by kernel_rfl) rfl rfl trivial (fun hHeld => ?_); refine with_tabW impl_IsLegalOrder.tab9 impl_IsLegalOrder.bits9 (fun HT_ HW_ => ?_)
                 generalize wr.drew = w31 at HB hHeld ⊢
                 refine pure_ (i := 0) (N := some 37) (v := ?_) (a' := ?_) #[true, false, false, false, false, false, false, false, false, false, false, false, false, false, false] rfl rfl (any_of HT_.out (by kernel_rfl)) (fun _ _ _ h => h) (Or.inl ⟨by rfl, ?_⟩) ?_ ?_
                 rotate_left
                 ·intro w'
                  go_simp
                  with_reducible rfl
                 rotate_left
                 ·simp only [Act.put, List.setIfInBounds_toArray, List.set_cons_zero, List.set_cons_succ, i64_w, i32_w]
                  rfl
                 refine pure_ (i := 1) (N := some 38) (v := ?_) (a' := ?_) #[true, true, false, false, false, false, false, false, false, false, false, false, false, false, false] rfl rfl (any_of HT_.out (by kernel_rfl)) (fun _ _ _ h => h) (Or.inl ⟨by rfl, ?_⟩) ?_ ?_
                 rotate_left
                 ·intro w'
                  go_simp
                  with_reducible rfl
                 rotate_left
                 ·simp only [Act.put, List.setIfInBounds_toArray, List.set_cons_zero, List.set_cons_succ, i64_w, i32_w]
                  rfl
                 refine pure_ (i := 2) (N := some 39) (v := ?_) (a' := ?_) #[true, true, true, false, false, false, false, false, false, false, false, false, false, false, false] rfl rfl (any_of HT_.out (by kernel_rfl)) (fun _ _ _ h => h) (Or.inl ⟨by rfl, ?_⟩) ?_ ?_
                 rotate_left
                 ·intro w'
                  go_simp
                  with_reducible rfl
                 rotate_left
                 ·simp only [Act.put, List.setIfInBounds_toArray, List.set_cons_zero, List.set_cons_succ, i64_w, i32_w]
                  rfl
                 refine pure_ (i := 3) (N := some 40) (v := ?_) (a' := ?_) #[true, true, true, true, false, false, false, false, false, false, false, false, false, false, false] rfl rfl (any_of HT_.out (by kernel_rfl)) (fun _ _ _ h => h) (Or.inl ⟨by rfl, ?_⟩) ?_ ?_
                 rotate_left
                 ·intro w'
                  go_simp
                  with_reducible rfl
                 rotate_left
                 ·simp only [Act.put, List.setIfInBounds_toArray, List.set_cons_zero, List.set_cons_succ, i64_w, i32_w]
                  rfl
                 refine pure_ (i := 4) (N := some 41) (v := undef) (a' := ?_) #[true, true, true, true, true, false, false, false, false, false, false, false, false, false, false] rfl rfl (any_of HT_.out (by kernel_rfl)) (fun _ _ _ h => h) (Or.inr ⟨by rfl, rfl⟩) ?_ ?_
                 rotate_left
                 ·simp only [Act.put, List.setIfInBounds_toArray, List.set_cons_zero, List.set_cons_succ, i64_w, i32_w]
                  rfl
                 refine pure_ (i := 5) (N := some 42) (v := undef) (a' := ?_) #[true, true, true, true, true, true, false, false, false, false, false, false, false, false, false] rfl rfl (any_of HT_.out (by kernel_rfl)) (fun _ _ _ h => h) (Or.inr ⟨by rfl, rfl⟩) ?_ ?_
                 rotate_left
                 ·simp only [Act.put, List.setIfInBounds_toArray, List.set_cons_zero, List.set_cons_succ, i64_w, i32_w]
                  rfl
                 refine pure_ (i := 6) (N := some 43) (v := undef) (a' := ?_) #[true, true, true, true, true, true, true, false, false, false, false, false, false, false, false] rfl rfl (any_of HT_.out (by kernel_rfl)) (fun _ _ _ h => h) (Or.inr ⟨by rfl, rfl⟩) ?_ ?_
                 rotate_left
                 ·simp only [Act.put, List.setIfInBounds_toArray, List.set_cons_zero, List.set_cons_succ, i64_w, i32_w]
                  rfl
                 refine pure_ (i := 7) (N := some 44) (v := undef) (a' := ?_) #[true, true, true, true, true, true, true, true, false, false, false, false, false, false, false] rfl rfl (any_of HT_.out (by kernel_rfl)) (fun _ _ _ h => h) (Or.inr ⟨by rfl, rfl⟩) ?_ ?_
                 rotate_left
                 ·simp only [Act.put, List.setIfInBounds_toArray, List.set_cons_zero, List.set_cons_succ, i64_w, i32_w]
                  rfl
                 refine pure_ (i := 8) (N := some 45) (v := undef) (a' := ?_) #[true, true, true, true, true, true, true, true, true, false, false, false, false, false, false] rfl rfl (any_of HT_.out (by kernel_rfl)) (fun _ _ _ h => h) (Or.inr ⟨by rfl, rfl⟩) ?_ ?_
                 rotate_left
                 ·simp only [Act.put, List.setIfInBounds_toArray, List.set_cons_zero, List.set_cons_succ, i64_w, i32_w]
                  rfl
                 refine pure_ (i := 9) (N := some 46) (v := undef) (a' := ?_) #[true, true, true, true, true, true, true, true, true, true, false, false, false, false, false] rfl rfl (any_of HT_.out (by kernel_rfl)) (fun _ _ _ h => h) (Or.inr ⟨by rfl, rfl⟩) ?_ ?_
                 rotate_left
                 ·simp only [Act.put, List.setIfInBounds_toArray, List.set_cons_zero, List.set_cons_succ, i64_w, i32_w]
                  rfl
                 refine pure_ (i := 10) (N := some 47) (v := undef) (a' := ?_) #[true, true, true, true, true, true, true, true, true, true, true, false, false, false, false] rfl rfl (any_of HT_.out (by kernel_rfl)) (fun _ _ _ h => h) (Or.inr ⟨by rfl, rfl⟩) ?_ ?_
                 rotate_left
                 ·simp only [Act.put, List.setIfInBounds_toArray, List.set_cons_zero, List.set_cons_succ, i64_w, i32_w]
                  rfl
                 refine pure_ (i := 11) (N := some 48) (v := undef) (a' := ?_) #[true, true, true, true, true, true, true, true, true, true, true, true, false, false, false] rfl rfl (any_of HT_.out (by kernel_rfl)) (fun _ _ _ h => h) (Or.inr ⟨by rfl, rfl⟩) ?_ ?_
                 rotate_left
                 ·simp only [Act.put, List.setIfInBounds_toArray, List.set_cons_zero, List.set_cons_succ, i64_w, i32_w]
                  rfl
                 refine pure_ (i := 12) (N := some 49) (v := undef) (a' := ?_) #[true, true, true, true, true, true, true, true, true, true, true, true, true, false, false] rfl rfl (any_of HT_.out (by kernel_rfl)) (fun _ _ _ h => h) (Or.inr ⟨by rfl, rfl⟩) ?_ ?_
                 rotate_left
                 ·simp only [Act.put, List.setIfInBounds_toArray, List.set_cons_zero, List.set_cons_succ, i64_w, i32_w]
                  rfl
                 refine pure_ (i := 13) (N := some 50) (v := undef) (a' := ?_) #[true, true, true, true, true, true, true, true, true, true, true, true, true, true, false] rfl rfl (any_of HT_.out (by kernel_rfl)) (fun _ _ _ h => h) (Or.inr ⟨by rfl, rfl⟩) ?_ ?_
                 rotate_left
                 ·simp only [Act.put, List.setIfInBounds_toArray, List.set_cons_zero, List.set_cons_succ, i64_w, i32_w]
                  rfl
                 refine pure_ (i := 14) (N := some 51) (v := ?_) (a' := ?_) #[true, true, true, true, true, true, true, true, true, true, true, true, true, true, true] rfl rfl (any_of HT_.out (by kernel_rfl)) (fun _ _ _ h => h) (Or.inl ⟨by rfl, ?_⟩) ?_ ?_
                 rotate_left
                 ·intro w'
                  go_simp
                  with_reducible rfl
                 rotate_left
                 ·simp only [Act.put, List.setIfInBounds_toArray, List.set_cons_zero, List.set_cons_succ, i64_w, i32_w]
                  rfl
                 refine done_ (done_of HT_.out (by kernel_rfl)) ?_
                 try go_wp2
                 go_roundg k3
                 case measure => have := HK1.out; have := HJ5.out; have := HK3.out; omega
                 case rel => exact ⟨(wrap64 (x33_3 + 1)), (by first | rfl | (simp; done) | (simp [*]; done)), H', ⟨by have := HK1.out; have := HJ5.out; have := HK3.out; omega⟩, ⟨by repeat (first | (with_reducible first | exact HB.out | apply below_alloc | apply pw_below_drewN | apply below_drew1) | exact HB.out)⟩⟩
               ·rw [if_neg c19] at H
                exact absurd H (by simp)
              ·rw [if_neg c18] at H
               exact absurd H (by simp)
             ·rw [if_neg c17] at H
              have c17b0 : decide (x33_3 < ((l1.take (x11_1 : Int).toNat).length : Int)) = false := decide_eq_false c17
              have c17b0m : decide (x33_3 < max x11_1 0) = false := by rw [← HLM16.out]; exact c17b0
              clear c17
              have H' := Aside0.mk H
              clear H
              go_wp2
              go_roundg k3
              case measure => have := HK1.out; have := HJ5.out; have := HK3.out; omega
              case rel => exact ⟨(wrap64 (x11_1 + 1)), (by first | rfl | (simp; done) | (simp [*]; done)), H', ⟨by have := HK1.out; have := HJ5.out; have := HK3.out; omega⟩, ⟨by repeat (first | (with_reducible first | exact HB.out | apply below_alloc | apply pw_below_drewN | apply below_drew1) | exact HB.out)⟩⟩
          ·rw [if_neg c15] at H
           exact absurd H (by simp)
         ·rw [if_neg c14] at H
          exact absurd H (by simp)
     ·rw [if_neg c5] at H
      exact absurd H (by simp)
    ·rw [if_neg c4] at H
     exact absurd H (by simp)
   ·rw [if_neg c3] at H
    have c3b0 : decide (x11_1 < (l1.length : Int)) = false := decide_eq_false c3
    clear c3
    obtain rfl := Option.some.inj H
    go_wp2
    go_ret
    exact ⟨by first | rfl | (simp [errW_none, errW_some] <;> rfl) | (simp [*, errW_none, errW_some] <;> rfl), by repeat (first | (with_reducible first | exact HB.out | apply below_alloc | apply pw_below_drewN | apply below_drew1) | exact HB.out)⟩

end Go.Proofs.Ytemapchppbpfmaa.PFnOrders
