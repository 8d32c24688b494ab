-- Written by a program of this session (wip/xp): not trusted, Lean checks it.
import Derived.Test.YtbdehpmfemgooaaPFnQueuesx0
import Derived.Test.YtbdehpmfemgooaaPFnQueuesx1
import Derived.Test.YtbdehpmfemgooaaPFnQueuesx4
namespace Go.Proofs.Ytbdehpmfemgooaa.PFnQueues
open Go.RowKit Go.Proofs.YtbdehpmfemgooaaW.PrintWords Go.Proofs.YtbdehpmfemgooaaW.PrintLast Go.Proofs.YtbdehpmfemgooaaW.PrintMore
attribute [local go_sem] max2_int min2_int max_two min_two max_three min_three max_four min_four   -- for this text's walks alone
set_option linter.unusedVariables false
set_option linter.unusedSimpArgs false

/-! ### impl_IsLegalOrder: function 29 -/
mutual
def impl_IsLegalOrder.l0 : Nat → List (S60) → List Int → List Int → Int → Int → Option (Bool)
 | 0, _, _, _, _, _ => none
 | k + 1, x0, x1, x9, x10, x11 => if x11 < x10 then (if 0 ≤ x11 then (if x11 < (x9.length : Int) then ((impl_within.f (rd x9 x11) 0 (wrap64 ((x0.length : Int) - 1))).bind fun t144 => (if t144 = true then (if x11 ≤ (x1.length : Int) then ((slices_Contains_int_int.f k (x1.take (x11 : Int).toNat) (rd x9 x11)).bind fun t146 => (impl_IsLegalOrder.j1 k x0 x1 x11 (rd x9 x11) x9 x10 x11 t146)) else (none)) else (impl_IsLegalOrder.j1 k x0 x1 x11 (rd x9 x11) x9 x10 x11 true))) else (none)) else (none)) else (some ((x1.length : Int) == (x0.length : Int)))
def impl_IsLegalOrder.j1 : Nat → List (S60) → List Int → Int → Int → List Int → Int → Int → Bool → Option (Bool)
 | 0, _, _, _, _, _, _, _, _ => none
 | k + 1, x0, x1, x5, x6, x9, x10, x11, x28 => if x28 = true then (some false) else (if 0 ≤ x5 then (if x5 ≤ (x1.length : Int) then (impl_IsLegalOrder.l1 k x0 x1 x6 x9 x10 x11 (x1.take (x5 : Int).toNat) ((x1.take (x5 : Int).toNat).length : Int) 0) else (none)) else (none))
def impl_IsLegalOrder.l1 : Nat → List (S60) → List Int → Int → List Int → Int → Int → List Int → Int → Int → Option (Bool)
 | 0, _, _, _, _, _, _, _, _, _ => none
 | k + 1, x0, x1, x6, x9, x10, x11, x31, x32, x33 => if x33 < x32 then (if 0 ≤ x33 then (if x33 < (x31.length : Int) then (if x6 < (rd x31 x33) then (if 0 ≤ (rd x31 x33) then (if (rd x31 x33) < (x0.length : Int) then (if 0 ≤ x6 then (if x6 < (x0.length : Int) then ((impl_MayPass.f k ((rd_T60 x0 (rd x31 x33)).f0) ((rd_T60 x0 (rd x31 x33)).f1) ((rd_T60 x0 (rd x31 x33)).f2) ((rd_T60 x0 (rd x31 x33)).f3) ((rd_T60 x0 (rd x31 x33)).f4) ((rd_T60 x0 (rd x31 x33)).f5) ((rd_T60 x0 (rd x31 x33)).f6) ((rd_T60 x0 (rd x31 x33)).f7) ((rd_T60 x0 x6).f0) ((rd_T60 x0 x6).f1) ((rd_T60 x0 x6).f2) ((rd_T60 x0 x6).f3) ((rd_T60 x0 x6).f4) ((rd_T60 x0 x6).f5) ((rd_T60 x0 x6).f6) ((rd_T60 x0 x6).f7)).bind fun t151 => (if t151 = true then (impl_IsLegalOrder.l1 k x0 x1 x6 x9 x10 x11 x31 x32 (wrap64 (x33 + 1))) else (some false))) else (none)) else (none)) else (none)) else (none)) else (impl_IsLegalOrder.l1 k x0 x1 x6 x9 x10 x11 x31 x32 (wrap64 (x33 + 1)))) else (none)) else (none)) else (impl_IsLegalOrder.l0 k x0 x1 x9 x10 (wrap64 (x11 + 1)))
end
def impl_IsLegalOrder.f (k : Nat) (l0 : List (S60)) (l1 : List Int) : Option (Bool) := impl_IsLegalOrder.l0 k l0 l1 l1 (l1.length : Int) 0
def impl_IsLegalOrder.T9 : Bool × List (List Nat × List Nat) := (true, [([], []), ([], []), ([0, 1], [0, 1]), ([2], [2]), ([3], [3]), ([3], [3]), ([4, 5, 3], [3, 4, 5]), ([6, 3], [3, 6]), ([3], [3]), ([3], [3]), ([8, 9, 3], [3, 8, 9]), ([10, 3], [3, 10]), ([7, 11, 3, 3], [3, 7, 11]), ([12, 3], [3, 12]), ([3, 13], [3, 13])])
def impl_IsLegalOrder.B9 : List Nat := [0, 0, 3, 7, 15, 15, 63, 127, 15, 15, 783, 1807, 4095, 8191, 16383]
theorem impl_IsLegalOrder.tab9 : rtab .any (opsOf Try.f29 9) = impl_IsLegalOrder.T9 := by kernel_rfl
theorem impl_IsLegalOrder.bits9 : waitsOk impl_IsLegalOrder.T9.2 impl_IsLegalOrder.B9 = true := by kernel_rfl
set_option maxHeartbeats 8000000 in
set_option maxRecDepth 100000 in
theorem impl_IsLegalOrder.calls (k : Nat) (A0 : Option Addr) (c0 : Nat) (l0 : List (S60)) (A1 : Option Addr) (c1 : Nat) (l1 : List Int) (r : Bool) (w : World) (hr0 : Kd.C k60 w A0 l0.length l0) (hc0 : l0.length ≤ c0) (hr1 : Kd.C (Kd.int .i64) w A1 l1.length l1) (hc1 : l1.length ≤ c1) (h : impl_IsLegalOrder.f k l0 l1 = some r) :
  Calls Try.prog 29 #[.slice A0 l0.length c0, .slice A1 l1.length c1] w fun e w' => e = .returned (.bool r) ∧ Below w.heap.size w w' := by
 have hu60 := Try.underlying60
 have HR0 := A_.mk hr0
 have HC0 := A_.mk hc0
 clear hr0 hc0
 have HR1 := A_.mk hr1
 have HC1 := A_.mk hc1
 clear hr1 hc1
 have HB := A_.mk (Below.refl w.heap.size w)
 have H : (impl_IsLegalOrder.l0 k l0 l1 l1 (l1.length : Int) 0) = some r := h
 clear h
 have H' := A_.mk H
 clear H
 go_enter Try.func29, Try.ntmps29
 go_wp2
 go_loopg [11] k (fun kq v11 w' => ∃ (x11_1 : Int), v11 = .int .i64 x11_1 ∧ A_ (impl_IsLegalOrder.l0 kq l0 l1 l1 (l1.length : Int) x11_1 = some r) ∧ A_ (kq ≤ k) ∧ A_ (Below w.heap.size w w'))
 case atStart => exact ⟨(0), (by first | rfl | (simp; done) | (simp [*]; done)), H', ⟨Nat.le_refl _⟩, ⟨beY HB.out⟩⟩
 case round =>
  clear H'
  obtain ⟨x11_1, rfl, HA, HK1, HB⟩ := hrel
  cases gk with
  | zero => exact absurd HA.out (by simp [impl_IsLegalOrder.l0])
  | succ k1 =>
   have H := HA.out
   clear HA
   simp only [impl_IsLegalOrder.l0] at H
   by_cases c3 : x11_1 < (l1.length : Int)
   rotate_left
   ·rw [if_neg c3] at H
    have c3b0 : decide (x11_1 < (l1.length : Int)) = false := decide_eq_false c3
    clear c3
    obtain rfl := Option.some.inj H
    go_wp2
    go_ret
    exact ⟨by first | rfl | (simp [errW_none, errW_some] <;> rfl) | (simp [*, errW_none, errW_some] <;> rfl), beY HB.out⟩
   rw [if_pos c3] at H
   have c3b0 : decide (x11_1 < (l1.length : Int)) = true := decide_eq_true c3
   clear c3
   by_cases c4 : 0 ≤ x11_1
   rotate_left
   ·rw [if_neg c4] at H
    exact absurd H (by simp)
   rw [if_pos c4] at H
   have c4b0 : decide (0 ≤ x11_1) = true := decide_eq_true c4
   clear c4
   by_cases c5 : x11_1 < (l1.length : Int)
   rotate_left
   ·rw [if_neg c5] at H
    exact absurd H (by simp)
   rw [if_pos c5] at H
   have c5b0 : decide (x11_1 < (l1.length : Int)) = true := decide_eq_true c5
   clear c5
   have HC6 := A_.mk H
   clear H
   have p143 : 0 ≤ (x11_1 : Int) := od_
   have q143 : x11_1 < (l1.length : Int) := od_
   obtain ⟨ad143, e143, hx143_0⟩ := Kd.at_int HR1.out x11_1 p143 q143
   cases e143
   replace hx143_0 := (HB.out.cell (wl_ w _ hx143_0)).trans hx143_0
   replace p143 := eq_true p143
   replace q143 := eq_true q143
   go_upto_region 4 with (fail)
   go_cut [28] (fun v28 wc => ∃ (kq : Nat) (x28_5 : Bool), v28 = .bool x28_5 ∧ A_ (impl_IsLegalOrder.j1 kq l0 l1 x11_1 (rd l1 x11_1) l1 (l1.length : Int) x11_1 x28_5 = some r) ∧ A_ (kq ≤ k1) ∧ A_ (Below w.heap.size w wc))
   case first =>
    have H := HC6.out
    clear HC6
    replace H := ob_ H
    obtain ⟨t144, A70, H⟩ := H
    have A7 := A_.mk A70
    clear A70
    by_cases c8 : t144 = true
    rotate_left
    ·replace c8 := Bool.eq_false_iff.mpr c8
     subst c8
     have H1 : (impl_IsLegalOrder.j1 k1 l0 l1 x11_1 (rd l1 x11_1) l1 (l1.length : Int) x11_1 true) = some r := by rw [if_neg (show ¬ (false = true) by decide)] at H; exact H
     clear H
     have H := H1
     clear H1
     have H' := A_.mk H
     clear H
     go_wp2_with (first | ((with_reducible refine gc_ (f := 55) rfl ?_); refine gl_ (some 20) Try.func55 #[.int .i64 (rd l1 x11_1), .int .i64 0, .int .i64 (wrap64 ((l0.length : Int) - 1))] ?_; (with_reducible refine (impl_within.calls (rd l1 x11_1) 0 (wrap64 ((l0.length : Int) - 1)) false _ A7.out).mono ?_); rintro e w' ⟨rfl, ⟨nd, rfl⟩⟩; refine ⟨_, rfl, ?_⟩))
     go_meet
     case rel => exact ⟨_, (true), (by first | rfl | (simp; done) | (simp [*]; done)), H', ⟨by have := HK1.out; first | omega | exact Nat.le_refl _⟩, ⟨beY HB.out⟩⟩
    subst c8
    have H1 : (if x11_1 ≤ (l1.length : Int) then ((slices_Contains_int_int.f k1 (l1.take (x11_1 : Int).toNat) (rd l1 x11_1)).bind fun t146 => (impl_IsLegalOrder.j1 k1 l0 l1 x11_1 (rd l1 x11_1) l1 (l1.length : Int) x11_1 t146)) else (none)) = some r := by rw [if_pos rfl] at H; exact H
    clear H
    have H := H1
    clear H1
    have c9b0 := eq_true (od_ : 0 ≤ x11_1)
    by_cases c10 : x11_1 ≤ (l1.length : Int)
    rotate_left
    ·rw [if_neg c10] at H
     exact absurd H (by simp)
    rw [if_pos c10] at H
    have c10b0 := eq_true c10
    have c10b1 : decide (x11_1 ≤ (l1.length : Int)) = true := decide_eq_true c10
    clear c10
    replace H := ob_ H
    obtain ⟨t146, A110, H⟩ := H
    have A11 := A_.mk A110
    clear A110
    have H' := A_.mk H
    clear H
    go_wp2_with (first | ((with_reducible refine gc_ (f := 55) rfl ?_); refine gl_ (some 20) Try.func55 #[.int .i64 (rd l1 x11_1), .int .i64 0, .int .i64 (wrap64 ((l0.length : Int) - 1))] ?_; (with_reducible refine (impl_within.calls (rd l1 x11_1) 0 (wrap64 ((l0.length : Int) - 1)) true _ A7.out).mono ?_); rintro e w' ⟨rfl, ⟨nd, rfl⟩⟩; refine ⟨_, rfl, ?_⟩; obtain ⟨i012, hi012, _, hsz12, _⟩ := info_parts info3; obtain ⟨hcut12, hA12, hC12⟩ := print_take_of (P := Try.prog) (Value.int .i64) 0 22 3 .i64 Try.underlying22 hi012 hsz12 (some ad143) c1 l1 x11_1 (od_) (od_) HC1.out; have HR145 := A_.mk (Kd.C_of_reads (h1 := fun _ => rfl) (hA12 _ (Kd.reads_of_C HR1.out))); have HC145 := A_.mk hC12; clear hA12 hC12 hi012 hsz12) | (go_at_call 56; refine calls_of_args (args' := #[.slice (some ad143) (l1.take (x11_1 : Int).toNat).length c1, .int .i64 (rd l1 x11_1)]) (by have h1 : x11_1 ≤ (l1.length : Int) := od_; have h0 : 0 ≤ (x11_1 : Int) := od_; rw [List.length_take, Nat.min_eq_left (by omega)]) ?_; (with_reducible refine (slices_Contains_int_int.calls k1 _ _ (l1.take (x11_1 : Int).toNat) (rd l1 x11_1) t146 _ ?side1 ?side2 A11.out).mono ?_); (case side1 => exact cY ((Kd.C_below HR145.out HB.out))); (case side2 => exact HC145.out); rintro e w' ⟨rfl, ⟨nd, rfl⟩⟩))
    go_meet
    case rel => exact ⟨_, (t146), (by first | rfl | (simp; done) | (simp [*]; done)), H', ⟨by have := HK1.out; first | omega | exact Nat.le_refl _⟩, ⟨beY HB.out⟩⟩
   case rest =>
    clear HC6
    obtain ⟨kq, x28_5, rfl, HA, HJ5, HB⟩ := hcut
    cases kq with
    | zero => exact absurd HA.out (by simp [impl_IsLegalOrder.j1])
    | succ kj5 =>
     have H := HA.out
     clear HA
     simp only [impl_IsLegalOrder.j1] at H
     by_cases c13 : x28_5 = true
     ·subst c13
      have H1 : (some false) = some r := by rw [if_pos rfl] at H; exact H
      clear H
      have H := H1
      clear H1
      obtain rfl := Option.some.inj H
      go_wp2
      go_ret
      exact ⟨by first | rfl | (simp [errW_none, errW_some] <;> rfl) | (simp [*, errW_none, errW_some] <;> rfl), beY HB.out⟩
     replace c13 := Bool.eq_false_iff.mpr c13
     subst c13
     have H1 : (if 0 ≤ x11_1 then (if x11_1 ≤ (l1.length : Int) then (impl_IsLegalOrder.l1 kj5 l0 l1 (rd l1 x11_1) l1 (l1.length : Int) x11_1 (l1.take (x11_1 : Int).toNat) ((l1.take (x11_1 : Int).toNat).length : Int) 0) else (none)) else (none)) = some r := by rw [if_neg (show ¬ (false = true) by decide)] at H; exact H
     clear H
     have H := H1
     clear H1
     by_cases c14 : 0 ≤ x11_1
     rotate_left
     ·rw [if_neg c14] at H
      exact absurd H (by simp)
     rw [if_pos c14] at H
     have c14b0 := eq_true c14
     have c14b1 : decide (0 ≤ x11_1) = true := decide_eq_true c14
     clear c14
     by_cases c15 : x11_1 ≤ (l1.length : Int)
     rotate_left
     ·rw [if_neg c15] at H
      exact absurd H (by simp)
     rw [if_pos c15] at H
     have c15b0 := eq_true c15
     have c15b1 : decide (x11_1 ≤ (l1.length : Int)) = true := decide_eq_true c15
     clear c15
     have H' := A_.mk H
     clear H
     obtain ⟨i016, hi016, _, hsz16, _⟩ := info_parts info3
     obtain ⟨hcut16, hA16, hC16⟩ := print_take_of (P := Try.prog) (Value.int .i64) 0 22 3 .i64 Try.underlying22 hi016 hsz16 (some ad143) c1 l1 x11_1 (od_) (od_) HC1.out
     have HLM16 := A_.mk (show (((l1.take (x11_1 : Int).toNat).length : Nat) : Int) = max x11_1 0 from by have h1 : x11_1 ≤ (l1.length : Int) := od_; have h0 : 0 ≤ (x11_1 : Int) := od_; rw [List.length_take]; omega)
     have HR147 := A_.mk (Kd.C_of_reads (h1 := fun _ => rfl) (hA16 _ (Kd.reads_of_C HR1.out)))
     have HC147 := A_.mk hC16
     clear hA16 hC16 hi016 hsz16
     go_wp2
     go_loopg [33] kj5 (fun kq v33 w' => ∃ (x33_3 : Int), v33 = .int .i64 x33_3 ∧ A_ (impl_IsLegalOrder.l1 kq l0 l1 (rd l1 x11_1) l1 (l1.length : Int) x11_1 (l1.take (x11_1 : Int).toNat) ((l1.take (x11_1 : Int).toNat).length : Int) x33_3 = some r) ∧ A_ (kq ≤ kj5) ∧ A_ (Below w.heap.size w w'))
     case atStart => exact ⟨(0), (by first | rfl | (simp; done) | (simp [*]; done)), H', ⟨Nat.le_refl _⟩, ⟨beY HB.out⟩⟩
     case round =>
      clear H'
      obtain ⟨x33_3, rfl, HA, HK3, HB⟩ := hrel
      cases gk with
      | zero => exact absurd HA.out (by simp [impl_IsLegalOrder.l1])
      | succ k3 =>
       have H := HA.out
       clear HA
       simp only [impl_IsLegalOrder.l1] at H
       by_cases c17 : x33_3 < ((l1.take (x11_1 : Int).toNat).length : Int)
       rotate_left
       ·rw [if_neg c17] at H
        have c17b0 : decide (x33_3 < ((l1.take (x11_1 : Int).toNat).length : Int)) = false := decide_eq_false c17
        have c17b0m : decide (x33_3 < max x11_1 0) = false := by rw [← HLM16.out]; exact c17b0
        clear c17
        have H' := A_.mk H
        clear H
        go_wp2
        go_roundg k3
        case measure => have := HK1.out; have := HJ5.out; have := HK3.out; omega
        case rel => exact ⟨(wrap64 (x11_1 + 1)), (by first | rfl | (simp; done) | (simp [*]; done)), H', ⟨by have := HK1.out; have := HJ5.out; have := HK3.out; omega⟩, ⟨beY HB.out⟩⟩
       rw [if_pos c17] at H
       have c17b0 : decide (x33_3 < ((l1.take (x11_1 : Int).toNat).length : Int)) = true := decide_eq_true c17
       have c17b0m : decide (x33_3 < max x11_1 0) = true := by rw [← HLM16.out]; exact c17b0
       clear c17
       by_cases c18 : 0 ≤ x33_3
       rotate_left
       ·rw [if_neg c18] at H
        exact absurd H (by simp)
       rw [if_pos c18] at H
       have c18b0 : decide (0 ≤ x33_3) = true := decide_eq_true c18
       clear c18
       by_cases c19 : x33_3 < ((l1.take (x11_1 : Int).toNat).length : Int)
       rotate_left
       ·rw [if_neg c19] at H
        exact absurd H (by simp)
       rw [if_pos c19] at H
       have c19b0 : decide (x33_3 < ((l1.take (x11_1 : Int).toNat).length : Int)) = true := decide_eq_true c19
       have c19b0m : decide (x33_3 < max x11_1 0) = true := by rw [← HLM16.out]; exact c19b0
       clear c19
       by_cases c20 : (rd l1 x11_1) < (rd (l1.take (x11_1 : Int).toNat) x33_3)
       rotate_left
       ·rw [if_neg c20] at H
        have c20b0 : decide ((rd l1 x11_1) < (rd (l1.take (x11_1 : Int).toNat) x33_3)) = false := decide_eq_false c20
        clear c20
        have H' := A_.mk H
        clear H
        have p148 : 0 ≤ (x33_3 : Int) := od_
        have q148 : x33_3 < ((l1.take (x11_1 : Int).toNat).length : Int) := od_
        have q148m := eq_true (show x33_3 < max x11_1 0 from by rw [← HLM16.out]; exact q148)
        obtain ⟨ad148, e148, hx148_0⟩ := Kd.at_int HR147.out x33_3 p148 q148
        obtain rfl : ad143 = ad148 := (by injection e148)
        replace hx148_0 := (HB.out.cell (wl_ w _ hx148_0)).trans hx148_0
        replace p148 := eq_true p148
        replace q148 := eq_true q148
        try go_wp2
        have n0_ := A_.mk (be_ HB.out)
        clear HB
        have HB := n0_
        clear n0_
        refine start_ (n := 15) (S := fun w' => True) (ds := []) #[F, F, F, F, F, F, F, F, F, F, F, F, F, F, F] (by kernel_rfl) rfl rfl trivial (fun hHeld => ?_); refine with_tabW impl_IsLegalOrder.tab9 impl_IsLegalOrder.bits9 (fun HT_ HW_ => ?_)
        generalize wr.drew = w31 at HB hHeld ⊢
        refine pr_ (i := 0) (N := some 37) #[T, F, F, F, F, F, F, F, F, F, F, F, F, F, F] rfl HT_.out ?_
        refine pr_ (i := 1) (N := some 38) #[T, T, F, F, F, F, F, F, F, F, F, F, F, F, F] rfl HT_.out ?_
        refine pr_ (i := 2) (N := some 39) #[T, T, T, F, F, F, F, F, F, F, F, F, F, F, F] rfl HT_.out ?_
        refine pr_ (i := 3) (N := some 40) #[T, T, T, T, F, F, F, F, F, F, F, F, F, F, F] rfl HT_.out ?_
        refine pu_ (i := 4) (N := some 41) #[T, T, T, T, T, F, F, F, F, F, F, F, F, F, F] rfl HT_.out ?_
        refine pu_ (i := 5) (N := some 42) #[T, T, T, T, T, T, F, F, F, F, F, F, F, F, F] rfl HT_.out ?_
        refine pu_ (i := 6) (N := some 43) #[T, T, T, T, T, T, T, F, F, F, F, F, F, F, F] rfl HT_.out ?_
        refine pu_ (i := 7) (N := some 44) #[T, T, T, T, T, T, T, T, F, F, F, F, F, F, F] rfl HT_.out ?_
        refine pu_ (i := 8) (N := some 45) #[T, T, T, T, T, T, T, T, T, F, F, F, F, F, F] rfl HT_.out ?_
        refine pu_ (i := 9) (N := some 46) #[T, T, T, T, T, T, T, T, T, T, F, F, F, F, F] rfl HT_.out ?_
        refine pu_ (i := 10) (N := some 47) #[T, T, T, T, T, T, T, T, T, T, T, F, F, F, F] rfl HT_.out ?_
        refine pu_ (i := 11) (N := some 48) #[T, T, T, T, T, T, T, T, T, T, T, T, F, F, F] rfl HT_.out ?_
        refine pu_ (i := 12) (N := some 49) #[T, T, T, T, T, T, T, T, T, T, T, T, T, F, F] rfl HT_.out ?_
        refine pu_ (i := 13) (N := some 50) #[T, T, T, T, T, T, T, T, T, T, T, T, T, T, F] rfl HT_.out ?_
        refine pr_ (i := 14) (N := some 51) #[T, T, T, T, T, T, T, T, T, T, T, T, T, T, T] rfl HT_.out ?_
        refine done_ (done_of HT_.out (by kernel_rfl)) ?_
        try go_wp2
        go_roundg k3
        case measure => have := HK1.out; have := HJ5.out; have := HK3.out; omega
        case rel => exact ⟨(wrap64 (x33_3 + 1)), (by first | rfl | (simp; done) | (simp [*]; done)), H', ⟨by have := HK1.out; have := HJ5.out; have := HK3.out; omega⟩, ⟨beY HB.out⟩⟩
       rw [if_pos c20] at H
       have c20b0 : decide ((rd l1 x11_1) < (rd (l1.take (x11_1 : Int).toNat) x33_3)) = true := decide_eq_true c20
       clear c20
       by_cases c21 : 0 ≤ (rd (l1.take (x11_1 : Int).toNat) x33_3)
       rotate_left
       ·rw [if_neg c21] at H
        exact absurd H (by simp)
       rw [if_pos c21] at H
       have c21b0 : decide (0 ≤ (rd (l1.take (x11_1 : Int).toNat) x33_3)) = true := decide_eq_true c21
       clear c21
       by_cases c22 : (rd (l1.take (x11_1 : Int).toNat) x33_3) < (l0.length : Int)
       rotate_left
       ·rw [if_neg c22] at H
        exact absurd H (by simp)
       rw [if_pos c22] at H
       have c22b0 : decide ((rd (l1.take (x11_1 : Int).toNat) x33_3) < (l0.length : Int)) = true := decide_eq_true c22
       clear c22
       by_cases c23 : 0 ≤ (rd l1 x11_1)
       rotate_left
       ·rw [if_neg c23] at H
        exact absurd H (by simp)
       rw [if_pos c23] at H
       have c23b0 : decide (0 ≤ (rd l1 x11_1)) = true := decide_eq_true c23
       clear c23
       by_cases c24 : (rd l1 x11_1) < (l0.length : Int)
       rotate_left
       ·rw [if_neg c24] at H
        exact absurd H (by simp)
       rw [if_pos c24] at H
       have c24b0 : decide ((rd l1 x11_1) < (l0.length : Int)) = true := decide_eq_true c24
       clear c24
       replace H := ob_ H
       obtain ⟨t151, A250, H⟩ := H
       have A25 := A_.mk A250
       clear A250
       by_cases c26 : t151 = true
       rotate_left
       ·replace c26 := Bool.eq_false_iff.mpr c26
        subst c26
        have H1 : (some false) = some r := by rw [if_neg (show ¬ (false = true) by decide)] at H; exact H
        clear H
        have H := H1
        clear H1
        obtain rfl := Option.some.inj H
        have p148 : 0 ≤ (x33_3 : Int) := od_
        have q148 : x33_3 < ((l1.take (x11_1 : Int).toNat).length : Int) := od_
        have q148m := eq_true (show x33_3 < max x11_1 0 from by rw [← HLM16.out]; exact q148)
        obtain ⟨ad148, e148, hx148_0⟩ := Kd.at_int HR147.out x33_3 p148 q148
        obtain rfl : ad143 = ad148 := (by injection e148)
        replace hx148_0 := (HB.out.cell (wl_ w _ hx148_0)).trans hx148_0
        replace p148 := eq_true p148
        replace q148 := eq_true q148
        try go_wp2
        have n0_ := A_.mk (be_ HB.out)
        clear HB
        have HB := n0_
        clear n0_
        have p149 : 0 ≤ ((rd (l1.take (x11_1 : Int).toNat) x33_3) : Int) := od_
        have q149 : (rd (l1.take (x11_1 : Int).toNat) x33_3) < (l0.length : Int) := od_
        obtain ⟨ad149, A149_7, c149_7, e149, hx149_0, hx149_1, hx149_2, hx149_3, hx149_4, hx149_5, hx149_6, hx149_7, hl149_7, hi149_7⟩ := at_T60 HR0.out (rd (l1.take (x11_1 : Int).toNat) x33_3) p149 q149
        have hw149_7 := hx149_7
        have hw149_6 := hx149_6
        have hw149_5 := hx149_5
        have hw149_4 := hx149_4
        have hw149_3 := hx149_3
        have hw149_2 := hx149_2
        have hw149_1 := hx149_1
        have hw149_0 := hx149_0
        cases e149
        replace hx149_0 := (HB.out.cell (wl_ w _ hx149_0)).trans hx149_0
        replace hx149_1 := (HB.out.cell (wl_ w _ hx149_1)).trans hx149_1
        replace hx149_2 := (HB.out.cell (wl_ w _ hx149_2)).trans hx149_2
        replace hx149_3 := (HB.out.cell (wl_ w _ hx149_3)).trans hx149_3
        replace hx149_4 := (HB.out.cell (wl_ w _ hx149_4)).trans hx149_4
        replace hx149_5 := (HB.out.cell (wl_ w _ hx149_5)).trans hx149_5
        replace hx149_6 := (HB.out.cell (wl_ w _ hx149_6)).trans hx149_6
        replace hx149_7 := (HB.out.cell (wl_ w _ hx149_7)).trans hx149_7
        have HR149_7 := A_.mk hi149_7
        have HC149_7 := A_.mk hl149_7
        clear hi149_7 hl149_7
        replace p149 := eq_true p149
        replace q149 := eq_true q149
        have p150 : 0 ≤ ((rd l1 x11_1) : Int) := od_
        have q150 : (rd l1 x11_1) < (l0.length : Int) := od_
        obtain ⟨ad150, A150_7, c150_7, e150, hx150_0, hx150_1, hx150_2, hx150_3, hx150_4, hx150_5, hx150_6, hx150_7, hl150_7, hi150_7⟩ := at_T60 HR0.out (rd l1 x11_1) p150 q150
        have hw150_7 := hx150_7
        have hw150_6 := hx150_6
        have hw150_5 := hx150_5
        have hw150_4 := hx150_4
        have hw150_3 := hx150_3
        have hw150_2 := hx150_2
        have hw150_1 := hx150_1
        have hw150_0 := hx150_0
        obtain rfl : ad149 = ad150 := (by injection e150)
        replace hx150_0 := (HB.out.cell (wl_ w _ hx150_0)).trans hx150_0
        replace hx150_1 := (HB.out.cell (wl_ w _ hx150_1)).trans hx150_1
        replace hx150_2 := (HB.out.cell (wl_ w _ hx150_2)).trans hx150_2
        replace hx150_3 := (HB.out.cell (wl_ w _ hx150_3)).trans hx150_3
        replace hx150_4 := (HB.out.cell (wl_ w _ hx150_4)).trans hx150_4
        replace hx150_5 := (HB.out.cell (wl_ w _ hx150_5)).trans hx150_5
        replace hx150_6 := (HB.out.cell (wl_ w _ hx150_6)).trans hx150_6
        replace hx150_7 := (HB.out.cell (wl_ w _ hx150_7)).trans hx150_7
        have HR150_7 := A_.mk hi150_7
        have HC150_7 := A_.mk hl150_7
        clear hi150_7 hl150_7
        replace p150 := eq_true p150
        replace q150 := eq_true q150
        refine start_ (n := 15) (S := fun w' => w'.cell? (ad149.add (((rd (l1.take (x11_1 : Int).toNat) x33_3)).toNat * 8)) = some (.int .i64 ((rd_T60 l0 (rd (l1.take (x11_1 : Int).toNat) x33_3)).f0)) ∧ w'.cell? ⟨(ad149.add (((rd (l1.take (x11_1 : Int).toNat) x33_3)).toNat * 8)).block, (ad149.add (((rd (l1.take (x11_1 : Int).toNat) x33_3)).toNat * 8)).off + 1, none⟩ = some (.int .i64 ((rd_T60 l0 (rd (l1.take (x11_1 : Int).toNat) x33_3)).f1)) ∧ w'.cell? ⟨(ad149.add (((rd (l1.take (x11_1 : Int).toNat) x33_3)).toNat * 8)).block, (ad149.add (((rd (l1.take (x11_1 : Int).toNat) x33_3)).toNat * 8)).off + 2, none⟩ = some (.int .i64 ((rd_T60 l0 (rd (l1.take (x11_1 : Int).toNat) x33_3)).f2)) ∧ w'.cell? ⟨(ad149.add (((rd (l1.take (x11_1 : Int).toNat) x33_3)).toNat * 8)).block, (ad149.add (((rd (l1.take (x11_1 : Int).toNat) x33_3)).toNat * 8)).off + 3, none⟩ = some (.int .i64 ((rd_T60 l0 (rd (l1.take (x11_1 : Int).toNat) x33_3)).f3)) ∧ w'.cell? ⟨(ad149.add (((rd (l1.take (x11_1 : Int).toNat) x33_3)).toNat * 8)).block, (ad149.add (((rd (l1.take (x11_1 : Int).toNat) x33_3)).toNat * 8)).off + 4, none⟩ = some (.int .i64 ((rd_T60 l0 (rd (l1.take (x11_1 : Int).toNat) x33_3)).f4)) ∧ w'.cell? ⟨(ad149.add (((rd (l1.take (x11_1 : Int).toNat) x33_3)).toNat * 8)).block, (ad149.add (((rd (l1.take (x11_1 : Int).toNat) x33_3)).toNat * 8)).off + 5, none⟩ = some (.int .i64 ((rd_T60 l0 (rd (l1.take (x11_1 : Int).toNat) x33_3)).f5)) ∧ w'.cell? ⟨(ad149.add (((rd (l1.take (x11_1 : Int).toNat) x33_3)).toNat * 8)).block, (ad149.add (((rd (l1.take (x11_1 : Int).toNat) x33_3)).toNat * 8)).off + 6, none⟩ = some (.int .i64 ((rd_T60 l0 (rd (l1.take (x11_1 : Int).toNat) x33_3)).f6)) ∧ w'.cell? ⟨(ad149.add (((rd (l1.take (x11_1 : Int).toNat) x33_3)).toNat * 8)).block, (ad149.add (((rd (l1.take (x11_1 : Int).toNat) x33_3)).toNat * 8)).off + 7, none⟩ = some (.slice A149_7 ((rd_T60 l0 (rd (l1.take (x11_1 : Int).toNat) x33_3)).f7).length c149_7) ∧ w'.cell? (ad149.add (((rd l1 x11_1)).toNat * 8)) = some (.int .i64 ((rd_T60 l0 (rd l1 x11_1)).f0)) ∧ w'.cell? ⟨(ad149.add (((rd l1 x11_1)).toNat * 8)).block, (ad149.add (((rd l1 x11_1)).toNat * 8)).off + 1, none⟩ = some (.int .i64 ((rd_T60 l0 (rd l1 x11_1)).f1)) ∧ w'.cell? ⟨(ad149.add (((rd l1 x11_1)).toNat * 8)).block, (ad149.add (((rd l1 x11_1)).toNat * 8)).off + 2, none⟩ = some (.int .i64 ((rd_T60 l0 (rd l1 x11_1)).f2)) ∧ w'.cell? ⟨(ad149.add (((rd l1 x11_1)).toNat * 8)).block, (ad149.add (((rd l1 x11_1)).toNat * 8)).off + 3, none⟩ = some (.int .i64 ((rd_T60 l0 (rd l1 x11_1)).f3)) ∧ w'.cell? ⟨(ad149.add (((rd l1 x11_1)).toNat * 8)).block, (ad149.add (((rd l1 x11_1)).toNat * 8)).off + 4, none⟩ = some (.int .i64 ((rd_T60 l0 (rd l1 x11_1)).f4)) ∧ w'.cell? ⟨(ad149.add (((rd l1 x11_1)).toNat * 8)).block, (ad149.add (((rd l1 x11_1)).toNat * 8)).off + 5, none⟩ = some (.int .i64 ((rd_T60 l0 (rd l1 x11_1)).f5)) ∧ w'.cell? ⟨(ad149.add (((rd l1 x11_1)).toNat * 8)).block, (ad149.add (((rd l1 x11_1)).toNat * 8)).off + 6, none⟩ = some (.int .i64 ((rd_T60 l0 (rd l1 x11_1)).f6)) ∧ w'.cell? ⟨(ad149.add (((rd l1 x11_1)).toNat * 8)).block, (ad149.add (((rd l1 x11_1)).toNat * 8)).off + 7, none⟩ = some (.slice A150_7 ((rd_T60 l0 (rd l1 x11_1)).f7).length c150_7)) (ds := []) #[F, F, F, F, F, F, F, F, F, F, F, F, F, F, F] (by kernel_rfl) rfl rfl ⟨((HB.out.cell (wl_ w _ hw149_0)).trans hw149_0), ((HB.out.cell (wl_ w _ hw149_1)).trans hw149_1), ((HB.out.cell (wl_ w _ hw149_2)).trans hw149_2), ((HB.out.cell (wl_ w _ hw149_3)).trans hw149_3), ((HB.out.cell (wl_ w _ hw149_4)).trans hw149_4), ((HB.out.cell (wl_ w _ hw149_5)).trans hw149_5), ((HB.out.cell (wl_ w _ hw149_6)).trans hw149_6), ((HB.out.cell (wl_ w _ hw149_7)).trans hw149_7), ((HB.out.cell (wl_ w _ hw150_0)).trans hw150_0), ((HB.out.cell (wl_ w _ hw150_1)).trans hw150_1), ((HB.out.cell (wl_ w _ hw150_2)).trans hw150_2), ((HB.out.cell (wl_ w _ hw150_3)).trans hw150_3), ((HB.out.cell (wl_ w _ hw150_4)).trans hw150_4), ((HB.out.cell (wl_ w _ hw150_5)).trans hw150_5), ((HB.out.cell (wl_ w _ hw150_6)).trans hw150_6), ((HB.out.cell (wl_ w _ hw150_7)).trans hw150_7)⟩ (fun hHeld => ?_); refine with_tabW impl_IsLegalOrder.tab9 impl_IsLegalOrder.bits9 (fun HT_ HW_ => ?_)
        generalize wr.drew = w29 at HB HR149_7 HR150_7 hx149_0 hx149_1 hx149_2 hx149_3 hx149_4 hx149_5 hx149_6 hx149_7 hx150_0 hx150_1 hx150_2 hx150_3 hx150_4 hx150_5 hx150_6 hx150_7 hHeld ⊢
        refine pr_ (i := 0) (N := some 37) #[T, F, F, F, F, F, F, F, F, F, F, F, F, F, F] rfl HT_.out ?_
        refine pr_ (i := 1) (N := some 38) #[T, T, F, F, F, F, F, F, F, F, F, F, F, F, F] rfl HT_.out ?_
        refine pr_ (i := 2) (N := some 39) #[T, T, T, F, F, F, F, F, F, F, F, F, F, F, F] rfl HT_.out ?_
        refine pr_ (i := 3) (N := some 40) #[T, T, T, T, F, F, F, F, F, F, F, F, F, F, F] rfl HT_.out ?_
        refine pr_ (i := 4) (N := some 41) #[T, T, T, T, T, F, F, F, F, F, F, F, F, F, F] rfl HT_.out ?_
        refine pr_ (i := 5) (N := some 42) #[T, T, T, T, T, T, F, F, F, F, F, F, F, F, F] rfl HT_.out ?_
        refine pr_ (i := 6) (N := some 43) #[T, T, T, T, T, T, T, F, F, F, F, F, F, F, F] rfl HT_.out ?_
        refine pr_ (i := 8) (N := some 45) #[T, T, T, T, T, T, T, F, T, F, F, F, F, F, F] rfl HT_.out ?_
        refine pr_ (i := 9) (N := some 46) #[T, T, T, T, T, T, T, F, T, T, F, F, F, F, F] rfl HT_.out ?_
        refine pr_ (i := 10) (N := some 47) #[T, T, T, T, T, T, T, F, T, T, T, F, F, F, F] rfl HT_.out ?_
        refine take_ (i := 7) (N := some 44) (v := ?_) (a' := ?_) #[T, T, T, T, T, T, T, T, T, T, T, F, F, F, F] rfl rfl (take_ofW HT_.out HW_.out (by kernel_rfl)) (fun _ _ _ h => h) (Or.inl ⟨by rfl, ?_⟩) hHeld ?_ ?_
        rotate_left
        ·rintro w' ⟨s0, s1, s2, s3, s4, s5, s6, s7, s8, s9, s10, s11, s12, s13, s14, s15⟩
         go_simp
         with_reducible rfl
        rotate_left
        ·simp only [pS]
         rfl
        refine take_ (i := 11) (N := some 48) (v := ?_) (a' := ?_) #[T, T, T, T, T, T, T, T, T, T, T, T, F, F, F] rfl rfl (take_ofW HT_.out HW_.out (by kernel_rfl)) (fun _ _ _ h => h) (Or.inl ⟨by rfl, ?_⟩) hHeld ?_ ?_
        rotate_left
        ·rintro w' ⟨s0, s1, s2, s3, s4, s5, s6, s7, s8, s9, s10, s11, s12, s13, s14, s15⟩
         go_simp
         with_reducible rfl
        rotate_left
        ·simp only [pS]
         rfl
        refine one_ (i := 12) (N := some 49) #[T, T, T, T, T, T, T, T, T, T, T, T, T, F, F] rfl rfl (one_of HT_.out (by kernel_rfl)) (by decide) (fun K hK => ?_)
        refine goes_ Try.func57 (by kernel_rfl) rfl #[.agg #[.int .i64 ((rd_T60 l0 (rd (l1.take (x11_1 : Int).toNat) x33_3)).f0), .int .i64 ((rd_T60 l0 (rd (l1.take (x11_1 : Int).toNat) x33_3)).f1), .int .i64 ((rd_T60 l0 (rd (l1.take (x11_1 : Int).toNat) x33_3)).f2), .int .i64 ((rd_T60 l0 (rd (l1.take (x11_1 : Int).toNat) x33_3)).f3), .int .i64 ((rd_T60 l0 (rd (l1.take (x11_1 : Int).toNat) x33_3)).f4), .int .i64 ((rd_T60 l0 (rd (l1.take (x11_1 : Int).toNat) x33_3)).f5), .int .i64 ((rd_T60 l0 (rd (l1.take (x11_1 : Int).toNat) x33_3)).f6), .slice A149_7 ((rd_T60 l0 (rd (l1.take (x11_1 : Int).toNat) x33_3)).f7).length c149_7], .agg #[.int .i64 ((rd_T60 l0 (rd l1 x11_1)).f0), .int .i64 ((rd_T60 l0 (rd l1 x11_1)).f1), .int .i64 ((rd_T60 l0 (rd l1 x11_1)).f2), .int .i64 ((rd_T60 l0 (rd l1 x11_1)).f3), .int .i64 ((rd_T60 l0 (rd l1 x11_1)).f4), .int .i64 ((rd_T60 l0 (rd l1 x11_1)).f5), .int .i64 ((rd_T60 l0 (rd l1 x11_1)).f6), .slice A150_7 ((rd_T60 l0 (rd l1 x11_1)).f7).length c150_7]] (by rfl) rfl rfl (by (try simp only [List.map_toArray, List.map_cons, List.map_nil]); first | done | rfl) ?_
        with_reducible refine (impl_MayPass.calls k3 ((rd_T60 l0 (rd (l1.take (x11_1 : Int).toNat) x33_3)).f0) ((rd_T60 l0 (rd (l1.take (x11_1 : Int).toNat) x33_3)).f1) ((rd_T60 l0 (rd (l1.take (x11_1 : Int).toNat) x33_3)).f2) ((rd_T60 l0 (rd (l1.take (x11_1 : Int).toNat) x33_3)).f3) ((rd_T60 l0 (rd (l1.take (x11_1 : Int).toNat) x33_3)).f4) ((rd_T60 l0 (rd (l1.take (x11_1 : Int).toNat) x33_3)).f5) ((rd_T60 l0 (rd (l1.take (x11_1 : Int).toNat) x33_3)).f6) _ _ ((rd_T60 l0 (rd (l1.take (x11_1 : Int).toNat) x33_3)).f7) ((rd_T60 l0 (rd l1 x11_1)).f0) ((rd_T60 l0 (rd l1 x11_1)).f1) ((rd_T60 l0 (rd l1 x11_1)).f2) ((rd_T60 l0 (rd l1 x11_1)).f3) ((rd_T60 l0 (rd l1 x11_1)).f4) ((rd_T60 l0 (rd l1 x11_1)).f5) ((rd_T60 l0 (rd l1 x11_1)).f6) _ _ ((rd_T60 l0 (rd l1 x11_1)).f7) false _ ?side1 ?side2 ?side3 ?side4 A25.out).mono ?_
        (case side1 => exact cY ((Kd.C_below HR149_7.out HB.out)))
        (case side2 => exact HC149_7.out)
        (case side3 => exact cY ((Kd.C_below HR150_7.out HB.out)))
        (case side4 => exact HC150_7.out)
        rintro e w30 ⟨rfl, hb⟩
        refine ⟨_, rfl, ?_⟩
        have n0_ := A_.mk (bt_ (beY HB.out) hb)
        clear HB
        have HB := n0_
        clear n0_
        refine hK.out _ _ ⟨((HB.out.cell (wl_ w _ hw149_0)).trans hw149_0), ((HB.out.cell (wl_ w _ hw149_1)).trans hw149_1), ((HB.out.cell (wl_ w _ hw149_2)).trans hw149_2), ((HB.out.cell (wl_ w _ hw149_3)).trans hw149_3), ((HB.out.cell (wl_ w _ hw149_4)).trans hw149_4), ((HB.out.cell (wl_ w _ hw149_5)).trans hw149_5), ((HB.out.cell (wl_ w _ hw149_6)).trans hw149_6), ((HB.out.cell (wl_ w _ hw149_7)).trans hw149_7), ((HB.out.cell (wl_ w _ hw150_0)).trans hw150_0), ((HB.out.cell (wl_ w _ hw150_1)).trans hw150_1), ((HB.out.cell (wl_ w _ hw150_2)).trans hw150_2), ((HB.out.cell (wl_ w _ hw150_3)).trans hw150_3), ((HB.out.cell (wl_ w _ hw150_4)).trans hw150_4), ((HB.out.cell (wl_ w _ hw150_5)).trans hw150_5), ((HB.out.cell (wl_ w _ hw150_6)).trans hw150_6), ((HB.out.cell (wl_ w _ hw150_7)).trans hw150_7)⟩ (fun hHeld => ?_)
        clear hK K
        refine norm_ (a' := ?_) ?_ ?_
        rotate_left
        ·show Act.put _ (some 49) _ = _
         simp only [pS]
         rfl
        refine pr_ (i := 13) (N := some 50) #[T, T, T, T, T, T, T, T, T, T, T, T, T, T, F] rfl HT_.out ?_
        refine pr_ (i := 14) (N := some 51) #[T, T, T, T, T, T, T, T, T, T, T, T, T, T, T] rfl HT_.out ?_
        refine done_ (done_of HT_.out (by kernel_rfl)) ?_
        try go_wp2
        go_ret
        exact ⟨by first | rfl | (simp [errW_none, errW_some] <;> rfl) | (simp [*, errW_none, errW_some] <;> rfl), beY HB.out⟩
       subst c26
       have H1 : (impl_IsLegalOrder.l1 k3 l0 l1 (rd l1 x11_1) l1 (l1.length : Int) x11_1 (l1.take (x11_1 : Int).toNat) ((l1.take (x11_1 : Int).toNat).length : Int) (wrap64 (x33_3 + 1))) = some r := by rw [if_pos rfl] at H; exact H
       clear H
       have H := H1
       clear H1
       have H' := A_.mk H
       clear H
       have p148 : 0 ≤ (x33_3 : Int) := od_
       have q148 : x33_3 < ((l1.take (x11_1 : Int).toNat).length : Int) := od_
       have q148m := eq_true (show x33_3 < max x11_1 0 from by rw [← HLM16.out]; exact q148)
       obtain ⟨ad148, e148, hx148_0⟩ := Kd.at_int HR147.out x33_3 p148 q148
       obtain rfl : ad143 = ad148 := (by injection e148)
       replace hx148_0 := (HB.out.cell (wl_ w _ hx148_0)).trans hx148_0
       replace p148 := eq_true p148
       replace q148 := eq_true q148
       try go_wp2
       have n0_ := A_.mk (be_ HB.out)
       clear HB
       have HB := n0_
       clear n0_
       have p149 : 0 ≤ ((rd (l1.take (x11_1 : Int).toNat) x33_3) : Int) := od_
       have q149 : (rd (l1.take (x11_1 : Int).toNat) x33_3) < (l0.length : Int) := od_
       obtain ⟨ad149, A149_7, c149_7, e149, hx149_0, hx149_1, hx149_2, hx149_3, hx149_4, hx149_5, hx149_6, hx149_7, hl149_7, hi149_7⟩ := at_T60 HR0.out (rd (l1.take (x11_1 : Int).toNat) x33_3) p149 q149
       have hw149_7 := hx149_7
       have hw149_6 := hx149_6
       have hw149_5 := hx149_5
       have hw149_4 := hx149_4
       have hw149_3 := hx149_3
       have hw149_2 := hx149_2
       have hw149_1 := hx149_1
       have hw149_0 := hx149_0
       cases e149
       replace hx149_0 := (HB.out.cell (wl_ w _ hx149_0)).trans hx149_0
       replace hx149_1 := (HB.out.cell (wl_ w _ hx149_1)).trans hx149_1
       replace hx149_2 := (HB.out.cell (wl_ w _ hx149_2)).trans hx149_2
       replace hx149_3 := (HB.out.cell (wl_ w _ hx149_3)).trans hx149_3
       replace hx149_4 := (HB.out.cell (wl_ w _ hx149_4)).trans hx149_4
       replace hx149_5 := (HB.out.cell (wl_ w _ hx149_5)).trans hx149_5
       replace hx149_6 := (HB.out.cell (wl_ w _ hx149_6)).trans hx149_6
       replace hx149_7 := (HB.out.cell (wl_ w _ hx149_7)).trans hx149_7
       have HR149_7 := A_.mk hi149_7
       have HC149_7 := A_.mk hl149_7
       clear hi149_7 hl149_7
       replace p149 := eq_true p149
       replace q149 := eq_true q149
       have p150 : 0 ≤ ((rd l1 x11_1) : Int) := od_
       have q150 : (rd l1 x11_1) < (l0.length : Int) := od_
       obtain ⟨ad150, A150_7, c150_7, e150, hx150_0, hx150_1, hx150_2, hx150_3, hx150_4, hx150_5, hx150_6, hx150_7, hl150_7, hi150_7⟩ := at_T60 HR0.out (rd l1 x11_1) p150 q150
       have hw150_7 := hx150_7
       have hw150_6 := hx150_6
       have hw150_5 := hx150_5
       have hw150_4 := hx150_4
       have hw150_3 := hx150_3
       have hw150_2 := hx150_2
       have hw150_1 := hx150_1
       have hw150_0 := hx150_0
       obtain rfl : ad149 = ad150 := (by injection e150)
       replace hx150_0 := (HB.out.cell (wl_ w _ hx150_0)).trans hx150_0
       replace hx150_1 := (HB.out.cell (wl_ w _ hx150_1)).trans hx150_1
       replace hx150_2 := (HB.out.cell (wl_ w _ hx150_2)).trans hx150_2
       replace hx150_3 := (HB.out.cell (wl_ w _ hx150_3)).trans hx150_3
       replace hx150_4 := (HB.out.cell (wl_ w _ hx150_4)).trans hx150_4
       replace hx150_5 := (HB.out.cell (wl_ w _ hx150_5)).trans hx150_5
       replace hx150_6 := (HB.out.cell (wl_ w _ hx150_6)).trans hx150_6
       replace hx150_7 := (HB.out.cell (wl_ w _ hx150_7)).trans hx150_7
       have HR150_7 := A_.mk hi150_7
       have HC150_7 := A_.mk hl150_7
       clear hi150_7 hl150_7
       replace p150 := eq_true p150
       replace q150 := eq_true q150
       refine start_ (n := 15) (S := fun w' => w'.cell? (ad149.add (((rd (l1.take (x11_1 : Int).toNat) x33_3)).toNat * 8)) = some (.int .i64 ((rd_T60 l0 (rd (l1.take (x11_1 : Int).toNat) x33_3)).f0)) ∧ w'.cell? ⟨(ad149.add (((rd (l1.take (x11_1 : Int).toNat) x33_3)).toNat * 8)).block, (ad149.add (((rd (l1.take (x11_1 : Int).toNat) x33_3)).toNat * 8)).off + 1, none⟩ = some (.int .i64 ((rd_T60 l0 (rd (l1.take (x11_1 : Int).toNat) x33_3)).f1)) ∧ w'.cell? ⟨(ad149.add (((rd (l1.take (x11_1 : Int).toNat) x33_3)).toNat * 8)).block, (ad149.add (((rd (l1.take (x11_1 : Int).toNat) x33_3)).toNat * 8)).off + 2, none⟩ = some (.int .i64 ((rd_T60 l0 (rd (l1.take (x11_1 : Int).toNat) x33_3)).f2)) ∧ w'.cell? ⟨(ad149.add (((rd (l1.take (x11_1 : Int).toNat) x33_3)).toNat * 8)).block, (ad149.add (((rd (l1.take (x11_1 : Int).toNat) x33_3)).toNat * 8)).off + 3, none⟩ = some (.int .i64 ((rd_T60 l0 (rd (l1.take (x11_1 : Int).toNat) x33_3)).f3)) ∧ w'.cell? ⟨(ad149.add (((rd (l1.take (x11_1 : Int).toNat) x33_3)).toNat * 8)).block, (ad149.add (((rd (l1.take (x11_1 : Int).toNat) x33_3)).toNat * 8)).off + 4, none⟩ = some (.int .i64 ((rd_T60 l0 (rd (l1.take (x11_1 : Int).toNat) x33_3)).f4)) ∧ w'.cell? ⟨(ad149.add (((rd (l1.take (x11_1 : Int).toNat) x33_3)).toNat * 8)).block, (ad149.add (((rd (l1.take (x11_1 : Int).toNat) x33_3)).toNat * 8)).off + 5, none⟩ = some (.int .i64 ((rd_T60 l0 (rd (l1.take (x11_1 : Int).toNat) x33_3)).f5)) ∧ w'.cell? ⟨(ad149.add (((rd (l1.take (x11_1 : Int).toNat) x33_3)).toNat * 8)).block, (ad149.add (((rd (l1.take (x11_1 : Int).toNat) x33_3)).toNat * 8)).off + 6, none⟩ = some (.int .i64 ((rd_T60 l0 (rd (l1.take (x11_1 : Int).toNat) x33_3)).f6)) ∧ w'.cell? ⟨(ad149.add (((rd (l1.take (x11_1 : Int).toNat) x33_3)).toNat * 8)).block, (ad149.add (((rd (l1.take (x11_1 : Int).toNat) x33_3)).toNat * 8)).off + 7, none⟩ = some (.slice A149_7 ((rd_T60 l0 (rd (l1.take (x11_1 : Int).toNat) x33_3)).f7).length c149_7) ∧ w'.cell? (ad149.add (((rd l1 x11_1)).toNat * 8)) = some (.int .i64 ((rd_T60 l0 (rd l1 x11_1)).f0)) ∧ w'.cell? ⟨(ad149.add (((rd l1 x11_1)).toNat * 8)).block, (ad149.add (((rd l1 x11_1)).toNat * 8)).off + 1, none⟩ = some (.int .i64 ((rd_T60 l0 (rd l1 x11_1)).f1)) ∧ w'.cell? ⟨(ad149.add (((rd l1 x11_1)).toNat * 8)).block, (ad149.add (((rd l1 x11_1)).toNat * 8)).off + 2, none⟩ = some (.int .i64 ((rd_T60 l0 (rd l1 x11_1)).f2)) ∧ w'.cell? ⟨(ad149.add (((rd l1 x11_1)).toNat * 8)).block, (ad149.add (((rd l1 x11_1)).toNat * 8)).off + 3, none⟩ = some (.int .i64 ((rd_T60 l0 (rd l1 x11_1)).f3)) ∧ w'.cell? ⟨(ad149.add (((rd l1 x11_1)).toNat * 8)).block, (ad149.add (((rd l1 x11_1)).toNat * 8)).off + 4, none⟩ = some (.int .i64 ((rd_T60 l0 (rd l1 x11_1)).f4)) ∧ w'.cell? ⟨(ad149.add (((rd l1 x11_1)).toNat * 8)).block, (ad149.add (((rd l1 x11_1)).toNat * 8)).off + 5, none⟩ = some (.int .i64 ((rd_T60 l0 (rd l1 x11_1)).f5)) ∧ w'.cell? ⟨(ad149.add (((rd l1 x11_1)).toNat * 8)).block, (ad149.add (((rd l1 x11_1)).toNat * 8)).off + 6, none⟩ = some (.int .i64 ((rd_T60 l0 (rd l1 x11_1)).f6)) ∧ w'.cell? ⟨(ad149.add (((rd l1 x11_1)).toNat * 8)).block, (ad149.add (((rd l1 x11_1)).toNat * 8)).off + 7, none⟩ = some (.slice A150_7 ((rd_T60 l0 (rd l1 x11_1)).f7).length c150_7)) (ds := []) #[F, F, F, F, F, F, F, F, F, F, F, F, F, F, F] (by kernel_rfl) rfl rfl ⟨((HB.out.cell (wl_ w _ hw149_0)).trans hw149_0), ((HB.out.cell (wl_ w _ hw149_1)).trans hw149_1), ((HB.out.cell (wl_ w _ hw149_2)).trans hw149_2), ((HB.out.cell (wl_ w _ hw149_3)).trans hw149_3), ((HB.out.cell (wl_ w _ hw149_4)).trans hw149_4), ((HB.out.cell (wl_ w _ hw149_5)).trans hw149_5), ((HB.out.cell (wl_ w _ hw149_6)).trans hw149_6), ((HB.out.cell (wl_ w _ hw149_7)).trans hw149_7), ((HB.out.cell (wl_ w _ hw150_0)).trans hw150_0), ((HB.out.cell (wl_ w _ hw150_1)).trans hw150_1), ((HB.out.cell (wl_ w _ hw150_2)).trans hw150_2), ((HB.out.cell (wl_ w _ hw150_3)).trans hw150_3), ((HB.out.cell (wl_ w _ hw150_4)).trans hw150_4), ((HB.out.cell (wl_ w _ hw150_5)).trans hw150_5), ((HB.out.cell (wl_ w _ hw150_6)).trans hw150_6), ((HB.out.cell (wl_ w _ hw150_7)).trans hw150_7)⟩ (fun hHeld => ?_); refine with_tabW impl_IsLegalOrder.tab9 impl_IsLegalOrder.bits9 (fun HT_ HW_ => ?_)
       generalize wr.drew = w27 at HB HR149_7 HR150_7 hx149_0 hx149_1 hx149_2 hx149_3 hx149_4 hx149_5 hx149_6 hx149_7 hx150_0 hx150_1 hx150_2 hx150_3 hx150_4 hx150_5 hx150_6 hx150_7 hHeld ⊢
       refine pr_ (i := 0) (N := some 37) #[T, F, F, F, F, F, F, F, F, F, F, F, F, F, F] rfl HT_.out ?_
       refine pr_ (i := 1) (N := some 38) #[T, T, F, F, F, F, F, F, F, F, F, F, F, F, F] rfl HT_.out ?_
       refine pr_ (i := 2) (N := some 39) #[T, T, T, F, F, F, F, F, F, F, F, F, F, F, F] rfl HT_.out ?_
       refine pr_ (i := 3) (N := some 40) #[T, T, T, T, F, F, F, F, F, F, F, F, F, F, F] rfl HT_.out ?_
       refine pr_ (i := 4) (N := some 41) #[T, T, T, T, T, F, F, F, F, F, F, F, F, F, F] rfl HT_.out ?_
       refine pr_ (i := 5) (N := some 42) #[T, T, T, T, T, T, F, F, F, F, F, F, F, F, F] rfl HT_.out ?_
       refine pr_ (i := 6) (N := some 43) #[T, T, T, T, T, T, T, F, F, F, F, F, F, F, F] rfl HT_.out ?_
       refine pr_ (i := 8) (N := some 45) #[T, T, T, T, T, T, T, F, T, F, F, F, F, F, F] rfl HT_.out ?_
       refine pr_ (i := 9) (N := some 46) #[T, T, T, T, T, T, T, F, T, T, F, F, F, F, F] rfl HT_.out ?_
       refine pr_ (i := 10) (N := some 47) #[T, T, T, T, T, T, T, F, T, T, T, F, F, F, F] rfl HT_.out ?_
       refine take_ (i := 7) (N := some 44) (v := ?_) (a' := ?_) #[T, T, T, T, T, T, T, T, T, T, T, F, F, F, F] rfl rfl (take_ofW HT_.out HW_.out (by kernel_rfl)) (fun _ _ _ h => h) (Or.inl ⟨by rfl, ?_⟩) hHeld ?_ ?_
       rotate_left
       ·rintro w' ⟨s0, s1, s2, s3, s4, s5, s6, s7, s8, s9, s10, s11, s12, s13, s14, s15⟩
        go_simp
        with_reducible rfl
       rotate_left
       ·simp only [pS]
        rfl
       refine take_ (i := 11) (N := some 48) (v := ?_) (a' := ?_) #[T, T, T, T, T, T, T, T, T, T, T, T, F, F, F] rfl rfl (take_ofW HT_.out HW_.out (by kernel_rfl)) (fun _ _ _ h => h) (Or.inl ⟨by rfl, ?_⟩) hHeld ?_ ?_
       rotate_left
       ·rintro w' ⟨s0, s1, s2, s3, s4, s5, s6, s7, s8, s9, s10, s11, s12, s13, s14, s15⟩
        go_simp
        with_reducible rfl
       rotate_left
       ·simp only [pS]
        rfl
       refine one_ (i := 12) (N := some 49) #[T, T, T, T, T, T, T, T, T, T, T, T, T, F, F] rfl rfl (one_of HT_.out (by kernel_rfl)) (by decide) (fun K hK => ?_)
       refine goes_ Try.func57 (by kernel_rfl) rfl #[.agg #[.int .i64 ((rd_T60 l0 (rd (l1.take (x11_1 : Int).toNat) x33_3)).f0), .int .i64 ((rd_T60 l0 (rd (l1.take (x11_1 : Int).toNat) x33_3)).f1), .int .i64 ((rd_T60 l0 (rd (l1.take (x11_1 : Int).toNat) x33_3)).f2), .int .i64 ((rd_T60 l0 (rd (l1.take (x11_1 : Int).toNat) x33_3)).f3), .int .i64 ((rd_T60 l0 (rd (l1.take (x11_1 : Int).toNat) x33_3)).f4), .int .i64 ((rd_T60 l0 (rd (l1.take (x11_1 : Int).toNat) x33_3)).f5), .int .i64 ((rd_T60 l0 (rd (l1.take (x11_1 : Int).toNat) x33_3)).f6), .slice A149_7 ((rd_T60 l0 (rd (l1.take (x11_1 : Int).toNat) x33_3)).f7).length c149_7], .agg #[.int .i64 ((rd_T60 l0 (rd l1 x11_1)).f0), .int .i64 ((rd_T60 l0 (rd l1 x11_1)).f1), .int .i64 ((rd_T60 l0 (rd l1 x11_1)).f2), .int .i64 ((rd_T60 l0 (rd l1 x11_1)).f3), .int .i64 ((rd_T60 l0 (rd l1 x11_1)).f4), .int .i64 ((rd_T60 l0 (rd l1 x11_1)).f5), .int .i64 ((rd_T60 l0 (rd l1 x11_1)).f6), .slice A150_7 ((rd_T60 l0 (rd l1 x11_1)).f7).length c150_7]] (by rfl) rfl rfl (by (try simp only [List.map_toArray, List.map_cons, List.map_nil]); first | done | rfl) ?_
       with_reducible refine (impl_MayPass.calls k3 ((rd_T60 l0 (rd (l1.take (x11_1 : Int).toNat) x33_3)).f0) ((rd_T60 l0 (rd (l1.take (x11_1 : Int).toNat) x33_3)).f1) ((rd_T60 l0 (rd (l1.take (x11_1 : Int).toNat) x33_3)).f2) ((rd_T60 l0 (rd (l1.take (x11_1 : Int).toNat) x33_3)).f3) ((rd_T60 l0 (rd (l1.take (x11_1 : Int).toNat) x33_3)).f4) ((rd_T60 l0 (rd (l1.take (x11_1 : Int).toNat) x33_3)).f5) ((rd_T60 l0 (rd (l1.take (x11_1 : Int).toNat) x33_3)).f6) _ _ ((rd_T60 l0 (rd (l1.take (x11_1 : Int).toNat) x33_3)).f7) ((rd_T60 l0 (rd l1 x11_1)).f0) ((rd_T60 l0 (rd l1 x11_1)).f1) ((rd_T60 l0 (rd l1 x11_1)).f2) ((rd_T60 l0 (rd l1 x11_1)).f3) ((rd_T60 l0 (rd l1 x11_1)).f4) ((rd_T60 l0 (rd l1 x11_1)).f5) ((rd_T60 l0 (rd l1 x11_1)).f6) _ _ ((rd_T60 l0 (rd l1 x11_1)).f7) true _ ?side1 ?side2 ?side3 ?side4 A25.out).mono ?_
       (case side1 => exact cY ((Kd.C_below HR149_7.out HB.out)))
       (case side2 => exact HC149_7.out)
       (case side3 => exact cY ((Kd.C_below HR150_7.out HB.out)))
       (case side4 => exact HC150_7.out)
       rintro e w28 ⟨rfl, hb⟩
       refine ⟨_, rfl, ?_⟩
       have n0_ := A_.mk (bt_ (beY HB.out) hb)
       clear HB
       have HB := n0_
       clear n0_
       refine hK.out _ _ ⟨((HB.out.cell (wl_ w _ hw149_0)).trans hw149_0), ((HB.out.cell (wl_ w _ hw149_1)).trans hw149_1), ((HB.out.cell (wl_ w _ hw149_2)).trans hw149_2), ((HB.out.cell (wl_ w _ hw149_3)).trans hw149_3), ((HB.out.cell (wl_ w _ hw149_4)).trans hw149_4), ((HB.out.cell (wl_ w _ hw149_5)).trans hw149_5), ((HB.out.cell (wl_ w _ hw149_6)).trans hw149_6), ((HB.out.cell (wl_ w _ hw149_7)).trans hw149_7), ((HB.out.cell (wl_ w _ hw150_0)).trans hw150_0), ((HB.out.cell (wl_ w _ hw150_1)).trans hw150_1), ((HB.out.cell (wl_ w _ hw150_2)).trans hw150_2), ((HB.out.cell (wl_ w _ hw150_3)).trans hw150_3), ((HB.out.cell (wl_ w _ hw150_4)).trans hw150_4), ((HB.out.cell (wl_ w _ hw150_5)).trans hw150_5), ((HB.out.cell (wl_ w _ hw150_6)).trans hw150_6), ((HB.out.cell (wl_ w _ hw150_7)).trans hw150_7)⟩ (fun hHeld => ?_)
       clear hK K
       refine norm_ (a' := ?_) ?_ ?_
       rotate_left
       ·show Act.put _ (some 49) _ = _
        simp only [pS]
        rfl
       refine pr_ (i := 13) (N := some 50) #[T, T, T, T, T, T, T, T, T, T, T, T, T, T, F] rfl HT_.out ?_
       refine pr_ (i := 14) (N := some 51) #[T, T, T, T, T, T, T, T, T, T, T, T, T, T, T] rfl HT_.out ?_
       refine done_ (done_of HT_.out (by kernel_rfl)) ?_
       try go_wp2
       go_roundg k3
       case measure => have := HK1.out; have := HJ5.out; have := HK3.out; omega
       case rel => exact ⟨(wrap64 (x33_3 + 1)), (by first | rfl | (simp; done) | (simp [*]; done)), H', ⟨by have := HK1.out; have := HJ5.out; have := HK3.out; omega⟩, ⟨beY HB.out⟩⟩
end Go.Proofs.Ytbdehpmfemgooaa.PFnQueues
