-- Written by a program of this session (wip/xp): not trusted, Lean checks it.
import Derived.Test.YtflopendlbciaaaPFnLinkOncex0
import Derived.Test.YtflopendlbciaaaPFnLinkOncex1
import Derived.Test.YtflopendlbciaaaPFnLinkOncex3
import Derived.Test.YtflopendlbciaaaPFnLinkOncex4
import Derived.Test.YtflopendlbciaaaPFnLinkOncex5
import Derived.Test.YtflopendlbciaaaPFnLinkOncex6
namespace Go.Proofs.Ytflopendlbciaaa.PFnLinkOnce
open Go.RowKit Go.Proofs.YtflopendlbciaaaW.PrintWords Go.Proofs.YtflopendlbciaaaW.PrintLast Go.Proofs.YtflopendlbciaaaW.PrintMore
attribute [local go_sem] max2_int min2_int max_two min_two max_three min_three max_four min_four   -- for this text's walks alone
set_option linter.unusedVariables false
set_option linter.unusedSimpArgs false

/-! ### impl_TakeCheck: function 65 -/
def impl_TakeCheck.f (k : Nat) (l0 : List Int) : Option (List Int × Bool) := if (wrap64 ((l0.length : Int) - 2)) < 0 then (some (([] : List Int), false)) else ((impl_AreBytes.f k l0).bind fun t269 => (if t269 = true then (if 0 ≤ (wrap64 ((l0.length : Int) - 2)) then (if (wrap64 ((l0.length : Int) - 2)) ≤ (l0.length : Int) then ((impl_AddCheck.f k (l0.take ((wrap64 ((l0.length : Int) - 2)) : Int).toNat)).bind fun t271 => ((slices_Equal_int_int.f k t271 l0).bind fun t274 => (if t274 = true then ((slices_Clone_int_int.f (l0.take ((wrap64 ((l0.length : Int) - 2)) : Int).toNat)).bind fun t276 => (some (t276, true))) else (some (([] : List Int), false))))) else (none)) else (none)) else (some (([] : List Int), false))))
set_option maxHeartbeats 8000000 in
set_option maxRecDepth 100000 in
theorem impl_TakeCheck.calls (k : Nat) (A0 : Option Addr) (c0 : Nat) (l0 : List Int) (r1 : List Int) (r2 : Bool) (w : World) (hr0 : Kd.C (Kd.int .i64) w A0 l0.length l0) (hc0 : l0.length ≤ c0) (h : impl_TakeCheck.f k l0 = some (r1, r2)) :
  Calls Try.prog 65 #[.slice A0 l0.length c0] w fun e w' => ∃ v0_ : Value, e = .returned (.tuple #[v0_, .bool r2]) ∧ Kd.R (Kd.int .i64) 3 w' w.heap.size (fun _ => True) v0_ r1 ∧ Below w.heap.size w w' := by
 have HR0 := A_.mk hr0
 have HC0 := A_.mk hc0
 clear hr0 hc0
 have HB := A_.mk (Below.refl w.heap.size w)
 have H : (if (wrap64 ((l0.length : Int) - 2)) < 0 then (some (([] : List Int), false)) else ((impl_AreBytes.f k l0).bind fun t269 => (if t269 = true then (if 0 ≤ (wrap64 ((l0.length : Int) - 2)) then (if (wrap64 ((l0.length : Int) - 2)) ≤ (l0.length : Int) then ((impl_AddCheck.f k (l0.take ((wrap64 ((l0.length : Int) - 2)) : Int).toNat)).bind fun t271 => ((slices_Equal_int_int.f k t271 l0).bind fun t274 => (if t274 = true then ((slices_Clone_int_int.f (l0.take ((wrap64 ((l0.length : Int) - 2)) : Int).toNat)).bind fun t276 => (some (t276, true))) else (some (([] : List Int), false))))) else (none)) else (none)) else (some (([] : List Int), false))))) = some (r1, r2) := h
 clear h
 by_cases c2 : (wrap64 ((l0.length : Int) - 2)) < 0
 ·rw [if_pos c2] at H
  have c2b0 : decide ((wrap64 ((l0.length : Int) - 2)) < 0) = true := decide_eq_true c2
  clear c2
  simp only [Option.some.injEq, Prod.mk.injEq] at H
  obtain ⟨rfl, rfl⟩ := H
  go_enter Try.func65, Try.ntmps65
  go_wp2
  go_ret2
  exact ⟨_, by first | rfl | (simp [errW_none, errW_some] <;> rfl) | (simp [*, errW_none, errW_some] <;> rfl), by first | exact Kd.R_nil _ _ _ _ _ | exact Kd.N_nil _ _ _ _ _ | exact Kd.V_nil _ _ _ _ _ | exact Kd.Q_nil _ _ _ _ _ | exact Kd.S_nil _ _ _ _ _, beY HB.out⟩
 rw [if_neg c2] at H
 have c2b0 : decide ((wrap64 ((l0.length : Int) - 2)) < 0) = false := decide_eq_false c2
 clear c2
 replace H := ob_ H
 obtain ⟨t269, A30, H⟩ := H
 have A3 := A_.mk A30
 clear A30
 by_cases c4 : t269 = true
 rotate_left
 ·replace c4 := Bool.eq_false_iff.mpr c4
  subst c4
  have H1 : (some (([] : List Int), false)) = some (r1, r2) := by rw [if_neg (show ¬ (false = true) by decide)] at H; exact H
  clear H
  have H := H1
  clear H1
  simp only [Option.some.injEq, Prod.mk.injEq] at H
  obtain ⟨rfl, rfl⟩ := H
  go_enter Try.func65, Try.ntmps65
  go_wp2_with (first | (go_at_call 47; (with_reducible refine (impl_AreBytes.calls k _ _ l0 false _ ?side1 ?side2 A3.out).mono ?_); (case side1 => exact cY (HR0.out)); (case side2 => exact HC0.out); rintro e w' ⟨rfl, ⟨nd, rfl⟩⟩))
  go_ret2
  exact ⟨_, by first | rfl | (simp [errW_none, errW_some] <;> rfl) | (simp [*, errW_none, errW_some] <;> rfl), by first | exact Kd.R_nil _ _ _ _ _ | exact Kd.N_nil _ _ _ _ _ | exact Kd.V_nil _ _ _ _ _ | exact Kd.Q_nil _ _ _ _ _ | exact Kd.S_nil _ _ _ _ _, beY HB.out⟩
 subst c4
 have H1 : (if 0 ≤ (wrap64 ((l0.length : Int) - 2)) then (if (wrap64 ((l0.length : Int) - 2)) ≤ (l0.length : Int) then ((impl_AddCheck.f k (l0.take ((wrap64 ((l0.length : Int) - 2)) : Int).toNat)).bind fun t271 => ((slices_Equal_int_int.f k t271 l0).bind fun t274 => (if t274 = true then ((slices_Clone_int_int.f (l0.take ((wrap64 ((l0.length : Int) - 2)) : Int).toNat)).bind fun t276 => (some (t276, true))) else (some (([] : List Int), false))))) else (none)) else (none)) = some (r1, r2) := by rw [if_pos rfl] at H; exact H
 clear H
 have H := H1
 clear H1
 obtain ⟨ji5, hji5⟩ : ∃ j_ : Int, (wrap64 ((l0.length : Int) - 2)) = j_ := ⟨_, rfl⟩
 replace H : (if 0 ≤ (ji5) then (if (ji5) ≤ (l0.length : Int) then ((impl_AddCheck.f k (l0.take ((ji5) : Int).toNat)).bind fun t271 => ((slices_Equal_int_int.f k t271 l0).bind fun t274 => (if t274 = true then ((slices_Clone_int_int.f (l0.take ((ji5) : Int).toNat)).bind fun t276 => (some (t276, true))) else (some (([] : List Int), false))))) else (none)) else (none)) = some (r1, r2) := by first | (rw [hji5] at H; exact H) | (simp only [hji5] at H ⊢; exact H)
 (try rw [hji5] at c2b0)
 (try rw [hji5] at A3)
 have hji5w : (IntKind.i64.wrap ((l0.length : Int) - 2)) = ji5 := (i64_w _).trans hji5
 by_cases c6 : 0 ≤ (ji5)
 rotate_left
 ·rw [if_neg c6] at H
  exact absurd H (by simp)
 rw [if_pos c6] at H
 have c6b0 := eq_true c6
 have c6b1 : decide (0 ≤ (ji5)) = true := decide_eq_true c6
 clear c6
 by_cases c7 : (ji5) ≤ (l0.length : Int)
 rotate_left
 ·rw [if_neg c7] at H
  exact absurd H (by simp)
 rw [if_pos c7] at H
 have c7b0 := eq_true c7
 have c7b1 : decide ((ji5) ≤ (l0.length : Int)) = true := decide_eq_true c7
 clear c7
 replace H := ob_ H
 obtain ⟨t271, A80, H⟩ := H
 have A8 := A_.mk A80
 clear A80
 replace H := ob_ H
 obtain ⟨t274, A90, H⟩ := H
 have A9 := A_.mk A90
 clear A90
 by_cases c10 : t274 = true
 rotate_left
 ·replace c10 := Bool.eq_false_iff.mpr c10
  subst c10
  have H1 : (some (([] : List Int), false)) = some (r1, r2) := by rw [if_neg (show ¬ (false = true) by decide)] at H; exact H
  clear H
  have H := H1
  clear H1
  simp only [Option.some.injEq, Prod.mk.injEq] at H
  obtain ⟨rfl, rfl⟩ := H
  go_enter Try.func65, Try.ntmps65
  go_wp2_with (first | (go_at_call 47; (with_reducible refine (impl_AreBytes.calls k _ _ l0 true _ ?side1 ?side2 A3.out).mono ?_); (case side1 => exact cY (HR0.out)); (case side2 => exact HC0.out); rintro e w' ⟨rfl, ⟨nd, rfl⟩⟩; obtain ⟨i019, hi019, _, hsz19, _⟩ := info_parts info3; obtain ⟨hcut19, hA19, hC19⟩ := print_take_of (P := Try.prog) (Value.int .i64) 0 32 3 .i64 Try.underlying32 hi019 hsz19 A0 c0 l0 (ji5) (od_) (od_) HC0.out; have HR270 := A_.mk (Kd.C_of_reads (h1 := fun _ => rfl) (hA19 _ (Kd.reads_of_C HR0.out))); have HC270 := A_.mk hC19; clear hA19 hC19 hi019 hsz19) | (go_at_call 53; refine calls_of_args (args' := #[.slice A0 (l0.take ((ji5) : Int).toNat).length c0]) (by have h1_ : ji5 ≤ (l0.length : Int) := od_; have h0_ : 0 ≤ (ji5 : Int) := od_; rw [List.length_take, Nat.min_eq_left (by omega)]) ?_; (with_reducible refine (impl_AddCheck.calls k _ _ (l0.take ((ji5) : Int).toNat) t271 _ ?side1 ?side2 A8.out).mono ?_); (case side1 => exact cY (HR270.out)); (case side2 => exact HC270.out); rintro e w20 ⟨v272, rfl, ho0, hb⟩; have n0_ := A_.mk (Kd.R_lower ho0 (bz_ (beY HB.out))); have n1_ := A_.mk (bt_ (beY HB.out) hb); clear HB; have HO273 := n0_; have HB := n1_; clear n0_ n1_; (try clear hb); (try clear hb2); (try clear hk); (try clear hi); (try clear ho0); obtain ⟨Ao21, co21, eo21⟩ := Kd.R_slice HO273.out; subst eo21) | (go_at_call 66; (with_reducible refine (slices_Equal_int_int.calls k _ _ t271 _ _ l0 false _ ?side1 ?side2 ?side3 ?side4 A9.out).mono ?_); (case side1 => exact cY ((Kd.R_reads' HO273.out).2.2)); (case side2 => exact (Kd.R_reads' HO273.out).2.1); (case side3 => exact cY ((Kd.C_below HR0.out HB.out))); (case side4 => exact HC0.out); rintro e w' ⟨rfl, ⟨nd, rfl⟩⟩))
  go_ret2
  exact ⟨_, by first | rfl | (simp [errW_none, errW_some] <;> rfl) | (simp only [← hji5]; first | rfl | (simp [errW_none, errW_some] <;> rfl)) | (simp [*, errW_none, errW_some] <;> rfl), by first | exact Kd.R_nil _ _ _ _ _ | exact Kd.N_nil _ _ _ _ _ | exact Kd.V_nil _ _ _ _ _ | exact Kd.Q_nil _ _ _ _ _ | exact Kd.S_nil _ _ _ _ _, beY HB.out⟩
 subst c10
 have H1 : ((slices_Clone_int_int.f (l0.take ((ji5) : Int).toNat)).bind fun t276 => (some (t276, true))) = some (r1, r2) := by rw [if_pos rfl] at H; exact H
 clear H
 have H := H1
 clear H1
 have c11b0 := eq_true (od_ : 0 ≤ (ji5))
 have c12b0 := eq_true (od_ : (ji5) ≤ (l0.length : Int))
 replace H := ob_ H
 obtain ⟨t276, A130, H⟩ := H
 have A13 := A_.mk A130
 clear A130
 simp only [Option.some.injEq, Prod.mk.injEq] at H
 obtain ⟨rfl, rfl⟩ := H
 go_enter Try.func65, Try.ntmps65
 go_wp2_with (first | (go_at_call 47; (with_reducible refine (impl_AreBytes.calls k _ _ l0 true _ ?side1 ?side2 A3.out).mono ?_); (case side1 => exact cY (HR0.out)); (case side2 => exact HC0.out); rintro e w' ⟨rfl, ⟨nd, rfl⟩⟩; obtain ⟨i014, hi014, _, hsz14, _⟩ := info_parts info3; obtain ⟨hcut14, hA14, hC14⟩ := print_take_of (P := Try.prog) (Value.int .i64) 0 32 3 .i64 Try.underlying32 hi014 hsz14 A0 c0 l0 (ji5) (od_) (od_) HC0.out; have HR270 := A_.mk (Kd.C_of_reads (h1 := fun _ => rfl) (hA14 _ (Kd.reads_of_C HR0.out))); have HC270 := A_.mk hC14; clear hA14 hC14 hi014 hsz14) | (go_at_call 53; refine calls_of_args (args' := #[.slice A0 (l0.take ((ji5) : Int).toNat).length c0]) (by have h1_ : ji5 ≤ (l0.length : Int) := od_; have h0_ : 0 ≤ (ji5 : Int) := od_; rw [List.length_take, Nat.min_eq_left (by omega)]) ?_; (with_reducible refine (impl_AddCheck.calls k _ _ (l0.take ((ji5) : Int).toNat) t271 _ ?side1 ?side2 A8.out).mono ?_); (case side1 => exact cY (HR270.out)); (case side2 => exact HC270.out); rintro e w15 ⟨v272, rfl, ho0, hb⟩; have n0_ := A_.mk (Kd.R_lower ho0 (bz_ (beY HB.out))); have n1_ := A_.mk (bt_ (beY HB.out) hb); clear HB; have HO273 := n0_; have HB := n1_; clear n0_ n1_; (try clear hb); (try clear hb2); (try clear hk); (try clear hi); (try clear ho0); obtain ⟨Ao16, co16, eo16⟩ := Kd.R_slice HO273.out; subst eo16) | (go_at_call 66; (with_reducible refine (slices_Equal_int_int.calls k _ _ t271 _ _ l0 true _ ?side1 ?side2 ?side3 ?side4 A9.out).mono ?_); (case side1 => exact cY ((Kd.R_reads' HO273.out).2.2)); (case side2 => exact (Kd.R_reads' HO273.out).2.1); (case side3 => exact cY ((Kd.C_below HR0.out HB.out))); (case side4 => exact HC0.out); rintro e w' ⟨rfl, ⟨nd, rfl⟩⟩; obtain ⟨i017, hi017, _, hsz17, _⟩ := info_parts info3; obtain ⟨hcut17, hA17, hC17⟩ := print_take_of (P := Try.prog) (Value.int .i64) 0 32 3 .i64 Try.underlying32 hi017 hsz17 A0 c0 l0 (ji5) (od_) (od_) HC0.out; have HR275 := A_.mk (Kd.C_of_reads (h1 := fun _ => rfl) (hA17 _ (Kd.reads_of_C HR0.out))); have HC275 := A_.mk hC17; clear hA17 hC17 hi017 hsz17) | ((with_reducible refine gc_ (f := 24) rfl ?_); refine goesL_ (some 27) rfl rfl Try.func24 (by kernel_rfl) rfl #[.slice A0 (l0.take ((ji5) : Int).toNat).length c0] rfl (by (try simp only [List.map_toArray, List.map_cons, List.map_nil]); first | done | (rw [show (l0.take ((ji5) : Int).toNat).length = (ji5).toNat from (by rw [List.length_take]; have h_ : ((ji5) : Int) ≤ (l0.length : Int) := od_; omega)] <;> rfl) | (simp only [hji5]; rfl) | rfl | (simp only [List.length_drop, List.length_take]; rfl)) ?_; (with_reducible refine (slices_Clone_int_int.calls _ _ (l0.take ((ji5) : Int).toNat) t276 _ ?side1 ?side2 A13.out).mono ?_); (case side1 => exact cY ((Kd.C_below HR275.out HB.out))); (case side2 => exact HC275.out); rintro e w18 ⟨v277, rfl, ho0, hb⟩; refine ⟨_, rfl, ?_⟩; have n0_ := A_.mk (Kd.R_elder' (rY HO273.out) (Kd.R_base ho0) hb); have n1_ := A_.mk (Kd.R_lower (Kd.R_new' ho0 (Kd.R_lt (rY HO273.out))) (bz_ (beY HB.out))); have n2_ := A_.mk (bt_ (beY HB.out) hb); clear HO273 HB; have HO273 := n0_; have HO278 := n1_; have HB := n2_; clear n0_ n1_ n2_; (try clear hb); (try clear hb2); (try clear hk); (try clear hi); (try clear ho0)))
 go_ret2
 exact ⟨_, by first | rfl | (simp [errW_none, errW_some] <;> rfl) | (simp only [← hji5]; first | rfl | (simp [errW_none, errW_some] <;> rfl)) | (simp [*, errW_none, errW_some] <;> rfl), by (repeat apply rX); exact Kd.R_mono HO278.out (fun _ hk => trivial), beY HB.out⟩
/-! ### impl_TakeWire: function 55 -/
def impl_TakeWire.f (k : Nat) (l0 : List Int) : Option (Int × List Int × Bool) := (impl_TakeCheck.f k l0).bind fun bt280 => (if bt280.2 = true then (if (bt280.1.length : Int) = 0 then (some (0, ([] : List Int), false)) else (if 0 < (bt280.1.length : Int) then ((impl_IsSeq.f (rd bt280.1 0)).bind fun t285 => (if t285 = true then (if 1 ≤ (bt280.1.length : Int) then (some (rd bt280.1 0, (bt280.1.drop (1 : Int).toNat), true)) else (none)) else (some (0, ([] : List Int), false)))) else (none))) else (some (0, ([] : List Int), false)))
def impl_TakeWire.T4 : Bool × List (List Nat × List Nat) := (true, [([], []), ([0], [0]), ([1], [1]), ([], []), ([3], [3]), ([2, 4], [2, 4]), ([5, 0, 1, 2, 3, 4, 5], [5]), ([6, 0, 1, 2, 3, 4, 5, 6], [])])
def impl_TakeWire.B4 : List Nat := [0, 1, 3, 0, 8, 31, 63, 127]
theorem impl_TakeWire.tab4 : rtab .any (opsOf Try.f55 4) = impl_TakeWire.T4 := by kernel_rfl
theorem impl_TakeWire.bits4 : waitsOk impl_TakeWire.T4.2 impl_TakeWire.B4 = true := by kernel_rfl
set_option maxHeartbeats 8000000 in
set_option maxRecDepth 100000 in
theorem impl_TakeWire.calls (k : Nat) (A0 : Option Addr) (c0 : Nat) (l0 : List Int) (r1 : Int) (r2 : List Int) (r3 : Bool) (w : World) (hr0 : Kd.C (Kd.int .i64) w A0 l0.length l0) (hc0 : l0.length ≤ c0) (h : impl_TakeWire.f k l0 = some (r1, r2, r3)) :
  Calls Try.prog 55 #[.slice A0 l0.length c0] w fun e w' => ∃ v1_ : Value, e = .returned (.tuple #[.agg #[.int .i64 r1, v1_], .bool r3]) ∧ Kd.Q (Kd.int .i64) 3 w' w.heap.size (fun _ => True) v1_ r2 ∧ Below w.heap.size w w' := by
 have hu68 := Try.underlying68
 have HR0 := A_.mk hr0
 have HC0 := A_.mk hc0
 clear hr0 hc0
 have HB := A_.mk (Below.refl w.heap.size w)
 have H : ((impl_TakeCheck.f k l0).bind fun bt280 => (if bt280.2 = true then (if (bt280.1.length : Int) = 0 then (some (0, ([] : List Int), false)) else (if 0 < (bt280.1.length : Int) then ((impl_IsSeq.f (rd bt280.1 0)).bind fun t285 => (if t285 = true then (if 1 ≤ (bt280.1.length : Int) then (some (rd bt280.1 0, (bt280.1.drop (1 : Int).toNat), true)) else (none)) else (some (0, ([] : List Int), false)))) else (none))) else (some (0, ([] : List Int), false)))) = some (r1, r2, r3) := h
 clear h
 replace H := ob_ H
 obtain ⟨⟨t280, t281⟩, A20, H⟩ := H
 replace H : (if t281 = true then (if (t280.length : Int) = 0 then (some (0, ([] : List Int), false)) else (if 0 < (t280.length : Int) then ((impl_IsSeq.f (rd t280 0)).bind fun t285 => (if t285 = true then (if 1 ≤ (t280.length : Int) then (some (rd t280 0, (t280.drop (1 : Int).toNat), true)) else (none)) else (some (0, ([] : List Int), false)))) else (none))) else (some (0, ([] : List Int), false))) = some (r1, r2, r3) := H
 have A2 := A_.mk A20
 clear A20
 by_cases c3 : t281 = true
 rotate_left
 ·replace c3 := Bool.eq_false_iff.mpr c3
  subst c3
  have H1 : (some (0, ([] : List Int), false)) = some (r1, r2, r3) := by rw [if_neg (show ¬ (false = true) by decide)] at H; exact H
  clear H
  have H := H1
  clear H1
  simp only [Option.some.injEq, Prod.mk.injEq] at H
  obtain ⟨rfl, rfl, rfl⟩ := H
  go_enter Try.func55, Try.ntmps55
  go_wp2_with (first | ((with_reducible refine gd_ (N := 2) rfl ?_); (try (refine gate_guard (by rfl) ?_; dsimp only)); refine by_ 2 (cs := #[.int .i64 0, .slice none 0 0]) (t := 68) ?_; intro gb279 hg w24 hbox hb; have n0_ := A_.mk (bt_ (beY HB.out) hb); have n1_ := A_.mk (hbox); have n2_ := A_.mk ((by rw [hg]; exact (bz_ (beY HB.out)) : w.heap.size ≤ gb279)); have n3_ := A_.mk ((by rw [hg]; exact (bz_ (beY HB.out)) : w.heap.size ≤ gb279)); clear HB; have HB := n0_; have BK279 := n1_; have GW279 := n2_; have GE279 := n3_; clear n0_ n1_ n2_ n3_ hb hbox hg) | ((with_reducible refine gc_ (f := 65) rfl ?_); refine gl_ (some 8) Try.func65 #[.slice A0 l0.length c0] ?_; (with_reducible refine (impl_TakeCheck.calls k _ _ l0 t280 false _ ?side1 ?side2 A2.out).mono ?_); (case side1 => exact cY ((Kd.C_below HR0.out HB.out))); (case side2 => exact HC0.out); rintro e w25 ⟨v282, rfl, ho0, hb⟩; refine ⟨_, rfl, ?_⟩; have n0_ := A_.mk (Kd.R_lower ho0 (bz_ (by repeat (first | (with_reducible first | exact HB.out | apply ba_ | apply bd_ | apply be_ | refine bs_ ?_ GE279.out) | exact HB.out)))); have n1_ := A_.mk (bb_ (bY BK279.out) hb); have n2_ := A_.mk (bt_ (by repeat (first | (with_reducible first | exact HB.out | apply ba_ | apply bd_ | apply be_ | refine bs_ ?_ GE279.out) | exact HB.out)) hb); clear BK279 HB; have HO283 := n0_; have BK279 := n1_; have HB := n2_; clear n0_ n1_ n2_; (try clear hb); (try clear hb2); (try clear hk); (try clear hi); (try clear ho0); have hcz26_0 : w25.cell? ⟨gb279, 0, none⟩ = some (.int .i64 0) := (bc_ BK279.out 0).trans rfl; have hcz26_1 : w25.cell? ⟨gb279, 1, none⟩ = some (.slice none 0 0) := (bc_ BK279.out 1).trans rfl; have hfz26_0 := bf_ BK279.out 0; have hfz26_1 := bf_ BK279.out 1))
  refine bodyPost_ret (results_ct rfl _ _ gb279 68 #[.int .i64 0, .slice none 0 0] (0, 0) _ rfl (by (repeat apply bX); refine bp_ (cs := #[.int .i64 0, .slice none 0 0]) ?_ 1 _ rfl; (repeat apply bX); refine bp_ (cs := #[.int .i64 0, .slice none 0 0]) ?_ 0 _ rfl; (repeat apply bX); exact BK279.out) Try.underlying68 rfl (by kernel_rfl)) rfl ?_
  exact ⟨_, by first | rfl | (simp [errW_none, errW_some] <;> rfl) | (simp [*, errW_none, errW_some] <;> rfl), Kd.Q_of_R (by first | exact Kd.R_nil _ _ _ _ _ | exact Kd.N_nil _ _ _ _ _ | exact Kd.V_nil _ _ _ _ _ | exact Kd.Q_nil _ _ _ _ _ | exact Kd.S_nil _ _ _ _ _), by repeat (first | (with_reducible first | exact HB.out | apply ba_ | apply bd_ | apply be_ | refine bs_ ?_ GE279.out) | exact HB.out)⟩
 subst c3
 have H1 : (if (t280.length : Int) = 0 then (some (0, ([] : List Int), false)) else (if 0 < (t280.length : Int) then ((impl_IsSeq.f (rd t280 0)).bind fun t285 => (if t285 = true then (if 1 ≤ (t280.length : Int) then (some (rd t280 0, (t280.drop (1 : Int).toNat), true)) else (none)) else (some (0, ([] : List Int), false)))) else (none))) = some (r1, r2, r3) := by rw [if_pos rfl] at H; exact H
 clear H
 have H := H1
 clear H1
 by_cases c4 : (t280.length : Int) = 0
 ·rw [if_pos c4] at H
  have c4b0 : ((t280.length : Int) == 0) = true := beq_iff_eq.mpr c4
  have c4b1 : ((t280.length : Int) != 0) = false := bne_eq_false_iff_eq.mpr c4
  clear c4
  simp only [Option.some.injEq, Prod.mk.injEq] at H
  obtain ⟨rfl, rfl, rfl⟩ := H
  go_enter Try.func55, Try.ntmps55
  go_wp2_with (first | ((with_reducible refine gd_ (N := 2) rfl ?_); (try (refine gate_guard (by rfl) ?_; dsimp only)); refine by_ 2 (cs := #[.int .i64 0, .slice none 0 0]) (t := 68) ?_; intro gb279 hg w5 hbox hb; have n0_ := A_.mk (bt_ (beY HB.out) hb); have n1_ := A_.mk (hbox); have n2_ := A_.mk ((by rw [hg]; exact (bz_ (beY HB.out)) : w.heap.size ≤ gb279)); have n3_ := A_.mk ((by rw [hg]; exact (bz_ (beY HB.out)) : w.heap.size ≤ gb279)); clear HB; have HB := n0_; have BK279 := n1_; have GW279 := n2_; have GE279 := n3_; clear n0_ n1_ n2_ n3_ hb hbox hg) | ((with_reducible refine gc_ (f := 65) rfl ?_); refine gl_ (some 8) Try.func65 #[.slice A0 l0.length c0] ?_; (with_reducible refine (impl_TakeCheck.calls k _ _ l0 t280 true _ ?side1 ?side2 A2.out).mono ?_); (case side1 => exact cY ((Kd.C_below HR0.out HB.out))); (case side2 => exact HC0.out); rintro e w6 ⟨v282, rfl, ho0, hb⟩; refine ⟨_, rfl, ?_⟩; have n0_ := A_.mk (Kd.R_lower ho0 (bz_ (by repeat (first | (with_reducible first | exact HB.out | apply ba_ | apply bd_ | apply be_ | refine bs_ ?_ GE279.out) | exact HB.out)))); have n1_ := A_.mk (bb_ (bY BK279.out) hb); have n2_ := A_.mk (bt_ (by repeat (first | (with_reducible first | exact HB.out | apply ba_ | apply bd_ | apply be_ | refine bs_ ?_ GE279.out) | exact HB.out)) hb); clear BK279 HB; have HO283 := n0_; have BK279 := n1_; have HB := n2_; clear n0_ n1_ n2_; (try clear hb); (try clear hb2); (try clear hk); (try clear hi); (try clear ho0); obtain ⟨Ao7, co7, eo7⟩ := Kd.R_slice HO283.out; subst eo7; have hcz8_0 : w6.cell? ⟨gb279, 0, none⟩ = some (.int .i64 0) := (bc_ BK279.out 0).trans rfl; have hcz8_1 : w6.cell? ⟨gb279, 1, none⟩ = some (.slice none 0 0) := (bc_ BK279.out 1).trans rfl; have hfz8_0 := bf_ BK279.out 0; have hfz8_1 := bf_ BK279.out 1))
  refine bodyPost_ret (results_ct rfl _ _ gb279 68 #[.int .i64 0, .slice none 0 0] (0, 0) _ rfl (by (repeat apply bX); refine bp_ (cs := #[.int .i64 0, .slice none 0 0]) ?_ 1 _ rfl; (repeat apply bX); refine bp_ (cs := #[.int .i64 0, .slice none 0 0]) ?_ 0 _ rfl; (repeat apply bX); exact BK279.out) Try.underlying68 rfl (by kernel_rfl)) rfl ?_
  exact ⟨_, by first | rfl | (simp [errW_none, errW_some] <;> rfl) | (simp [*, errW_none, errW_some] <;> rfl), Kd.Q_of_R (by first | exact Kd.R_nil _ _ _ _ _ | exact Kd.N_nil _ _ _ _ _ | exact Kd.V_nil _ _ _ _ _ | exact Kd.Q_nil _ _ _ _ _ | exact Kd.S_nil _ _ _ _ _), by repeat (first | (with_reducible first | exact HB.out | apply ba_ | apply bd_ | apply be_ | refine bs_ ?_ GE279.out) | exact HB.out)⟩
 rw [if_neg c4] at H
 have c4b0 : ((t280.length : Int) == 0) = false := beq_eq_false_iff_ne.mpr c4
 have c4b1 : ((t280.length : Int) != 0) = true := bne_iff_ne.mpr c4
 have c4b2 : ¬ (t280 = []) := fun h_ => c4 (by rw [h_]; rfl)
 by_cases c9 : 0 < (t280.length : Int)
 rotate_left
 ·rw [if_neg c9] at H
  exact absurd H (by simp)
 rw [if_pos c9] at H
 have c9b0 : decide (0 < (t280.length : Int)) = true := decide_eq_true c9
 have c9b1 : decide (0 < t280.length) = true := decide_eq_true (by omega)
 clear c9
 replace H := ob_ H
 obtain ⟨t285, A100, H⟩ := H
 have A10 := A_.mk A100
 clear A100
 by_cases c11 : t285 = true
 rotate_left
 ·replace c11 := Bool.eq_false_iff.mpr c11
  subst c11
  have H1 : (some (0, ([] : List Int), false)) = some (r1, r2, r3) := by rw [if_neg (show ¬ (false = true) by decide)] at H; exact H
  clear H
  have H := H1
  clear H1
  simp only [Option.some.injEq, Prod.mk.injEq] at H
  obtain ⟨rfl, rfl, rfl⟩ := H
  go_enter Try.func55, Try.ntmps55
  go_wp2_with (first | ((with_reducible refine gd_ (N := 2) rfl ?_); (try (refine gate_guard (by rfl) ?_; dsimp only)); refine by_ 2 (cs := #[.int .i64 0, .slice none 0 0]) (t := 68) ?_; intro gb279 hg w20 hbox hb; have n0_ := A_.mk (bt_ (beY HB.out) hb); have n1_ := A_.mk (hbox); have n2_ := A_.mk ((by rw [hg]; exact (bz_ (beY HB.out)) : w.heap.size ≤ gb279)); have n3_ := A_.mk ((by rw [hg]; exact (bz_ (beY HB.out)) : w.heap.size ≤ gb279)); clear HB; have HB := n0_; have BK279 := n1_; have GW279 := n2_; have GE279 := n3_; clear n0_ n1_ n2_ n3_ hb hbox hg) | ((with_reducible refine gc_ (f := 65) rfl ?_); refine gl_ (some 8) Try.func65 #[.slice A0 l0.length c0] ?_; (with_reducible refine (impl_TakeCheck.calls k _ _ l0 t280 true _ ?side1 ?side2 A2.out).mono ?_); (case side1 => exact cY ((Kd.C_below HR0.out HB.out))); (case side2 => exact HC0.out); rintro e w21 ⟨v282, rfl, ho0, hb⟩; refine ⟨_, rfl, ?_⟩; have n0_ := A_.mk (Kd.R_lower ho0 (bz_ (by repeat (first | (with_reducible first | exact HB.out | apply ba_ | apply bd_ | apply be_ | refine bs_ ?_ GE279.out) | exact HB.out)))); have n1_ := A_.mk (bb_ (bY BK279.out) hb); have n2_ := A_.mk (bt_ (by repeat (first | (with_reducible first | exact HB.out | apply ba_ | apply bd_ | apply be_ | refine bs_ ?_ GE279.out) | exact HB.out)) hb); clear BK279 HB; have HO283 := n0_; have BK279 := n1_; have HB := n2_; clear n0_ n1_ n2_; (try clear hb); (try clear hb2); (try clear hk); (try clear hi); (try clear ho0); obtain ⟨Ao22, co22, eo22⟩ := Kd.R_slice HO283.out; subst eo22; have p284 : 0 ≤ (0 : Int) := (by omega); have q284 : 0 < (t280.length : Int) := od_; obtain ⟨ad284, e284, hx284_0⟩ := Kd.at_int (Kd.R_reads' HO283.out).2.2 0 p284 q284; cases e284; have qi284 : (0 < t280.length) = True := eq_true (by omega); (try rw [show ((0 : Int)).toNat = 0 from rfl] at hx284_0); (try rw [Addr.add_zero'] at hx284_0); replace p284 := eq_true p284; replace q284 := eq_true q284) | (go_at_call 30; (with_reducible refine (impl_IsSeq.calls (rd t280 0) false _ A10.out).mono ?_); rintro e w' ⟨rfl, ⟨nd, rfl⟩⟩; (try (rw [drewN_self w21]; generalize hq_ : World.drewN w21 _ = w21; have n0_ : A_ (Kd.R (Kd.int .i64) 3 w21 w.heap.size (fun _ => True) (.slice (some ad284) t280.length co22) t280) := ⟨by rw [← hq_]; exact (rY HO283.out)⟩; have n1_ : A_ (w21.heap[gb279]? = some (.cells #[.int .i64 0, .slice none 0 0] 68 (0, 0))) := ⟨by rw [← hq_]; exact (bY BK279.out)⟩; have n2_ : A_ (Below w.heap.size w w21) := ⟨by rw [← hq_]; exact (by repeat (first | (with_reducible first | exact HB.out | apply ba_ | apply bd_ | apply be_ | refine bs_ ?_ GE279.out) | exact HB.out))⟩; clear HO283 BK279 HB hq_; have HO283 := n0_; have BK279 := n1_; have HB := n2_; clear n0_ n1_ n2_)); have hcz23_0 : w21.cell? ⟨gb279, 0, none⟩ = some (.int .i64 0) := (bc_ BK279.out 0).trans rfl; have hcz23_1 : w21.cell? ⟨gb279, 1, none⟩ = some (.slice none 0 0) := (bc_ BK279.out 1).trans rfl; have hfz23_0 := bf_ BK279.out 0; have hfz23_1 := bf_ BK279.out 1))
  refine bodyPost_ret (results_ct rfl _ _ gb279 68 #[.int .i64 0, .slice none 0 0] (0, 0) _ rfl (by (repeat apply bX); refine bp_ (cs := #[.int .i64 0, .slice none 0 0]) ?_ 1 _ rfl; (repeat apply bX); refine bp_ (cs := #[.int .i64 0, .slice none 0 0]) ?_ 0 _ rfl; (repeat apply bX); exact BK279.out) Try.underlying68 rfl (by kernel_rfl)) rfl ?_
  exact ⟨_, by first | rfl | (simp [errW_none, errW_some] <;> rfl) | (simp [*, errW_none, errW_some] <;> rfl), Kd.Q_of_R (by first | exact Kd.R_nil _ _ _ _ _ | exact Kd.N_nil _ _ _ _ _ | exact Kd.V_nil _ _ _ _ _ | exact Kd.Q_nil _ _ _ _ _ | exact Kd.S_nil _ _ _ _ _), by repeat (first | (with_reducible first | exact HB.out | apply ba_ | apply bd_ | apply be_ | refine bs_ ?_ GE279.out) | exact HB.out)⟩
 subst c11
 have H1 : (if 1 ≤ (t280.length : Int) then (some (rd t280 0, (t280.drop (1 : Int).toNat), true)) else (none)) = some (r1, r2, r3) := by rw [if_pos rfl] at H; exact H
 clear H
 have H := H1
 clear H1
 by_cases c12 : 1 ≤ (t280.length : Int)
 rotate_left
 ·rw [if_neg c12] at H
  exact absurd H (by simp)
 rw [if_pos c12] at H
 have c12b0 := eq_true c12
 have c12b1 : decide (1 ≤ (t280.length : Int)) = true := decide_eq_true c12
 clear c12
 obtain ⟨y287, hy287⟩ : ∃ y_ : List Int, y_ = (t280.drop (1 : Int).toNat) := ⟨_, rfl⟩
 replace H : (some (rd t280 0, y287, true)) = some (r1, r2, r3) := by first | (rw [hy287]; with_reducible exact H) | (have H2_ := (Option.bind_some _ _).symm.trans H; rw [hy287]; with_reducible exact H2_) | (have H2_ := (Option.bind_some _ _).symm.trans H; with_reducible exact H2_) | with_reducible exact H | (rw [hy287]; exact H) | exact H
 have Ny287 := A_.mk hy287
 clear hy287
 simp only [Option.some.injEq, Prod.mk.injEq] at H
 obtain ⟨rfl, rfl, rfl⟩ := H
 go_enter Try.func55, Try.ntmps55
 try go_wp2_with (first | ((with_reducible refine gd_ (N := 2) rfl ?_); (try (refine gate_guard (by rfl) ?_; dsimp only)); refine by_ 2 (cs := #[.int .i64 0, .slice none 0 0]) (t := 68) ?_; intro gb279 hg w13 hbox hb; have n0_ := A_.mk (bt_ (beY HB.out) hb); have n1_ := A_.mk (hbox); have n2_ := A_.mk ((by rw [hg]; exact (bz_ (beY HB.out)) : w.heap.size ≤ gb279)); have n3_ := A_.mk ((by rw [hg]; exact (bz_ (beY HB.out)) : w.heap.size ≤ gb279)); clear HB; have HB := n0_; have BK279 := n1_; have GW279 := n2_; have GE279 := n3_; clear n0_ n1_ n2_ n3_ hb hbox hg) | ((with_reducible refine gc_ (f := 65) rfl ?_); refine gl_ (some 8) Try.func65 #[.slice A0 l0.length c0] ?_; (with_reducible refine (impl_TakeCheck.calls k _ _ l0 t280 true _ ?side1 ?side2 A2.out).mono ?_); (case side1 => exact cY ((Kd.C_below HR0.out HB.out))); (case side2 => exact HC0.out); rintro e w14 ⟨v282, rfl, ho0, hb⟩; refine ⟨_, rfl, ?_⟩; have n0_ := A_.mk (Kd.R_lower ho0 (bz_ (by repeat (first | (with_reducible first | exact HB.out | apply ba_ | apply bd_ | apply be_ | refine bs_ ?_ GE279.out) | exact HB.out)))); have n1_ := A_.mk (bb_ (bY BK279.out) hb); have n2_ := A_.mk (bt_ (by repeat (first | (with_reducible first | exact HB.out | apply ba_ | apply bd_ | apply be_ | refine bs_ ?_ GE279.out) | exact HB.out)) hb); clear BK279 HB; have HO283 := n0_; have BK279 := n1_; have HB := n2_; clear n0_ n1_ n2_; (try clear hb); (try clear hb2); (try clear hk); (try clear hi); (try clear ho0); obtain ⟨Ao15, co15, eo15⟩ := Kd.R_slice HO283.out; subst eo15; have p284 : 0 ≤ (0 : Int) := (by omega); have q284 : 0 < (t280.length : Int) := od_; obtain ⟨ad284, e284, hx284_0⟩ := Kd.at_int (Kd.R_reads' HO283.out).2.2 0 p284 q284; cases e284; have qi284 : (0 < t280.length) = True := eq_true (by omega); (try rw [show ((0 : Int)).toNat = 0 from rfl] at hx284_0); (try rw [Addr.add_zero'] at hx284_0); replace p284 := eq_true p284; replace q284 := eq_true q284) | (go_at_call 30; (with_reducible refine (impl_IsSeq.calls (rd t280 0) true _ A10.out).mono ?_); rintro e w' ⟨rfl, ⟨nd, rfl⟩⟩; (try (rw [drewN_self w14]; generalize hq_ : World.drewN w14 _ = w14; have n0_ : A_ (Kd.R (Kd.int .i64) 3 w14 w.heap.size (fun _ => True) (.slice (some ad284) t280.length co15) t280) := ⟨by rw [← hq_]; exact (rY HO283.out)⟩; have n1_ : A_ (w14.heap[gb279]? = some (.cells #[.int .i64 0, .slice none 0 0] 68 (0, 0))) := ⟨by rw [← hq_]; exact (bY BK279.out)⟩; have n2_ : A_ (Below w.heap.size w w14) := ⟨by rw [← hq_]; exact (by repeat (first | (with_reducible first | exact HB.out | apply ba_ | apply bd_ | apply be_ | refine bs_ ?_ GE279.out) | exact HB.out))⟩; clear HO283 BK279 HB hq_; have HO283 := n0_; have BK279 := n1_; have HB := n2_; clear n0_ n1_ n2_))))
 have n0_ := A_.mk (Kd.R_drew HO283.out)
 have n1_ := A_.mk (bw_ BK279.out)
 have n2_ := A_.mk (be_ HB.out)
 clear HO283 BK279 HB
 have HO283 := n0_
 have BK279 := n1_
 have HB := n2_
 clear n0_ n1_ n2_
 have p286 : 0 ≤ (0 : Int) := (by omega)
 have q286 : 0 < (t280.length : Int) := od_
 obtain ⟨ad286, e286, hx286_0⟩ := Kd.at_int (Kd.R_reads' HO283.out).2.2 0 p286 q286
 obtain rfl : ad284 = ad286 := (by injection e286)
 have qi286 : (0 < t280.length) = True := eq_true (by omega)
 (try rw [show ((0 : Int)).toNat = 0 from rfl] at hx286_0)
 (try rw [Addr.add_zero'] at hx286_0)
 replace p286 := eq_true p286
 replace q286 := eq_true q286
 have q17 : (1 : Int) ≤ ((t280.length : Int) : Int) := od_
 obtain ⟨i017, hi017, _, hsz17, _⟩ := info_parts info3
 have hcut17 := cut_from (P := Try.prog) 32 3 .i64 Try.underlying32 hi017 1 hsz17 (some ad284) t280.length co15 1 (by omega) q17
 have hr17 := Kd.Q_drop (k := (1 : Int).toNat) (Kd.Q_of_R HO283.out) (by omega)
 obtain ⟨A17, hA17⟩ : ∃ A1, A1 = (if co15 = (1 : Int).toNat then (some ad284) else ((some ad284) : Option Addr).map (·.add ((1 : Int).toNat * 1))) := ⟨_, rfl⟩
 obtain ⟨c17, hc17⟩ : ∃ c1, c1 = co15 - (1 : Int).toNat := ⟨_, rfl⟩
 have hy17 : y287.length = t280.length - (1 : Int).toNat := (by rw [Ny287.out, List.length_drop])
 rw [← Ny287.out] at hr17
 rw [← hy17, ← hA17, ← hc17] at hcut17
 replace hr17 : Kd.Q (Kd.int .i64) 3 (w14.drew) w.heap.size (fun _ => True) (.slice A17 y287.length c17) y287 := (by rw [hA17, hc17, hy17]; exact hr17)
 have HE17 : A_ ((Value.slice A17 y287.length c17).ownBlock = (.slice (some ad284) t280.length co15 : Value).ownBlock) := ⟨by rw [hA17]; split <;> (cases ((some ad284) : Option Addr) <;> rfl)⟩
 clear hy17 hi017 hsz17 hA17 hc17
 have HO289 := A_.mk hr17
 clear hr17
 replace q17 := eq_true q17
 refine start_ (n := 8) (S := fun w' => w'.cell? ad284 = some (.int .i64 (rd t280 0))) (ds := []) #[F, F, F, F, F, F, F, F] (by kernel_rfl) rfl rfl (hx286_0) (fun hHeld => ?_); refine with_tabW impl_TakeWire.tab4 impl_TakeWire.bits4 (fun HT_ HW_ => ?_)
 generalize w14.drew = w16 at HO283 HO289 BK279 HB HO289 hx286_0 hHeld ⊢
 refine pr_ (i := 0) (N := some 26) #[T, F, F, F, F, F, F, F] rfl HT_.out ?_
 refine pr_ (i := 1) (N := some 27) #[T, T, F, F, F, F, F, F] rfl HT_.out ?_
 refine pr_ (i := 3) (N := some 29) #[T, T, F, T, F, F, F, F] rfl HT_.out ?_
 refine pr_ (i := 4) (N := some 30) #[T, T, F, T, T, F, F, F] rfl HT_.out ?_
 refine take_ (i := 2) (N := some 28) (v := ?_) (a' := ?_) #[T, T, T, T, T, F, F, F] rfl rfl (take_ofW HT_.out HW_.out (by kernel_rfl)) (fun _ _ _ h => h) (Or.inl ⟨by rfl, ?_⟩) hHeld ?_ ?_
 rotate_left
 ·intro w' s0
  go_simp
  with_reducible rfl
 rotate_left
 ·simp only [pS]
  rfl
 refine pr_ (i := 5) (N := some 31) #[T, T, T, T, T, T, F, F] rfl HT_.out ?_
 refine ot_ (i := 6) (N := none) #[T, T, T, T, T, T, T, F] rfl HT_.out (fun K hK => ?_)
 have hs18 : w16.cell? ⟨gb279, 0, none⟩ = some (.int .i64 0) := (bc_ BK279.out 0).trans rfl
 have hfs18 := bf_ BK279.out 0
 have hs19 : w16.cell? ⟨gb279, 1, none⟩ = some (.slice none 0 0) := (bc_ BK279.out 1).trans rfl
 have hfs19 := bf_ BK279.out 1
 refine skip_ (w1 := ?_) (by rfl) rfl ?_ ?_
 rotate_left
 ·go_simp
  rfl
 refine hK.out _ _ (((cell_far (p := ⟨gb279, _, none⟩) (by have e_ := Kd.own_blk (Kd.R_ne HO283.out BK279.out (by decide)); first | exact e_ | (rw [add_block]; exact e_) | (dsimp only; exact e_)) _).trans (((cell_far (p := ⟨gb279, _, none⟩) (by have e_ := Kd.own_blk (Kd.R_ne HO283.out BK279.out (by decide)); first | exact e_ | (rw [add_block]; exact e_) | (dsimp only; exact e_)) _).trans (hHeld))))) (fun hHeld => ?_)
 clear hK K
 refine pr_ (i := 7) (N := some 3) #[T, T, T, T, T, T, T, T] rfl HT_.out ?_
 refine done_ (done_of HT_.out (by kernel_rfl)) ?_
 try go_wp2
 refine bodyPost_ret (results_ct rfl _ _ gb279 68 #[.int .i64 (rd t280 0), .slice A17 y287.length c17] (0, 0) _ rfl (by (repeat apply bX); refine bp_ (cs := #[.int .i64 (rd t280 0), .slice none 0 0]) ?_ 1 _ rfl; (repeat apply bX); refine bp_ (cs := #[.int .i64 0, .slice none 0 0]) ?_ 0 _ rfl; (repeat apply bX); exact BK279.out) Try.underlying68 rfl (by kernel_rfl)) rfl ?_
 exact ⟨_, by first | rfl | (simp [errW_none, errW_some] <;> rfl) | (simp [*, errW_none, errW_some] <;> rfl), by (with_reducible repeat (first | apply Kd.Q_alloc | apply Kd.Q_drewN | apply Kd.Q_drew)); exact Kd.Q_mono (Kd.Q_far (p := ⟨gb279, 1, none⟩) (Kd.Q_far (p := ⟨gb279, 0, none⟩) (Kd.Q_types HO289.out BK279.out (by decide)) (fun _ hk => hk.2) (.int .i64 (rd t280 0))) (fun _ hk => hk.2) (.slice A17 y287.length c17)) (fun _ hk => trivial), by repeat (first | (with_reducible first | exact HB.out | apply ba_ | apply bd_ | apply be_ | refine bs_ ?_ GE279.out) | exact HB.out)⟩
/-! ### impl_IsOld: function 64 -/
def impl_IsOld.f (a0 : Int) (a1 : Int) : Option (Bool) := (impl_SeqDistance.f a0 a1).bind fun t290 => ((impl_within.f t290 1 7).bind fun t291 => (some t291))
set_option maxHeartbeats 8000000 in
set_option maxRecDepth 100000 in
theorem impl_IsOld.calls (a0 : Int) (a1 : Int) (r : Bool) (w : World) (h : impl_IsOld.f a0 a1 = some r) :
  Calls Try.prog 64 #[.int .i64 a0, .int .i64 a1] w fun e w' => e = .returned (.bool r) ∧ Drawn0 w w' := by
 have H : ((impl_SeqDistance.f a0 a1).bind fun t290 => ((impl_within.f t290 1 7).bind fun t291 => (some t291))) = some r := h
 clear h
 replace H := ob_ H
 obtain ⟨t290, A30, H⟩ := H
 have A3 := A_.mk A30
 clear A30
 replace H := ob_ H
 obtain ⟨t291, A40, H⟩ := H
 have A4 := A_.mk A40
 clear A40
 obtain rfl := Option.some.inj H
 go_enter Try.func64, Try.ntmps64
 go_wp2_with (first | ((with_reducible refine gc_ (f := 46) rfl ?_); refine gl_ (some 7) Try.func46 #[.int .i64 a0, .int .i64 a1] ?_; (with_reducible refine (impl_SeqDistance.calls a0 a1 t290 _ A3.out).mono ?_); rintro e w' ⟨rfl, ⟨nd, rfl⟩⟩; refine ⟨_, rfl, ?_⟩) | ((with_reducible refine gc_ (f := 31) rfl ?_); refine gl_ (some 8) Try.func31 #[.int .i64 t290, .int .i64 1, .int .i64 7] ?_; (with_reducible refine (impl_within.calls t290 1 7 t291 _ A4.out).mono ?_); rintro e w' ⟨rfl, ⟨nd, rfl⟩⟩; refine ⟨_, rfl, ?_⟩))
 go_ret
 exact ⟨by first | rfl | (simp; done) | (simp [*]; done), by repeat (first | exact Drawn0.refl _ | apply Drawn0.step)⟩

/-! ### impl_Judge: function 54 -/
def impl_Judge.j0 : Nat → Bool → Int → List (List Int) → Int → List Int → Option (Int)
 | 0, _, _, _, _, _ => none
 | k + 1, x12, x293000, x293001, x299000, x299001 => if x12 = true then (some 3) else (if x299000 = x293000 then (some 0) else ((impl_IsOld.f x299000 x293000).bind fun t300 => (if t300 = true then (some 1) else (some 2))))
def impl_Judge.f (k : Nat) (a0_0 : Int) (l0_1 : List (List Int)) (l1 : List Int) : Option (Int) := (impl_TakeWire.f k l1).bind fun bt293 => (if bt293.2.2 = true then ((impl_ReceiverOk.f k a0_0 l0_1).bind fun t299 => (impl_Judge.j0 k (!t299) a0_0 l0_1 bt293.1 bt293.2.1)) else (impl_Judge.j0 k true a0_0 l0_1 bt293.1 bt293.2.1))
set_option maxHeartbeats 8000000 in
set_option maxRecDepth 100000 in
theorem impl_Judge.calls (k : Nat) (a0_0 : Int) (A0_1 : Option Addr) (c0_1 : Nat) (l0_1 : List (List Int)) (A1 : Option Addr) (c1 : Nat) (l1 : List Int) (r : Int) (w : World) (hr0_1 : Kd.C (Kd.slice 3 (Kd.int .i64)) w A0_1 l0_1.length l0_1) (hc0_1 : l0_1.length ≤ c0_1) (hr1 : Kd.C (Kd.int .i64) w A1 l1.length l1) (hc1 : l1.length ≤ c1) (h : impl_Judge.f k a0_0 l0_1 l1 = some r) :
  Calls Try.prog 54 #[.agg #[.int .i64 a0_0, .slice A0_1 l0_1.length c0_1], .slice A1 l1.length c1] w fun e w' => e = .returned (.int .i64 r) ∧ Below w.heap.size w w' := by
 have hu31 := Try.underlying31
 have hu68 := Try.underlying68
 have HR0_1 := A_.mk hr0_1
 have HC0_1 := A_.mk hc0_1
 clear hr0_1 hc0_1
 have HR1 := A_.mk hr1
 have HC1 := A_.mk hc1
 clear hr1 hc1
 have HB := A_.mk (Below.refl w.heap.size w)
 have H : ((impl_TakeWire.f k l1).bind fun bt293 => (if bt293.2.2 = true then ((impl_ReceiverOk.f k a0_0 l0_1).bind fun t299 => (impl_Judge.j0 k (!t299) a0_0 l0_1 bt293.1 bt293.2.1)) else (impl_Judge.j0 k true a0_0 l0_1 bt293.1 bt293.2.1))) = some r := h
 clear h
 replace H := ob_ H
 obtain ⟨⟨t293, t294, t297⟩, A30, H⟩ := H
 replace H : (if t297 = true then ((impl_ReceiverOk.f k a0_0 l0_1).bind fun t299 => (impl_Judge.j0 k (!t299) a0_0 l0_1 t293 t294)) else (impl_Judge.j0 k true a0_0 l0_1 t293 t294)) = some r := H
 have A3 := A_.mk A30
 clear A30
 have HC4 := A_.mk H
 clear H
 go_enter Try.func54, Try.ntmps54
 go_upto_region 2 with (first | ((with_reducible refine gd_ (N := 2) rfl ?_); refine by_ 2 (cs := #[.int .i64 a0_0, .slice A0_1 l0_1.length c0_1]) (t := 31) ?_; intro gb292 hg w5 hbox hb; have n0_ := A_.mk (bt_ (beY HB.out) hb); have n1_ := A_.mk (hbox); have n2_ := A_.mk ((by rw [hg]; exact (bz_ (beY HB.out)) : w.heap.size ≤ gb292)); have n3_ := A_.mk ((by rw [hg]; exact (bz_ (beY HB.out)) : w.heap.size ≤ gb292)); clear HB; have HB := n0_; have BK292 := n1_; have GW292 := n2_; have GE292 := n3_; clear n0_ n1_ n2_ n3_ hb hbox hg) | ((with_reducible refine gc_ (f := 55) rfl ?_); refine gl_ (some 9) Try.func55 #[.slice A1 l1.length c1] ?_; (with_reducible refine (impl_TakeWire.calls k _ _ l1 t293 t294 t297 _ ?side1 ?side2 A3.out).mono ?_); (case side1 => exact cY ((Kd.C_below HR1.out HB.out))); (case side2 => exact HC1.out); rintro e w6 ⟨v295, rfl, ho0, hb⟩; refine ⟨_, rfl, ?_⟩; have n0_ := A_.mk (Kd.Q_lower ho0 (bz_ (by repeat (first | (with_reducible first | exact HB.out | apply ba_ | apply bd_ | apply be_ | refine bs_ ?_ GE292.out) | exact HB.out)))); have n1_ := A_.mk (bb_ (bY BK292.out) hb); have n2_ := A_.mk (bt_ (by repeat (first | (with_reducible first | exact HB.out | apply ba_ | apply bd_ | apply be_ | refine bs_ ?_ GE292.out) | exact HB.out)) hb); clear BK292 HB; have HO296 := n0_; have BK292 := n1_; have HB := n2_; clear n0_ n1_ n2_; (try clear hb); (try clear hb2); (try clear hk); (try clear hi); (try clear ho0)) | ((with_reducible refine gd_ (N := 5) rfl ?_); refine by_ 5 (cs := #[.int .i64 0, .slice none 0 0]) (t := 68) ?_; intro gb298 hg w7 hbox hb; have n0_ := A_.mk (Kd.Q_below (by (with_reducible repeat (first | apply Kd.Q_alloc | apply Kd.Q_drewN | apply Kd.Q_drew)); exact HO296.out) hb); have n1_ := A_.mk (bb_ (bY BK292.out) hb); have n2_ := A_.mk (bt_ (by repeat (first | (with_reducible first | exact HB.out | apply ba_ | apply bd_ | apply be_ | refine bs_ ?_ GE292.out) | exact HB.out)) hb); have n3_ := A_.mk (hbox); have n4_ := A_.mk ((by rw [hg]; exact (bz_ (by repeat (first | (with_reducible first | exact HB.out | apply ba_ | apply bd_ | apply be_ | refine bs_ ?_ GE292.out) | exact HB.out))) : w.heap.size ≤ gb298)); have n5_ := A_.mk ((by rw [hg]; exact (bz_ (by repeat (first | (with_reducible first | exact HB.out | apply ba_ | apply bd_ | apply be_ | refine bs_ ?_ GE292.out) | exact HB.out))) : w.heap.size ≤ gb298)); have n6_ := A_.mk ((by rw [hg]; exact Nat.ne_of_lt (blk_lt (bY BK292.out)) : gb292 ≠ gb298)); have n7_ := A_.mk ((by rw [hg]; exact Nat.ne_of_gt (blk_lt (bY BK292.out)) : gb298 ≠ gb292)); clear HO296 BK292 HB; have HO296 := n0_; have BK292 := n1_; have HB := n2_; have BK298 := n3_; have GW298 := n4_; have GE298 := n5_; have NB292_298 := n6_; have NB298_292 := n7_; clear n0_ n1_ n2_ n3_ n4_ n5_ n6_ n7_ hb hbox hg; have hnb8 := NB298_292.out; have hnc8 := NB292_298.out; have hcz9_0 : w7.cell? ⟨gb298, 0, none⟩ = some (.int .i64 0) := (bc_ BK298.out 0).trans rfl; have hcz9_1 : w7.cell? ⟨gb298, 1, none⟩ = some (.slice none 0 0) := (bc_ BK298.out 1).trans rfl; have hfz9_0 := bf_ BK298.out 0; have hfz9_1 := bf_ BK298.out 1; obtain ⟨Ao10, co10, eo10, _⟩ := Kd.Q_slice HO296.out; subst eo10))
 (try simp only [Act.put, List.setIfInBounds_toArray, List.set_cons_zero, List.set_cons_succ])
 go_cut [12] (fun v12 wc => ∃ (kq : Nat) (x12_3 : Bool), v12 = .bool x12_3 ∧ A_ (impl_Judge.j0 kq x12_3 a0_0 l0_1 t293 t294 = some r) ∧ A_ (kq ≤ k) ∧ A_ (Kd.Q (Kd.int .i64) 3 wc w.heap.size (fun _ => True) (.slice Ao10 t294.length co10) t294) ∧ A_ (wc.heap[gb292]? = some (.cells #[.int .i64 a0_0, (.slice A0_1 l0_1.length c0_1)] 31 (0, 0))) ∧ A_ (wc.heap[gb298]? = some (.cells #[.int .i64 t293, (.slice Ao10 t294.length co10)] 68 (0, 0))) ∧ A_ (Below w.heap.size w wc))
 case first =>
  have H := HC4.out
  clear HC4
  by_cases c11 : t297 = true
  rotate_left
  ·replace c11 := Bool.eq_false_iff.mpr c11
   subst c11
   have H1 : (impl_Judge.j0 k true a0_0 l0_1 t293 t294) = some r := by rw [if_neg (show ¬ (false = true) by decide)] at H; exact H
   clear H
   have H := H1
   clear H1
   have H' := A_.mk H
   clear H
   go_wp2
   go_meet
   case rel => exact ⟨_, (true), (by first | rfl | (simp; done) | (simp [*]; done)), H', ⟨by first | omega | exact Nat.le_refl _⟩, ⟨by (with_reducible repeat (first | apply Kd.Q_alloc | apply Kd.Q_drewN | apply Kd.Q_drew)); exact Kd.Q_mono (Kd.Q_far (p := ⟨gb298, 1, none⟩) (Kd.Q_far (p := ⟨gb298, 0, none⟩) (Kd.Q_types HO296.out BK298.out (by decide)) (fun _ hk => hk.2) (.int .i64 t293)) (fun _ hk => hk.2) (.slice Ao10 t294.length co10)) (fun _ hk => trivial)⟩, ⟨by (repeat apply bX); refine blk_far ?_ NB292_298.out _; (repeat apply bX); refine blk_far ?_ NB292_298.out _; (repeat apply bX); exact BK292.out⟩, ⟨by (repeat apply bX); refine bp_ (cs := #[.int .i64 t293, .slice none 0 0]) ?_ 1 _ rfl; (repeat apply bX); refine bp_ (cs := #[.int .i64 0, .slice none 0 0]) ?_ 0 _ rfl; (repeat apply bX); exact BK298.out⟩, ⟨by repeat (first | (with_reducible first | exact HB.out | apply ba_ | apply bd_ | apply be_ | refine bs_ ?_ GE292.out | refine bs_ ?_ GE298.out) | exact HB.out)⟩⟩
  subst c11
  have H1 : ((impl_ReceiverOk.f k a0_0 l0_1).bind fun t299 => (impl_Judge.j0 k (!t299) a0_0 l0_1 t293 t294)) = some r := by rw [if_pos rfl] at H; exact H
  clear H
  have H := H1
  clear H1
  replace H := ob_ H
  obtain ⟨t299, A120, H⟩ := H
  have A12 := A_.mk A120
  clear A120
  have H' := A_.mk H
  clear H
  have hnb13 := NB292_298.out
  have hnc13 := NB298_292.out
  obtain ⟨hcz14_0, hcz14_1, hfz14_0, hfz14_1⟩ := b2 BK292.out
  go_wp2_with (first | (go_at_call 26; (with_reducible refine (impl_ReceiverOk.calls k a0_0 _ _ l0_1 t299 _ ?side1 ?side2 A12.out).mono ?_); (case side1 => exact Kd.C_below HR0_1.out (by repeat (first | (with_reducible first | exact HB.out | apply ba_ | apply bd_ | apply be_ | refine bs_ ?_ GE292.out | refine bs_ ?_ GE298.out) | exact HB.out))); (case side2 => exact HC0_1.out); rintro e w15 ⟨rfl, hb⟩; have n0_ := A_.mk (Kd.Q_below (by (with_reducible repeat (first | apply Kd.Q_alloc | apply Kd.Q_drewN | apply Kd.Q_drew)); exact (Kd.Q_mono (Kd.Q_far (p := ⟨gb298, 1, none⟩) (Kd.Q_far (p := ⟨gb298, 0, none⟩) (Kd.Q_types HO296.out BK298.out (by decide)) (fun _ hk => hk.2) (.int .i64 t293)) (fun _ hk => hk.2) (.slice Ao10 t294.length co10)) (fun _ h_ => h_.1))) hb); have n1_ := A_.mk (bb_ (g := gb292) (o := .cells #[.int .i64 a0_0, .slice A0_1 l0_1.length c0_1] 31 (0, 0)) (by (repeat apply bX); refine blk_far ?_ NB292_298.out _; (repeat apply bX); refine blk_far ?_ NB292_298.out _; (repeat apply bX); exact BK292.out) hb); have n2_ := A_.mk (bb_ (g := gb298) (o := .cells #[.int .i64 t293, .slice Ao10 t294.length co10] 68 (0, 0)) (by (repeat apply bX); refine bp_ (cs := #[.int .i64 t293, .slice none 0 0]) ?_ 1 _ rfl; (repeat apply bX); refine bp_ (cs := #[.int .i64 0, .slice none 0 0]) ?_ 0 _ rfl; (repeat apply bX); exact BK298.out) hb); have n3_ := A_.mk (bt_ (by repeat (first | (with_reducible first | exact HB.out | apply ba_ | apply bd_ | apply be_ | refine bs_ ?_ GE292.out | refine bs_ ?_ GE298.out) | exact HB.out)) hb); clear HO296 BK292 BK298 HB; have HO296 := n0_; have BK292 := n1_; have BK298 := n2_; have HB := n3_; clear n0_ n1_ n2_ n3_; (try clear hb); (try clear hb2); (try clear hk); (try clear hi)))
  go_meet
  case rel => exact ⟨_, (!t299), (by first | rfl | (simp; done) | (simp [*]; done)), H', ⟨by first | omega | exact Nat.le_refl _⟩, ⟨by (with_reducible repeat (first | apply Kd.Q_alloc | apply Kd.Q_drewN | apply Kd.Q_drew)); exact HO296.out⟩, ⟨by (repeat apply bX); exact BK292.out⟩, ⟨by (repeat apply bX); exact BK298.out⟩, ⟨by repeat (first | (with_reducible first | exact HB.out | apply ba_ | apply bd_ | apply be_ | refine bs_ ?_ GE292.out | refine bs_ ?_ GE298.out) | exact HB.out)⟩⟩
 case rest =>
  clear HC4
  obtain ⟨kq, x12_3, rfl, HA, HJ3, HO_299001, BK292, BK298, HB⟩ := hcut
  cases kq with
  | zero => exact absurd HA.out (by simp [impl_Judge.j0])
  | succ kj3 =>
   have H := HA.out
   clear HA
   simp only [impl_Judge.j0] at H
   by_cases c16 : x12_3 = true
   ·subst c16
    have H1 : (some 3) = some r := by rw [if_pos rfl] at H; exact H
    clear H
    have H := H1
    clear H1
    obtain rfl := Option.some.inj H
    go_wp2
    go_ret
    exact ⟨by first | rfl | (simp [errW_none, errW_some] <;> rfl) | (simp [*, errW_none, errW_some] <;> rfl), by repeat (first | (with_reducible first | exact HB.out | apply ba_ | apply bd_ | apply be_ | refine bs_ ?_ GE292.out | refine bs_ ?_ GE298.out) | exact HB.out)⟩
   replace c16 := Bool.eq_false_iff.mpr c16
   subst c16
   have H1 : (if t293 = a0_0 then (some 0) else ((impl_IsOld.f t293 a0_0).bind fun t300 => (if t300 = true then (some 1) else (some 2)))) = some r := by rw [if_neg (show ¬ (false = true) by decide)] at H; exact H
   clear H
   have H := H1
   clear H1
   by_cases c17 : t293 = a0_0
   ·rw [if_pos c17] at H
    have c17b0 : (t293 == a0_0) = true := beq_iff_eq.mpr c17
    have c17b1 : (t293 != a0_0) = false := bne_eq_false_iff_eq.mpr c17
    clear c17
    obtain rfl := Option.some.inj H
    have hnb18 := NB298_292.out
    have hnc18 := NB292_298.out
    obtain ⟨hcz19_0, hcz19_1, hfz19_0, hfz19_1⟩ := b2 BK298.out
    obtain ⟨hcz20_0, hcz20_1, hfz20_0, hfz20_1⟩ := b2 BK292.out
    go_wp2
    go_ret
    exact ⟨by first | rfl | (simp [errW_none, errW_some] <;> rfl) | (simp [*, errW_none, errW_some] <;> rfl), by repeat (first | (with_reducible first | exact HB.out | apply ba_ | apply bd_ | apply be_ | refine bs_ ?_ GE292.out | refine bs_ ?_ GE298.out) | exact HB.out)⟩
   rw [if_neg c17] at H
   have c17b0 : (t293 == a0_0) = false := beq_eq_false_iff_ne.mpr c17
   have c17b1 : (t293 != a0_0) = true := bne_iff_ne.mpr c17
   replace H := ob_ H
   obtain ⟨t300, A210, H⟩ := H
   have A21 := A_.mk A210
   clear A210
   by_cases c22 : t300 = true
   ·subst c22
    have H1 : (some 1) = some r := by rw [if_pos rfl] at H; exact H
    clear H
    have H := H1
    clear H1
    obtain rfl := Option.some.inj H
    have hnb23 := NB298_292.out
    have hnc23 := NB292_298.out
    obtain ⟨hcz24_0, hcz24_1, hfz24_0, hfz24_1⟩ := b2 BK298.out
    obtain ⟨hcz25_0, hcz25_1, hfz25_0, hfz25_1⟩ := b2 BK292.out
    go_wp2_with (first | ((with_reducible refine gc_ (f := 64) rfl ?_); refine gl_ (some 31) Try.func64 #[.int .i64 t293, .int .i64 a0_0] ?_; (with_reducible refine (impl_IsOld.calls t293 a0_0 true _ A21.out).mono ?_); rintro e w' ⟨rfl, ⟨nd, rfl⟩⟩; refine ⟨_, rfl, ?_⟩))
    go_ret
    exact ⟨by first | rfl | (simp [errW_none, errW_some] <;> rfl) | (simp [*, errW_none, errW_some] <;> rfl), by repeat (first | (with_reducible first | exact HB.out | apply ba_ | apply bd_ | apply be_ | refine bs_ ?_ GE292.out | refine bs_ ?_ GE298.out) | exact HB.out)⟩
   replace c22 := Bool.eq_false_iff.mpr c22
   subst c22
   have H1 : (some 2) = some r := by rw [if_neg (show ¬ (false = true) by decide)] at H; exact H
   clear H
   have H := H1
   clear H1
   obtain rfl := Option.some.inj H
   have hnb26 := NB298_292.out
   have hnc26 := NB292_298.out
   obtain ⟨hcz27_0, hcz27_1, hfz27_0, hfz27_1⟩ := b2 BK298.out
   obtain ⟨hcz28_0, hcz28_1, hfz28_0, hfz28_1⟩ := b2 BK292.out
   go_wp2_with (first | ((with_reducible refine gc_ (f := 64) rfl ?_); refine gl_ (some 31) Try.func64 #[.int .i64 t293, .int .i64 a0_0] ?_; (with_reducible refine (impl_IsOld.calls t293 a0_0 false _ A21.out).mono ?_); rintro e w' ⟨rfl, ⟨nd, rfl⟩⟩; refine ⟨_, rfl, ?_⟩))
   go_ret
   exact ⟨by first | rfl | (simp [errW_none, errW_some] <;> rfl) | (simp [*, errW_none, errW_some] <;> rfl), by repeat (first | (with_reducible first | exact HB.out | apply ba_ | apply bd_ | apply be_ | refine bs_ ?_ GE292.out | refine bs_ ?_ GE298.out) | exact HB.out)⟩
end Go.Proofs.Ytflopendlbciaaa.PFnLinkOnce
