-- Written by a program of this session (wip/xp): not trusted, Lean checks it.
import Derived.Test.YtbdehpmfemgooaaPFnBlockedx0
import Derived.Test.YtbdehpmfemgooaaPFnBlockedx6
import Derived.Test.YtbdehpmfemgooaaPFnBlockedx7
import Derived.Test.YtbdehpmfemgooaaPFnBlockedx9
import Derived.Test.YtbdehpmfemgooaaPFnBlockedx10
import Derived.Test.YtbdehpmfemgooaaPFnBlockedx11
import Derived.Test.YtbdehpmfemgooaaPFnBlockedx12
import Derived.Test.YtbdehpmfemgooaaPFnBlockedx13
namespace Go.Proofs.Ytbdehpmfemgooaa.PFnBlocked
open Go.RowKit Go.Proofs.YtbdehpmfemgooaaW.PrintWords Go.Proofs.YtbdehpmfemgooaaW.PrintLast Go.Proofs.YtbdehpmfemgooaaW.PrintMore
attribute [local go_sem] max2_int min2_int max_two min_two max_three min_three max_four min_four   -- for this text's walks alone
set_option linter.unusedVariables false
set_option linter.unusedSimpArgs false

/-! ### slices_Index_int_int: function 78 -/
def slices_Index_int_int.l0 : Nat → List Int → Int → Int → Int → Option (Int)
 | 0, _, _, _, _ => none
 | k + 1, x0, x1, x7, x8 => if x8 < x7 then (if 0 ≤ x8 then (if x8 < (x0.length : Int) then (if x1 = (rd x0 x8) then (some x8) else (slices_Index_int_int.l0 k x0 x1 x7 (wrap64 (x8 + 1)))) else (none)) else (none)) else (some (-1))
def slices_Index_int_int.f (k : Nat) (l0 : List Int) (a1 : Int) : Option (Int) := slices_Index_int_int.l0 k l0 a1 (l0.length : Int) 0
set_option maxHeartbeats 8000000 in
set_option maxRecDepth 100000 in
theorem slices_Index_int_int.calls (k : Nat) (A0 : Option Addr) (c0 : Nat) (l0 : List Int) (a1 : Int) (r : Int) (w : World) (hr0 : Kd.C (Kd.int .i64) w A0 l0.length l0) (hc0 : l0.length ≤ c0) (h : slices_Index_int_int.f k l0 a1 = some r) :
  Calls Try.prog 78 #[.slice A0 l0.length c0, .int .i64 a1] w fun e w' => e = .returned (.int .i64 r) ∧ Drawn0 w w' := by
 have HR0 := Aside0.mk hr0
 have HC0 := Aside0.mk hc0
 clear hr0 hc0
 have H : (slices_Index_int_int.l0 k l0 a1 (l0.length : Int) 0) = some r := h
 clear h
 have H' := Aside0.mk H
 clear H
 go_enter Try.func78, Try.ntmps78
 go_wp2
 go_loopg [8] k (fun kq v8 w' => ∃ (x8_1 : Int), v8 = .int .i64 x8_1 ∧ Aside0 (slices_Index_int_int.l0 kq l0 a1 (l0.length : Int) x8_1 = some r) ∧ Aside0 (kq ≤ k) ∧ Drawn0 w w')
 case atStart => exact ⟨(0), (by first | rfl | (simp; done) | (simp [*]; done)), H', ⟨Nat.le_refl _⟩, by repeat (first | exact Drawn0.refl _ | apply Drawn0.step)⟩
 case round =>
  clear H'
  obtain ⟨x8_1, rfl, HA, HK1, ⟨m1, rfl⟩⟩ := hrel
  cases gk with
  | zero => exact absurd HA.out (by simp [slices_Index_int_int.l0])
  | succ k1 =>
   have H := HA.out
   clear HA
   simp only [slices_Index_int_int.l0] at H
   by_cases c3 : x8_1 < (l0.length : Int)
   rotate_left
   ·rw [if_neg c3] at H
    have c3b0 : decide (x8_1 < (l0.length : Int)) = false := decide_eq_false c3
    clear c3
    obtain rfl := Option.some.inj H
    go_wp2
    go_ret
    exact ⟨by first | rfl | (simp; done) | (simp [*]; done), by repeat (first | exact Drawn0.refl _ | apply Drawn0.step)⟩
   rw [if_pos c3] at H
   have c3b0 : decide (x8_1 < (l0.length : Int)) = true := decide_eq_true c3
   clear c3
   by_cases c4 : 0 ≤ x8_1
   rotate_left
   ·rw [if_neg c4] at H
    exact absurd H (by simp)
   rw [if_pos c4] at H
   have c4b0 : decide (0 ≤ x8_1) = true := decide_eq_true c4
   clear c4
   by_cases c5 : x8_1 < (l0.length : Int)
   rotate_left
   ·rw [if_neg c5] at H
    exact absurd H (by simp)
   rw [if_pos c5] at H
   have c5b0 : decide (x8_1 < (l0.length : Int)) = true := decide_eq_true c5
   clear c5
   by_cases c6 : a1 = (rd l0 x8_1)
   ·rw [if_pos c6] at H
    have c6b0 : (a1 == (rd l0 x8_1)) = true := beq_iff_eq.mpr c6
    have c6b1 : (a1 != (rd l0 x8_1)) = false := bne_eq_false_iff_eq.mpr c6
    clear c6
    obtain rfl := Option.some.inj H
    have p461 : 0 ≤ (x8_1 : Int) := of_decide_eq_true (by first | (with_reducible assumption) | assumption)
    have q461 : x8_1 < (l0.length : Int) := of_decide_eq_true (by first | (with_reducible assumption) | assumption)
    obtain ⟨ad461, e461, hx461_0⟩ := Kd.at_int HR0.out x8_1 p461 q461
    cases e461
    replace p461 := eq_true p461
    replace q461 := eq_true q461
    go_wp2
    go_ret
    exact ⟨by first | rfl | (simp; done) | (simp [*]; done), by repeat (first | exact Drawn0.refl _ | apply Drawn0.step)⟩
   rw [if_neg c6] at H
   have c6b0 : (a1 == (rd l0 x8_1)) = false := beq_eq_false_iff_ne.mpr c6
   have c6b1 : (a1 != (rd l0 x8_1)) = true := bne_iff_ne.mpr c6
   have H' := Aside0.mk H
   clear H
   have p461 : 0 ≤ (x8_1 : Int) := of_decide_eq_true (by first | (with_reducible assumption) | assumption)
   have q461 : x8_1 < (l0.length : Int) := of_decide_eq_true (by first | (with_reducible assumption) | assumption)
   obtain ⟨ad461, e461, hx461_0⟩ := Kd.at_int HR0.out x8_1 p461 q461
   cases e461
   replace p461 := eq_true p461
   replace q461 := eq_true q461
   go_wp2
   go_roundg k1
   case measure => have := HK1.out; omega
   case rel => exact ⟨(wrap64 (x8_1 + 1)), (by first | rfl | (simp; done) | (simp [*]; done)), H', ⟨by have := HK1.out; omega⟩, by repeat (first | exact Drawn0.refl _ | apply Drawn0.step)⟩
/-! ### slices_Contains_int_int: function 56 -/
def slices_Contains_int_int.f (k : Nat) (l0 : List Int) (a1 : Int) : Option (Bool) := (slices_Index_int_int.f k l0 a1).bind fun t462 => (some (decide (t462 ≥ 0)))
set_option maxHeartbeats 8000000 in
set_option maxRecDepth 100000 in
theorem slices_Contains_int_int.calls (k : Nat) (A0 : Option Addr) (c0 : Nat) (l0 : List Int) (a1 : Int) (r : Bool) (w : World) (hr0 : Kd.C (Kd.int .i64) w A0 l0.length l0) (hc0 : l0.length ≤ c0) (h : slices_Contains_int_int.f k l0 a1 = some r) :
  Calls Try.prog 56 #[.slice A0 l0.length c0, .int .i64 a1] w fun e w' => e = .returned (.bool r) ∧ Drawn0 w w' := by
 have HR0 := Aside0.mk hr0
 have HC0 := Aside0.mk hc0
 clear hr0 hc0
 have H : ((slices_Index_int_int.f k l0 a1).bind fun t462 => (some (decide (t462 ≥ 0)))) = some r := h
 clear h
 replace H := Option.bind_eq_some_iff.mp H
 obtain ⟨t462, A30, H⟩ := H
 have A3 := Aside0.mk A30
 clear A30
 obtain rfl := Option.some.inj H
 go_enter Try.func56, Try.ntmps56
 go_wp2_with (first | ((with_reducible refine gc_ (f := 78) rfl ?_); refine goesL_ (some 7) rfl rfl Try.func78 (by kernel_rfl) rfl #[.slice A0 l0.length c0, .int .i64 a1] rfl (by (try simp only [List.map_toArray, List.map_cons, List.map_nil]); first | done | rfl) ?_; (with_reducible refine (slices_Index_int_int.calls k _ _ l0 a1 t462 _ ?side1 ?side2 A3.out).mono ?_); (case side1 => exact cY (HR0.out)); (case side2 => exact HC0.out); rintro e w' ⟨rfl, ⟨nd, rfl⟩⟩; refine ⟨_, rfl, ?_⟩))
 go_ret
 exact ⟨by first | rfl | (simp; done) | (simp [*]; done), by repeat (first | exact Drawn0.refl _ | apply Drawn0.step)⟩

/-! ### impl_BlockedBy: function 36 -/
def impl_BlockedBy.l0 : Nat → Int → List Int → List (S60) → Int → Int → List (S60) → List Int → List Int → List (S60) → Option (Int)
 | 0, _, _, _, _, _, _, _, _, _ => none
 | k + 1, x3, x4, x14, x15, x16, x464000, x464001, x464002, x464003 => if x16 < x15 then (if 0 ≤ x16 then (if x16 < (x14.length : Int) then ((impl_CanSend.f k x464001 x464002 ((rd_T60 x14 x16).f0) ((rd_T60 x14 x16).f1) ((rd_T60 x14 x16).f2) ((rd_T60 x14 x16).f3) ((rd_T60 x14 x16).f4) ((rd_T60 x14 x16).f5) ((rd_T60 x14 x16).f6) ((rd_T60 x14 x16).f7)).bind fun t470 => (if t470 = true then ((slices_Contains_int_int.f k x4 x16).bind fun t471 => (if t471 = true then (impl_BlockedBy.l0 k x3 x4 x14 x15 (wrap64 (x16 + 1)) x464000 x464001 x464002 x464003) else (impl_BlockedBy.l0 k (wrap64 (x3 + 1)) x4 x14 x15 (wrap64 (x16 + 1)) x464000 x464001 x464002 x464003))) else (impl_BlockedBy.l0 k x3 x4 x14 x15 (wrap64 (x16 + 1)) x464000 x464001 x464002 x464003))) else (none)) else (none)) else (some x3)
def impl_BlockedBy.f (k : Nat) (l0_0 : List (S60)) (l0_1 : List Int) (l0_2 : List Int) (l0_3 : List (S60)) : Option (Int) := (impl_QueueOk.f k l0_0 l0_1 l0_2 l0_3).bind fun t464 => (if t464 = true then ((impl_PassersOf.f k l0_0).bind fun t465 => (impl_BlockedBy.l0 k 0 t465 l0_0 (l0_0.length : Int) 0 l0_0 l0_1 l0_2 l0_3)) else (some (-1)))
set_option maxHeartbeats 8000000 in
set_option maxRecDepth 100000 in
theorem impl_BlockedBy.calls (k : Nat) (A0_0 : Option Addr) (c0_0 : Nat) (l0_0 : List (S60)) (A0_1 : Option Addr) (c0_1 : Nat) (l0_1 : List Int) (A0_2 : Option Addr) (c0_2 : Nat) (l0_2 : List Int) (A0_3 : Option Addr) (c0_3 : Nat) (l0_3 : List (S60)) (r : Int) (w : World) (hr0_0 : Kd.C k60 w A0_0 l0_0.length l0_0) (hc0_0 : l0_0.length ≤ c0_0) (hr0_1 : Kd.C (Kd.int .i64) w A0_1 l0_1.length l0_1) (hc0_1 : l0_1.length ≤ c0_1) (hr0_2 : Kd.C (Kd.int .i64) w A0_2 l0_2.length l0_2) (hc0_2 : l0_2.length ≤ c0_2) (hr0_3 : Kd.C k60 w A0_3 l0_3.length l0_3) (hc0_3 : l0_3.length ≤ c0_3) (h : impl_BlockedBy.f k l0_0 l0_1 l0_2 l0_3 = some r) :
  Calls Try.prog 36 #[.agg #[.slice A0_0 l0_0.length c0_0, .slice A0_1 l0_1.length c0_1, .slice A0_2 l0_2.length c0_2, .slice A0_3 l0_3.length c0_3]] w fun e w' => e = .returned (.int .i64 r) ∧ Below w.heap.size w w' := by
 have hu53 := Try.underlying53
 have hu60 := Try.underlying60
 have hu26 := Try.underlying26
 have HR0_0 := Aside0.mk hr0_0
 have HC0_0 := Aside0.mk hc0_0
 clear hr0_0 hc0_0
 have HR0_1 := Aside0.mk hr0_1
 have HC0_1 := Aside0.mk hc0_1
 clear hr0_1 hc0_1
 have HR0_2 := Aside0.mk hr0_2
 have HC0_2 := Aside0.mk hc0_2
 clear hr0_2 hc0_2
 have HR0_3 := Aside0.mk hr0_3
 have HC0_3 := Aside0.mk hc0_3
 clear hr0_3 hc0_3
 have HB := Aside0.mk (Below.refl w.heap.size w)
 have H : ((impl_QueueOk.f k l0_0 l0_1 l0_2 l0_3).bind fun t464 => (if t464 = true then ((impl_PassersOf.f k l0_0).bind fun t465 => (impl_BlockedBy.l0 k 0 t465 l0_0 (l0_0.length : Int) 0 l0_0 l0_1 l0_2 l0_3)) else (some (-1)))) = some r := h
 clear h
 replace H := Option.bind_eq_some_iff.mp H
 obtain ⟨t464, A20, H⟩ := H
 have A2 := Aside0.mk A20
 clear A20
 by_cases c3 : t464 = true
 rotate_left
 ·replace c3 := Bool.eq_false_iff.mpr c3
  subst c3
  have H1 : (some (-1)) = some r := by rw [if_neg (show ¬ (false = true) by decide)] at H; exact H
  clear H
  have H := H1
  clear H1
  obtain rfl := Option.some.inj H
  go_enter Try.func36, Try.ntmps36
  go_wp2_with (first | ((with_reducible refine gd_ (N := 1) rfl ?_); refine bx_ ?hg (N := 1) ?hd (cs := #[.slice A0_0 l0_0.length c0_0, .slice A0_1 l0_1.length c0_1, .slice A0_2 l0_2.length c0_2, .slice A0_3 l0_3.length c0_3]) (t := 53) ?hr ?_; (case hd => rfl); (case hg => rfl); (case hr => first | (go_simp; done) | (go_simp; rfl)); intro gb463 hg w35 hbox hb; have n0_ := Aside0.mk (bt_ (beY HB.out) hb); have n1_ := Aside0.mk (hbox); have n2_ := Aside0.mk ((by rw [hg]; exact (bz_ (beY HB.out)) : w.heap.size ≤ gb463)); have n3_ := Aside0.mk ((by rw [hg]; exact (bz_ (beY HB.out)) : w.heap.size ≤ gb463)); clear HB; have HB := n0_; have BK463 := n1_; have GW463 := n2_; have GE463 := n3_; clear n0_ n1_ n2_ n3_ hb hbox hg; have hcz36_0 : w35.cell? ⟨gb463, 0, none⟩ = some (.slice A0_0 l0_0.length c0_0) := (bc_ BK463.out 0).trans rfl; have hcz36_1 : w35.cell? ⟨gb463, 1, none⟩ = some (.slice A0_1 l0_1.length c0_1) := (bc_ BK463.out 1).trans rfl; have hcz36_2 : w35.cell? ⟨gb463, 2, none⟩ = some (.slice A0_2 l0_2.length c0_2) := (bc_ BK463.out 2).trans rfl; have hcz36_3 : w35.cell? ⟨gb463, 3, none⟩ = some (.slice A0_3 l0_3.length c0_3) := (bc_ BK463.out 3).trans rfl; have hfz36_0 := bf_ BK463.out 0; have hfz36_1 := bf_ BK463.out 1; have hfz36_2 := bf_ BK463.out 2; have hfz36_3 := bf_ BK463.out 3) | ((with_reducible refine gc_ (f := 34) rfl ?_); refine goesL_ (some 8) rfl rfl Try.func34 (by kernel_rfl) rfl #[.agg #[.slice A0_0 l0_0.length c0_0, .slice A0_1 l0_1.length c0_1, .slice A0_2 l0_2.length c0_2, .slice A0_3 l0_3.length c0_3]] rfl (by (try simp only [List.map_toArray, List.map_cons, List.map_nil]); first | done | rfl) ?_; (with_reducible refine (impl_QueueOk.calls k _ _ l0_0 _ _ l0_1 _ _ l0_2 _ _ l0_3 false _ ?side1 ?side2 ?side3 ?side4 ?side5 ?side6 ?side7 ?side8 A2.out).mono ?_); (case side1 => exact cY ((Kd.C_below HR0_0.out HB.out))); (case side2 => exact HC0_0.out); (case side3 => exact cY ((Kd.C_below HR0_1.out HB.out))); (case side4 => exact HC0_1.out); (case side5 => exact cY ((Kd.C_below HR0_2.out HB.out))); (case side6 => exact HC0_2.out); (case side7 => exact cY ((Kd.C_below HR0_3.out HB.out))); (case side8 => exact HC0_3.out); rintro e w37 ⟨rfl, hb⟩; refine ⟨_, rfl, ?_⟩; have n0_ := Aside0.mk (bb_ (bY BK463.out) hb); have n1_ := Aside0.mk (bt_ (by repeat (first | (with_reducible first | exact HB.out | apply ba_ | apply bd_ | apply be_ | refine bs_ ?_ GE463.out) | exact HB.out)) hb); clear BK463 HB; have BK463 := n0_; have HB := n1_; clear n0_ n1_; (try clear hb); (try clear hb2); (try clear hk); (try clear hi)))
  go_ret
  exact ⟨by first | rfl | (simp [errW_none, errW_some] <;> rfl) | (simp [*, errW_none, errW_some] <;> rfl), by repeat (first | (with_reducible first | exact HB.out | apply ba_ | apply bd_ | apply be_ | refine bs_ ?_ GE463.out) | exact HB.out)⟩
 subst c3
 have H1 : ((impl_PassersOf.f k l0_0).bind fun t465 => (impl_BlockedBy.l0 k 0 t465 l0_0 (l0_0.length : Int) 0 l0_0 l0_1 l0_2 l0_3)) = some r := by rw [if_pos rfl] at H; exact H
 clear H
 have H := H1
 clear H1
 replace H := Option.bind_eq_some_iff.mp H
 obtain ⟨t465, A40, H⟩ := H
 have A4 := Aside0.mk A40
 clear A40
 have H' := Aside0.mk H
 clear H
 go_enter Try.func36, Try.ntmps36
 go_wp2_with (first | ((with_reducible refine gd_ (N := 1) rfl ?_); refine bx_ ?hg (N := 1) ?hd (cs := #[.slice A0_0 l0_0.length c0_0, .slice A0_1 l0_1.length c0_1, .slice A0_2 l0_2.length c0_2, .slice A0_3 l0_3.length c0_3]) (t := 53) ?hr ?_; (case hd => rfl); (case hg => rfl); (case hr => first | (go_simp; done) | (go_simp; rfl)); intro gb463 hg w5 hbox hb; have n0_ := Aside0.mk (bt_ (beY HB.out) hb); have n1_ := Aside0.mk (hbox); have n2_ := Aside0.mk ((by rw [hg]; exact (bz_ (beY HB.out)) : w.heap.size ≤ gb463)); have n3_ := Aside0.mk ((by rw [hg]; exact (bz_ (beY HB.out)) : w.heap.size ≤ gb463)); clear HB; have HB := n0_; have BK463 := n1_; have GW463 := n2_; have GE463 := n3_; clear n0_ n1_ n2_ n3_ hb hbox hg; have hcz6_0 : w5.cell? ⟨gb463, 0, none⟩ = some (.slice A0_0 l0_0.length c0_0) := (bc_ BK463.out 0).trans rfl; have hcz6_1 : w5.cell? ⟨gb463, 1, none⟩ = some (.slice A0_1 l0_1.length c0_1) := (bc_ BK463.out 1).trans rfl; have hcz6_2 : w5.cell? ⟨gb463, 2, none⟩ = some (.slice A0_2 l0_2.length c0_2) := (bc_ BK463.out 2).trans rfl; have hcz6_3 : w5.cell? ⟨gb463, 3, none⟩ = some (.slice A0_3 l0_3.length c0_3) := (bc_ BK463.out 3).trans rfl; have hfz6_0 := bf_ BK463.out 0; have hfz6_1 := bf_ BK463.out 1; have hfz6_2 := bf_ BK463.out 2; have hfz6_3 := bf_ BK463.out 3) | ((with_reducible refine gc_ (f := 34) rfl ?_); refine goesL_ (some 8) rfl rfl Try.func34 (by kernel_rfl) rfl #[.agg #[.slice A0_0 l0_0.length c0_0, .slice A0_1 l0_1.length c0_1, .slice A0_2 l0_2.length c0_2, .slice A0_3 l0_3.length c0_3]] rfl (by (try simp only [List.map_toArray, List.map_cons, List.map_nil]); first | done | rfl) ?_; (with_reducible refine (impl_QueueOk.calls k _ _ l0_0 _ _ l0_1 _ _ l0_2 _ _ l0_3 true _ ?side1 ?side2 ?side3 ?side4 ?side5 ?side6 ?side7 ?side8 A2.out).mono ?_); (case side1 => exact cY ((Kd.C_below HR0_0.out HB.out))); (case side2 => exact HC0_0.out); (case side3 => exact cY ((Kd.C_below HR0_1.out HB.out))); (case side4 => exact HC0_1.out); (case side5 => exact cY ((Kd.C_below HR0_2.out HB.out))); (case side6 => exact HC0_2.out); (case side7 => exact cY ((Kd.C_below HR0_3.out HB.out))); (case side8 => exact HC0_3.out); rintro e w7 ⟨rfl, hb⟩; refine ⟨_, rfl, ?_⟩; have n0_ := Aside0.mk (bb_ (bY BK463.out) hb); have n1_ := Aside0.mk (bt_ (by repeat (first | (with_reducible first | exact HB.out | apply ba_ | apply bd_ | apply be_ | refine bs_ ?_ GE463.out) | exact HB.out)) hb); clear BK463 HB; have BK463 := n0_; have HB := n1_; clear n0_ n1_; (try clear hb); (try clear hb2); (try clear hk); (try clear hi); have hcz8_0 : w7.cell? ⟨gb463, 0, none⟩ = some (.slice A0_0 l0_0.length c0_0) := (bc_ BK463.out 0).trans rfl; have hcz8_1 : w7.cell? ⟨gb463, 1, none⟩ = some (.slice A0_1 l0_1.length c0_1) := (bc_ BK463.out 1).trans rfl; have hcz8_2 : w7.cell? ⟨gb463, 2, none⟩ = some (.slice A0_2 l0_2.length c0_2) := (bc_ BK463.out 2).trans rfl; have hcz8_3 : w7.cell? ⟨gb463, 3, none⟩ = some (.slice A0_3 l0_3.length c0_3) := (bc_ BK463.out 3).trans rfl; have hfz8_0 := bf_ BK463.out 0; have hfz8_1 := bf_ BK463.out 1; have hfz8_2 := bf_ BK463.out 2; have hfz8_3 := bf_ BK463.out 3) | ((with_reducible refine gc_ (f := 20) rfl ?_); refine goesL_ (some 12) rfl rfl Try.func20 (by kernel_rfl) rfl #[.slice A0_0 l0_0.length c0_0] rfl (by (try simp only [List.map_toArray, List.map_cons, List.map_nil]); first | done | rfl) ?_; (with_reducible refine (impl_PassersOf.calls k _ _ l0_0 t465 _ ?side1 ?side2 A4.out).mono ?_); (case side1 => exact cY ((Kd.C_below HR0_0.out HB.out))); (case side2 => exact HC0_0.out); rintro e w9 ⟨v466, rfl, ho0, hb⟩; refine ⟨_, rfl, ?_⟩; have n0_ := Aside0.mk (Kd.R_lower ho0 (bz_ (by repeat (first | (with_reducible first | exact HB.out | apply ba_ | apply bd_ | apply be_ | refine bs_ ?_ GE463.out) | exact HB.out)))); have n1_ := Aside0.mk (bb_ (bY BK463.out) hb); have n2_ := Aside0.mk (bt_ (by repeat (first | (with_reducible first | exact HB.out | apply ba_ | apply bd_ | apply be_ | refine bs_ ?_ GE463.out) | exact HB.out)) hb); clear BK463 HB; have HO467 := n0_; have BK463 := n1_; have HB := n2_; clear n0_ n1_ n2_; (try clear hb); (try clear hb2); (try clear hk); (try clear hi); (try clear ho0); have hcz10_0 : w9.cell? ⟨gb463, 0, none⟩ = some (.slice A0_0 l0_0.length c0_0) := (bc_ BK463.out 0).trans rfl; have hcz10_1 : w9.cell? ⟨gb463, 1, none⟩ = some (.slice A0_1 l0_1.length c0_1) := (bc_ BK463.out 1).trans rfl; have hcz10_2 : w9.cell? ⟨gb463, 2, none⟩ = some (.slice A0_2 l0_2.length c0_2) := (bc_ BK463.out 2).trans rfl; have hcz10_3 : w9.cell? ⟨gb463, 3, none⟩ = some (.slice A0_3 l0_3.length c0_3) := (bc_ BK463.out 3).trans rfl; have hfz10_0 := bf_ BK463.out 0; have hfz10_1 := bf_ BK463.out 1; have hfz10_2 := bf_ BK463.out 2; have hfz10_3 := bf_ BK463.out 3))
 go_loopg [3, 16] k (fun kq v3 v16 w' => ∃ (x3_1 : Int) (x16_1 : Int), v3 = .int .i64 x3_1 ∧ v16 = .int .i64 x16_1 ∧ Aside0 (impl_BlockedBy.l0 kq x3_1 t465 l0_0 (l0_0.length : Int) x16_1 l0_0 l0_1 l0_2 l0_3 = some r) ∧ Aside0 (kq ≤ k) ∧ Aside0 (Kd.R (Kd.int .i64) 3 w' w.heap.size (fun _ => True) v466 t465) ∧ Aside0 (w'.heap[gb463]? = some (.cells #[(.slice A0_0 l0_0.length c0_0), (.slice A0_1 l0_1.length c0_1), (.slice A0_2 l0_2.length c0_2), (.slice A0_3 l0_3.length c0_3)] 53 (0, 0))) ∧ Aside0 (Below w.heap.size w w'))
 case atStart => exact ⟨(0), (0), (by first | rfl | (simp; done) | (simp [*]; done)), (by first | rfl | (simp; done) | (simp [*]; done)), H', ⟨Nat.le_refl _⟩, ⟨by (repeat apply rX); exact HO467.out⟩, ⟨by (repeat apply bX); exact BK463.out⟩, ⟨by repeat (first | (with_reducible first | exact HB.out | apply ba_ | apply bd_ | apply be_ | refine bs_ ?_ GE463.out) | exact HB.out)⟩⟩
 case round =>
  clear H'
  obtain ⟨x3_1, x16_1, rfl, rfl, HA, HK1, HO_4, BK463, HB⟩ := hrel
  cases gk with
  | zero => exact absurd HA.out (by simp [impl_BlockedBy.l0])
  | succ k1 =>
   have H := HA.out
   clear HA
   simp only [impl_BlockedBy.l0] at H
   by_cases c11 : x16_1 < (l0_0.length : Int)
   rotate_left
   ·rw [if_neg c11] at H
    have c11b0 : decide (x16_1 < (l0_0.length : Int)) = false := decide_eq_false c11
    clear c11
    obtain rfl := Option.some.inj H
    go_wp2
    go_ret
    exact ⟨by first | rfl | (simp [errW_none, errW_some] <;> rfl) | (simp [*, errW_none, errW_some] <;> rfl), by repeat (first | (with_reducible first | exact HB.out | apply ba_ | apply bd_ | apply be_ | refine bs_ ?_ GE463.out) | exact HB.out)⟩
   rw [if_pos c11] at H
   have c11b0 : decide (x16_1 < (l0_0.length : Int)) = true := decide_eq_true c11
   clear c11
   by_cases c12 : 0 ≤ x16_1
   rotate_left
   ·rw [if_neg c12] at H
    exact absurd H (by simp)
   rw [if_pos c12] at H
   have c12b0 : decide (0 ≤ x16_1) = true := decide_eq_true c12
   clear c12
   by_cases c13 : x16_1 < (l0_0.length : Int)
   rotate_left
   ·rw [if_neg c13] at H
    exact absurd H (by simp)
   rw [if_pos c13] at H
   have c13b0 : decide (x16_1 < (l0_0.length : Int)) = true := decide_eq_true c13
   clear c13
   replace H := Option.bind_eq_some_iff.mp H
   obtain ⟨t470, A140, H⟩ := H
   have A14 := Aside0.mk A140
   clear A140
   by_cases c15 : t470 = true
   rotate_left
   ·replace c15 := Bool.eq_false_iff.mpr c15
    subst c15
    have H1 : (impl_BlockedBy.l0 k1 x3_1 t465 l0_0 (l0_0.length : Int) (wrap64 (x16_1 + 1)) l0_0 l0_1 l0_2 l0_3) = some r := by rw [if_neg (show ¬ (false = true) by decide)] at H; exact H
    clear H
    have H := H1
    clear H1
    have H' := Aside0.mk H
    clear H
    have p468 : 0 ≤ (x16_1 : Int) := of_decide_eq_true (by first | (with_reducible assumption) | assumption)
    have q468 : x16_1 < (l0_0.length : Int) := of_decide_eq_true (by first | (with_reducible assumption) | assumption)
    obtain ⟨ad468, A468_7, c468_7, e468, hx468_0, hx468_1, hx468_2, hx468_3, hx468_4, hx468_5, hx468_6, hx468_7, hl468_7, hi468_7⟩ := at_T60 HR0_0.out x16_1 p468 q468
    cases e468
    replace hx468_0 := (HB.out.cell (World.block_lt_of_cell? w _ hx468_0)).trans hx468_0
    replace hx468_1 := (HB.out.cell (World.block_lt_of_cell? w _ hx468_1)).trans hx468_1
    replace hx468_2 := (HB.out.cell (World.block_lt_of_cell? w _ hx468_2)).trans hx468_2
    replace hx468_3 := (HB.out.cell (World.block_lt_of_cell? w _ hx468_3)).trans hx468_3
    replace hx468_4 := (HB.out.cell (World.block_lt_of_cell? w _ hx468_4)).trans hx468_4
    replace hx468_5 := (HB.out.cell (World.block_lt_of_cell? w _ hx468_5)).trans hx468_5
    replace hx468_6 := (HB.out.cell (World.block_lt_of_cell? w _ hx468_6)).trans hx468_6
    replace hx468_7 := (HB.out.cell (World.block_lt_of_cell? w _ hx468_7)).trans hx468_7
    have HR468_7 := Aside0.mk hi468_7
    have HC468_7 := Aside0.mk hl468_7
    clear hi468_7 hl468_7
    replace p468 := eq_true p468
    replace q468 := eq_true q468
    go_wp2_with (first | ((with_reducible refine gd_ (N := 6) rfl ?_); refine bx_ ?hg (N := 6) ?hd (cs := #[.int .i64 0, .int .i64 0, .int .i64 0, .int .i64 0, .int .i64 0, .int .i64 0, .int .i64 0, .slice none 0 0]) (t := 60) ?hr ?_; (case hd => rfl); (case hg => rfl); (case hr => first | (go_simp; done) | (go_simp; rfl)); intro gb469 hg w30 hbox hb; have n0_ := Aside0.mk (Kd.R_below (rY HO_4.out) hb); have n1_ := Aside0.mk (bb_ (bY BK463.out) hb); have n2_ := Aside0.mk (bt_ (by repeat (first | (with_reducible first | exact HB.out | apply ba_ | apply bd_ | apply be_ | refine bs_ ?_ GE463.out) | exact HB.out)) hb); have n3_ := Aside0.mk (hbox); have n4_ := Aside0.mk ((by rw [hg]; exact (bz_ (by repeat (first | (with_reducible first | exact HB.out | apply ba_ | apply bd_ | apply be_ | refine bs_ ?_ GE463.out) | exact HB.out))) : w.heap.size ≤ gb469)); have n5_ := Aside0.mk ((by rw [hg]; exact (bz_ (by repeat (first | (with_reducible first | exact HB.out | apply ba_ | apply bd_ | apply be_ | refine bs_ ?_ GE463.out) | exact HB.out))) : w.heap.size ≤ gb469)); have n6_ := Aside0.mk ((by rw [hg]; exact Nat.ne_of_lt (blk_lt (bY BK463.out)) : gb463 ≠ gb469)); have n7_ := Aside0.mk ((by rw [hg]; exact Nat.ne_of_gt (blk_lt (bY BK463.out)) : gb469 ≠ gb463)); clear HO_4 BK463 HB; have HO_4 := n0_; have BK463 := n1_; have HB := n2_; have BK469 := n3_; have GW469 := n4_; have GE469 := n5_; have NB463_469 := n6_; have NB469_463 := n7_; clear n0_ n1_ n2_ n3_ n4_ n5_ n6_ n7_ hb hbox hg; have hnb31 := NB469_463.out; have hnc31 := NB463_469.out; have hcz32_0 : w30.cell? ⟨gb469, 0, none⟩ = some (.int .i64 0) := (bc_ BK469.out 0).trans rfl; have hcz32_1 : w30.cell? ⟨gb469, 1, none⟩ = some (.int .i64 0) := (bc_ BK469.out 1).trans rfl; have hcz32_2 : w30.cell? ⟨gb469, 2, none⟩ = some (.int .i64 0) := (bc_ BK469.out 2).trans rfl; have hcz32_3 : w30.cell? ⟨gb469, 3, none⟩ = some (.int .i64 0) := (bc_ BK469.out 3).trans rfl; have hcz32_4 : w30.cell? ⟨gb469, 4, none⟩ = some (.int .i64 0) := (bc_ BK469.out 4).trans rfl; have hcz32_5 : w30.cell? ⟨gb469, 5, none⟩ = some (.int .i64 0) := (bc_ BK469.out 5).trans rfl; have hcz32_6 : w30.cell? ⟨gb469, 6, none⟩ = some (.int .i64 0) := (bc_ BK469.out 6).trans rfl; have hcz32_7 : w30.cell? ⟨gb469, 7, none⟩ = some (.slice none 0 0) := (bc_ BK469.out 7).trans rfl; have hfz32_0 := bf_ BK469.out 0; have hfz32_1 := bf_ BK469.out 1; have hfz32_2 := bf_ BK469.out 2; have hfz32_3 := bf_ BK469.out 3; have hfz32_4 := bf_ BK469.out 4; have hfz32_5 := bf_ BK469.out 5; have hfz32_6 := bf_ BK469.out 6; have hfz32_7 := bf_ BK469.out 7; have hcz33_0 : w30.cell? ⟨gb463, 0, none⟩ = some (.slice (some ad468) l0_0.length c0_0) := (bc_ BK463.out 0).trans rfl; have hcz33_1 : w30.cell? ⟨gb463, 1, none⟩ = some (.slice A0_1 l0_1.length c0_1) := (bc_ BK463.out 1).trans rfl; have hcz33_2 : w30.cell? ⟨gb463, 2, none⟩ = some (.slice A0_2 l0_2.length c0_2) := (bc_ BK463.out 2).trans rfl; have hcz33_3 : w30.cell? ⟨gb463, 3, none⟩ = some (.slice A0_3 l0_3.length c0_3) := (bc_ BK463.out 3).trans rfl; have hfz33_0 := bf_ BK463.out 0; have hfz33_1 := bf_ BK463.out 1; have hfz33_2 := bf_ BK463.out 2; have hfz33_3 := bf_ BK463.out 3) | ((with_reducible refine gc_ (f := 64) rfl ?_); refine goesL_ (some 24) rfl rfl Try.func64 (by kernel_rfl) rfl #[.agg #[.slice A0_1 l0_1.length c0_1, .slice A0_2 l0_2.length c0_2], .agg #[.int .i64 ((rd_T60 l0_0 x16_1).f0), .int .i64 ((rd_T60 l0_0 x16_1).f1), .int .i64 ((rd_T60 l0_0 x16_1).f2), .int .i64 ((rd_T60 l0_0 x16_1).f3), .int .i64 ((rd_T60 l0_0 x16_1).f4), .int .i64 ((rd_T60 l0_0 x16_1).f5), .int .i64 ((rd_T60 l0_0 x16_1).f6), .slice A468_7 ((rd_T60 l0_0 x16_1).f7).length c468_7]] rfl (by (try simp only [List.map_toArray, List.map_cons, List.map_nil]); first | done | rfl) ?_; (with_reducible refine (impl_CanSend.calls k1 _ _ l0_1 _ _ l0_2 ((rd_T60 l0_0 x16_1).f0) ((rd_T60 l0_0 x16_1).f1) ((rd_T60 l0_0 x16_1).f2) ((rd_T60 l0_0 x16_1).f3) ((rd_T60 l0_0 x16_1).f4) ((rd_T60 l0_0 x16_1).f5) ((rd_T60 l0_0 x16_1).f6) _ _ ((rd_T60 l0_0 x16_1).f7) false _ ?side1 ?side2 ?side3 ?side4 ?side5 ?side6 A14.out).mono ?_); (case side1 => exact Kd.C_below HR0_1.out (by repeat (first | (with_reducible first | exact HB.out | apply ba_ | apply bd_ | apply be_ | refine bs_ ?_ GE463.out | refine bs_ ?_ GE469.out) | exact HB.out))); (case side2 => exact HC0_1.out); (case side3 => exact Kd.C_below HR0_2.out (by repeat (first | (with_reducible first | exact HB.out | apply ba_ | apply bd_ | apply be_ | refine bs_ ?_ GE463.out | refine bs_ ?_ GE469.out) | exact HB.out))); (case side4 => exact HC0_2.out); (case side5 => exact Kd.C_below HR468_7.out (by repeat (first | (with_reducible first | exact HB.out | apply ba_ | apply bd_ | apply be_ | refine bs_ ?_ GE463.out | refine bs_ ?_ GE469.out) | exact HB.out))); (case side6 => exact HC468_7.out); rintro e w34 ⟨rfl, hb⟩; refine ⟨_, rfl, ?_⟩; have n0_ := Aside0.mk (Kd.R_below (by (repeat apply rX); exact (Kd.R_mono (Kd.R_far (p := ⟨gb469, 7, none⟩) (Kd.R_far (p := ⟨gb469, 6, none⟩) (Kd.R_far (p := ⟨gb469, 5, none⟩) (Kd.R_far (p := ⟨gb469, 4, none⟩) (Kd.R_far (p := ⟨gb469, 3, none⟩) (Kd.R_far (p := ⟨gb469, 2, none⟩) (Kd.R_far (p := ⟨gb469, 1, none⟩) (Kd.R_far (p := ⟨gb469, 0, none⟩) (Kd.R_types HO_4.out BK469.out (by decide)) (fun _ hk => hk.2) (.int .i64 ((rd_T60 l0_0 x16_1).f0))) (fun _ hk => hk.2) (.int .i64 ((rd_T60 l0_0 x16_1).f1))) (fun _ hk => hk.2) (.int .i64 ((rd_T60 l0_0 x16_1).f2))) (fun _ hk => hk.2) (.int .i64 ((rd_T60 l0_0 x16_1).f3))) (fun _ hk => hk.2) (.int .i64 ((rd_T60 l0_0 x16_1).f4))) (fun _ hk => hk.2) (.int .i64 ((rd_T60 l0_0 x16_1).f5))) (fun _ hk => hk.2) (.int .i64 ((rd_T60 l0_0 x16_1).f6))) (fun _ hk => hk.2) (.slice A468_7 ((rd_T60 l0_0 x16_1).f7).length c468_7)) (fun _ h_ => h_.1))) hb); have n1_ := Aside0.mk (bb_ (g := gb463) (o := .cells #[.slice (some ad468) l0_0.length c0_0, .slice A0_1 l0_1.length c0_1, .slice A0_2 l0_2.length c0_2, .slice A0_3 l0_3.length c0_3] 53 (0, 0)) (by (repeat apply bX); refine blk_far ?_ NB463_469.out _; (repeat apply bX); refine blk_far ?_ NB463_469.out _; (repeat apply bX); refine blk_far ?_ NB463_469.out _; (repeat apply bX); refine blk_far ?_ NB463_469.out _; (repeat apply bX); refine blk_far ?_ NB463_469.out _; (repeat apply bX); refine blk_far ?_ NB463_469.out _; (repeat apply bX); refine blk_far ?_ NB463_469.out _; (repeat apply bX); refine blk_far ?_ NB463_469.out _; (repeat apply bX); exact BK463.out) hb); have n2_ := Aside0.mk (bb_ (g := gb469) (o := .cells #[.int .i64 ((rd_T60 l0_0 x16_1).f0), .int .i64 ((rd_T60 l0_0 x16_1).f1), .int .i64 ((rd_T60 l0_0 x16_1).f2), .int .i64 ((rd_T60 l0_0 x16_1).f3), .int .i64 ((rd_T60 l0_0 x16_1).f4), .int .i64 ((rd_T60 l0_0 x16_1).f5), .int .i64 ((rd_T60 l0_0 x16_1).f6), .slice A468_7 ((rd_T60 l0_0 x16_1).f7).length c468_7] 60 (0, 0)) (by (repeat apply bX); refine bp_ (cs := #[.int .i64 ((rd_T60 l0_0 x16_1).f0), .int .i64 ((rd_T60 l0_0 x16_1).f1), .int .i64 ((rd_T60 l0_0 x16_1).f2), .int .i64 ((rd_T60 l0_0 x16_1).f3), .int .i64 ((rd_T60 l0_0 x16_1).f4), .int .i64 ((rd_T60 l0_0 x16_1).f5), .int .i64 ((rd_T60 l0_0 x16_1).f6), .slice none 0 0]) ?_ 7 _ rfl; (repeat apply bX); refine bp_ (cs := #[.int .i64 ((rd_T60 l0_0 x16_1).f0), .int .i64 ((rd_T60 l0_0 x16_1).f1), .int .i64 ((rd_T60 l0_0 x16_1).f2), .int .i64 ((rd_T60 l0_0 x16_1).f3), .int .i64 ((rd_T60 l0_0 x16_1).f4), .int .i64 ((rd_T60 l0_0 x16_1).f5), .int .i64 0, .slice none 0 0]) ?_ 6 _ rfl; (repeat apply bX); refine bp_ (cs := #[.int .i64 ((rd_T60 l0_0 x16_1).f0), .int .i64 ((rd_T60 l0_0 x16_1).f1), .int .i64 ((rd_T60 l0_0 x16_1).f2), .int .i64 ((rd_T60 l0_0 x16_1).f3), .int .i64 ((rd_T60 l0_0 x16_1).f4), .int .i64 0, .int .i64 0, .slice none 0 0]) ?_ 5 _ rfl; (repeat apply bX); refine bp_ (cs := #[.int .i64 ((rd_T60 l0_0 x16_1).f0), .int .i64 ((rd_T60 l0_0 x16_1).f1), .int .i64 ((rd_T60 l0_0 x16_1).f2), .int .i64 ((rd_T60 l0_0 x16_1).f3), .int .i64 0, .int .i64 0, .int .i64 0, .slice none 0 0]) ?_ 4 _ rfl; (repeat apply bX); refine bp_ (cs := #[.int .i64 ((rd_T60 l0_0 x16_1).f0), .int .i64 ((rd_T60 l0_0 x16_1).f1), .int .i64 ((rd_T60 l0_0 x16_1).f2), .int .i64 0, .int .i64 0, .int .i64 0, .int .i64 0, .slice none 0 0]) ?_ 3 _ rfl; (repeat apply bX); refine bp_ (cs := #[.int .i64 ((rd_T60 l0_0 x16_1).f0), .int .i64 ((rd_T60 l0_0 x16_1).f1), .int .i64 0, .int .i64 0, .int .i64 0, .int .i64 0, .int .i64 0, .slice none 0 0]) ?_ 2 _ rfl; (repeat apply bX); refine bp_ (cs := #[.int .i64 ((rd_T60 l0_0 x16_1).f0), .int .i64 0, .int .i64 0, .int .i64 0, .int .i64 0, .int .i64 0, .int .i64 0, .slice none 0 0]) ?_ 1 _ rfl; (repeat apply bX); refine bp_ (cs := #[.int .i64 0, .int .i64 0, .int .i64 0, .int .i64 0, .int .i64 0, .int .i64 0, .int .i64 0, .slice none 0 0]) ?_ 0 _ rfl; (repeat apply bX); exact BK469.out) hb); have n3_ := Aside0.mk (bt_ (by repeat (first | (with_reducible first | exact HB.out | apply ba_ | apply bd_ | apply be_ | refine bs_ ?_ GE463.out | refine bs_ ?_ GE469.out) | exact HB.out)) hb); clear HO_4 BK463 BK469 HB; have HO_4 := n0_; have BK463 := n1_; have BK469 := n2_; have HB := n3_; clear n0_ n1_ n2_ n3_; (try clear hb); (try clear hb2); (try clear hk); (try clear hi)))
    go_roundg k1
    case measure => have := HK1.out; omega
    case rel => exact ⟨(x3_1), (wrap64 (x16_1 + 1)), (by first | rfl | (simp; done) | (simp [*]; done)), (by first | rfl | (simp; done) | (simp [*]; done)), H', ⟨by have := HK1.out; omega⟩, ⟨by (repeat apply rX); exact HO_4.out⟩, ⟨by (repeat apply bX); exact BK463.out⟩, ⟨by repeat (first | (with_reducible first | exact HB.out | apply ba_ | apply bd_ | apply be_ | refine bs_ ?_ GE463.out | refine bs_ ?_ GE469.out) | exact HB.out)⟩⟩
   subst c15
   have H1 : ((slices_Contains_int_int.f k1 t465 x16_1).bind fun t471 => (if t471 = true then (impl_BlockedBy.l0 k1 x3_1 t465 l0_0 (l0_0.length : Int) (wrap64 (x16_1 + 1)) l0_0 l0_1 l0_2 l0_3) else (impl_BlockedBy.l0 k1 (wrap64 (x3_1 + 1)) t465 l0_0 (l0_0.length : Int) (wrap64 (x16_1 + 1)) l0_0 l0_1 l0_2 l0_3))) = some r := by rw [if_pos rfl] at H; exact H
   clear H
   have H := H1
   clear H1
   replace H := Option.bind_eq_some_iff.mp H
   obtain ⟨t471, A160, H⟩ := H
   have A16 := Aside0.mk A160
   clear A160
   by_cases c17 : t471 = true
   ·subst c17
    have H1 : (impl_BlockedBy.l0 k1 x3_1 t465 l0_0 (l0_0.length : Int) (wrap64 (x16_1 + 1)) l0_0 l0_1 l0_2 l0_3) = some r := by rw [if_pos rfl] at H; exact H
    clear H
    have H := H1
    clear H1
    have H' := Aside0.mk H
    clear H
    have p468 : 0 ≤ (x16_1 : Int) := of_decide_eq_true (by first | (with_reducible assumption) | assumption)
    have q468 : x16_1 < (l0_0.length : Int) := of_decide_eq_true (by first | (with_reducible assumption) | assumption)
    obtain ⟨ad468, A468_7, c468_7, e468, hx468_0, hx468_1, hx468_2, hx468_3, hx468_4, hx468_5, hx468_6, hx468_7, hl468_7, hi468_7⟩ := at_T60 HR0_0.out x16_1 p468 q468
    cases e468
    replace hx468_0 := (HB.out.cell (World.block_lt_of_cell? w _ hx468_0)).trans hx468_0
    replace hx468_1 := (HB.out.cell (World.block_lt_of_cell? w _ hx468_1)).trans hx468_1
    replace hx468_2 := (HB.out.cell (World.block_lt_of_cell? w _ hx468_2)).trans hx468_2
    replace hx468_3 := (HB.out.cell (World.block_lt_of_cell? w _ hx468_3)).trans hx468_3
    replace hx468_4 := (HB.out.cell (World.block_lt_of_cell? w _ hx468_4)).trans hx468_4
    replace hx468_5 := (HB.out.cell (World.block_lt_of_cell? w _ hx468_5)).trans hx468_5
    replace hx468_6 := (HB.out.cell (World.block_lt_of_cell? w _ hx468_6)).trans hx468_6
    replace hx468_7 := (HB.out.cell (World.block_lt_of_cell? w _ hx468_7)).trans hx468_7
    have HR468_7 := Aside0.mk hi468_7
    have HC468_7 := Aside0.mk hl468_7
    clear hi468_7 hl468_7
    replace p468 := eq_true p468
    replace q468 := eq_true q468
    go_wp2_with (first | ((with_reducible refine gd_ (N := 6) rfl ?_); refine bx_ ?hg (N := 6) ?hd (cs := #[.int .i64 0, .int .i64 0, .int .i64 0, .int .i64 0, .int .i64 0, .int .i64 0, .int .i64 0, .slice none 0 0]) (t := 60) ?hr ?_; (case hd => rfl); (case hg => rfl); (case hr => first | (go_simp; done) | (go_simp; rfl)); intro gb469 hg w18 hbox hb; have n0_ := Aside0.mk (Kd.R_below (rY HO_4.out) hb); have n1_ := Aside0.mk (bb_ (bY BK463.out) hb); have n2_ := Aside0.mk (bt_ (by repeat (first | (with_reducible first | exact HB.out | apply ba_ | apply bd_ | apply be_ | refine bs_ ?_ GE463.out) | exact HB.out)) hb); have n3_ := Aside0.mk (hbox); have n4_ := Aside0.mk ((by rw [hg]; exact (bz_ (by repeat (first | (with_reducible first | exact HB.out | apply ba_ | apply bd_ | apply be_ | refine bs_ ?_ GE463.out) | exact HB.out))) : w.heap.size ≤ gb469)); have n5_ := Aside0.mk ((by rw [hg]; exact (bz_ (by repeat (first | (with_reducible first | exact HB.out | apply ba_ | apply bd_ | apply be_ | refine bs_ ?_ GE463.out) | exact HB.out))) : w.heap.size ≤ gb469)); have n6_ := Aside0.mk ((by rw [hg]; exact Nat.ne_of_lt (blk_lt (bY BK463.out)) : gb463 ≠ gb469)); have n7_ := Aside0.mk ((by rw [hg]; exact Nat.ne_of_gt (blk_lt (bY BK463.out)) : gb469 ≠ gb463)); clear HO_4 BK463 HB; have HO_4 := n0_; have BK463 := n1_; have HB := n2_; have BK469 := n3_; have GW469 := n4_; have GE469 := n5_; have NB463_469 := n6_; have NB469_463 := n7_; clear n0_ n1_ n2_ n3_ n4_ n5_ n6_ n7_ hb hbox hg; have hnb19 := NB469_463.out; have hnc19 := NB463_469.out; have hcz20_0 : w18.cell? ⟨gb469, 0, none⟩ = some (.int .i64 0) := (bc_ BK469.out 0).trans rfl; have hcz20_1 : w18.cell? ⟨gb469, 1, none⟩ = some (.int .i64 0) := (bc_ BK469.out 1).trans rfl; have hcz20_2 : w18.cell? ⟨gb469, 2, none⟩ = some (.int .i64 0) := (bc_ BK469.out 2).trans rfl; have hcz20_3 : w18.cell? ⟨gb469, 3, none⟩ = some (.int .i64 0) := (bc_ BK469.out 3).trans rfl; have hcz20_4 : w18.cell? ⟨gb469, 4, none⟩ = some (.int .i64 0) := (bc_ BK469.out 4).trans rfl; have hcz20_5 : w18.cell? ⟨gb469, 5, none⟩ = some (.int .i64 0) := (bc_ BK469.out 5).trans rfl; have hcz20_6 : w18.cell? ⟨gb469, 6, none⟩ = some (.int .i64 0) := (bc_ BK469.out 6).trans rfl; have hcz20_7 : w18.cell? ⟨gb469, 7, none⟩ = some (.slice none 0 0) := (bc_ BK469.out 7).trans rfl; have hfz20_0 := bf_ BK469.out 0; have hfz20_1 := bf_ BK469.out 1; have hfz20_2 := bf_ BK469.out 2; have hfz20_3 := bf_ BK469.out 3; have hfz20_4 := bf_ BK469.out 4; have hfz20_5 := bf_ BK469.out 5; have hfz20_6 := bf_ BK469.out 6; have hfz20_7 := bf_ BK469.out 7; have hcz21_0 : w18.cell? ⟨gb463, 0, none⟩ = some (.slice (some ad468) l0_0.length c0_0) := (bc_ BK463.out 0).trans rfl; have hcz21_1 : w18.cell? ⟨gb463, 1, none⟩ = some (.slice A0_1 l0_1.length c0_1) := (bc_ BK463.out 1).trans rfl; have hcz21_2 : w18.cell? ⟨gb463, 2, none⟩ = some (.slice A0_2 l0_2.length c0_2) := (bc_ BK463.out 2).trans rfl; have hcz21_3 : w18.cell? ⟨gb463, 3, none⟩ = some (.slice A0_3 l0_3.length c0_3) := (bc_ BK463.out 3).trans rfl; have hfz21_0 := bf_ BK463.out 0; have hfz21_1 := bf_ BK463.out 1; have hfz21_2 := bf_ BK463.out 2; have hfz21_3 := bf_ BK463.out 3) | ((with_reducible refine gc_ (f := 64) rfl ?_); refine goesL_ (some 24) rfl rfl Try.func64 (by kernel_rfl) rfl #[.agg #[.slice A0_1 l0_1.length c0_1, .slice A0_2 l0_2.length c0_2], .agg #[.int .i64 ((rd_T60 l0_0 x16_1).f0), .int .i64 ((rd_T60 l0_0 x16_1).f1), .int .i64 ((rd_T60 l0_0 x16_1).f2), .int .i64 ((rd_T60 l0_0 x16_1).f3), .int .i64 ((rd_T60 l0_0 x16_1).f4), .int .i64 ((rd_T60 l0_0 x16_1).f5), .int .i64 ((rd_T60 l0_0 x16_1).f6), .slice A468_7 ((rd_T60 l0_0 x16_1).f7).length c468_7]] rfl (by (try simp only [List.map_toArray, List.map_cons, List.map_nil]); first | done | rfl) ?_; (with_reducible refine (impl_CanSend.calls k1 _ _ l0_1 _ _ l0_2 ((rd_T60 l0_0 x16_1).f0) ((rd_T60 l0_0 x16_1).f1) ((rd_T60 l0_0 x16_1).f2) ((rd_T60 l0_0 x16_1).f3) ((rd_T60 l0_0 x16_1).f4) ((rd_T60 l0_0 x16_1).f5) ((rd_T60 l0_0 x16_1).f6) _ _ ((rd_T60 l0_0 x16_1).f7) true _ ?side1 ?side2 ?side3 ?side4 ?side5 ?side6 A14.out).mono ?_); (case side1 => exact Kd.C_below HR0_1.out (by repeat (first | (with_reducible first | exact HB.out | apply ba_ | apply bd_ | apply be_ | refine bs_ ?_ GE463.out | refine bs_ ?_ GE469.out) | exact HB.out))); (case side2 => exact HC0_1.out); (case side3 => exact Kd.C_below HR0_2.out (by repeat (first | (with_reducible first | exact HB.out | apply ba_ | apply bd_ | apply be_ | refine bs_ ?_ GE463.out | refine bs_ ?_ GE469.out) | exact HB.out))); (case side4 => exact HC0_2.out); (case side5 => exact Kd.C_below HR468_7.out (by repeat (first | (with_reducible first | exact HB.out | apply ba_ | apply bd_ | apply be_ | refine bs_ ?_ GE463.out | refine bs_ ?_ GE469.out) | exact HB.out))); (case side6 => exact HC468_7.out); rintro e w22 ⟨rfl, hb⟩; refine ⟨_, rfl, ?_⟩; have n0_ := Aside0.mk (Kd.R_below (by (repeat apply rX); exact (Kd.R_mono (Kd.R_far (p := ⟨gb469, 7, none⟩) (Kd.R_far (p := ⟨gb469, 6, none⟩) (Kd.R_far (p := ⟨gb469, 5, none⟩) (Kd.R_far (p := ⟨gb469, 4, none⟩) (Kd.R_far (p := ⟨gb469, 3, none⟩) (Kd.R_far (p := ⟨gb469, 2, none⟩) (Kd.R_far (p := ⟨gb469, 1, none⟩) (Kd.R_far (p := ⟨gb469, 0, none⟩) (Kd.R_types HO_4.out BK469.out (by decide)) (fun _ hk => hk.2) (.int .i64 ((rd_T60 l0_0 x16_1).f0))) (fun _ hk => hk.2) (.int .i64 ((rd_T60 l0_0 x16_1).f1))) (fun _ hk => hk.2) (.int .i64 ((rd_T60 l0_0 x16_1).f2))) (fun _ hk => hk.2) (.int .i64 ((rd_T60 l0_0 x16_1).f3))) (fun _ hk => hk.2) (.int .i64 ((rd_T60 l0_0 x16_1).f4))) (fun _ hk => hk.2) (.int .i64 ((rd_T60 l0_0 x16_1).f5))) (fun _ hk => hk.2) (.int .i64 ((rd_T60 l0_0 x16_1).f6))) (fun _ hk => hk.2) (.slice A468_7 ((rd_T60 l0_0 x16_1).f7).length c468_7)) (fun _ h_ => h_.1))) hb); have n1_ := Aside0.mk (bb_ (g := gb463) (o := .cells #[.slice (some ad468) l0_0.length c0_0, .slice A0_1 l0_1.length c0_1, .slice A0_2 l0_2.length c0_2, .slice A0_3 l0_3.length c0_3] 53 (0, 0)) (by (repeat apply bX); refine blk_far ?_ NB463_469.out _; (repeat apply bX); refine blk_far ?_ NB463_469.out _; (repeat apply bX); refine blk_far ?_ NB463_469.out _; (repeat apply bX); refine blk_far ?_ NB463_469.out _; (repeat apply bX); refine blk_far ?_ NB463_469.out _; (repeat apply bX); refine blk_far ?_ NB463_469.out _; (repeat apply bX); refine blk_far ?_ NB463_469.out _; (repeat apply bX); refine blk_far ?_ NB463_469.out _; (repeat apply bX); exact BK463.out) hb); have n2_ := Aside0.mk (bb_ (g := gb469) (o := .cells #[.int .i64 ((rd_T60 l0_0 x16_1).f0), .int .i64 ((rd_T60 l0_0 x16_1).f1), .int .i64 ((rd_T60 l0_0 x16_1).f2), .int .i64 ((rd_T60 l0_0 x16_1).f3), .int .i64 ((rd_T60 l0_0 x16_1).f4), .int .i64 ((rd_T60 l0_0 x16_1).f5), .int .i64 ((rd_T60 l0_0 x16_1).f6), .slice A468_7 ((rd_T60 l0_0 x16_1).f7).length c468_7] 60 (0, 0)) (by (repeat apply bX); refine bp_ (cs := #[.int .i64 ((rd_T60 l0_0 x16_1).f0), .int .i64 ((rd_T60 l0_0 x16_1).f1), .int .i64 ((rd_T60 l0_0 x16_1).f2), .int .i64 ((rd_T60 l0_0 x16_1).f3), .int .i64 ((rd_T60 l0_0 x16_1).f4), .int .i64 ((rd_T60 l0_0 x16_1).f5), .int .i64 ((rd_T60 l0_0 x16_1).f6), .slice none 0 0]) ?_ 7 _ rfl; (repeat apply bX); refine bp_ (cs := #[.int .i64 ((rd_T60 l0_0 x16_1).f0), .int .i64 ((rd_T60 l0_0 x16_1).f1), .int .i64 ((rd_T60 l0_0 x16_1).f2), .int .i64 ((rd_T60 l0_0 x16_1).f3), .int .i64 ((rd_T60 l0_0 x16_1).f4), .int .i64 ((rd_T60 l0_0 x16_1).f5), .int .i64 0, .slice none 0 0]) ?_ 6 _ rfl; (repeat apply bX); refine bp_ (cs := #[.int .i64 ((rd_T60 l0_0 x16_1).f0), .int .i64 ((rd_T60 l0_0 x16_1).f1), .int .i64 ((rd_T60 l0_0 x16_1).f2), .int .i64 ((rd_T60 l0_0 x16_1).f3), .int .i64 ((rd_T60 l0_0 x16_1).f4), .int .i64 0, .int .i64 0, .slice none 0 0]) ?_ 5 _ rfl; (repeat apply bX); refine bp_ (cs := #[.int .i64 ((rd_T60 l0_0 x16_1).f0), .int .i64 ((rd_T60 l0_0 x16_1).f1), .int .i64 ((rd_T60 l0_0 x16_1).f2), .int .i64 ((rd_T60 l0_0 x16_1).f3), .int .i64 0, .int .i64 0, .int .i64 0, .slice none 0 0]) ?_ 4 _ rfl; (repeat apply bX); refine bp_ (cs := #[.int .i64 ((rd_T60 l0_0 x16_1).f0), .int .i64 ((rd_T60 l0_0 x16_1).f1), .int .i64 ((rd_T60 l0_0 x16_1).f2), .int .i64 0, .int .i64 0, .int .i64 0, .int .i64 0, .slice none 0 0]) ?_ 3 _ rfl; (repeat apply bX); refine bp_ (cs := #[.int .i64 ((rd_T60 l0_0 x16_1).f0), .int .i64 ((rd_T60 l0_0 x16_1).f1), .int .i64 0, .int .i64 0, .int .i64 0, .int .i64 0, .int .i64 0, .slice none 0 0]) ?_ 2 _ rfl; (repeat apply bX); refine bp_ (cs := #[.int .i64 ((rd_T60 l0_0 x16_1).f0), .int .i64 0, .int .i64 0, .int .i64 0, .int .i64 0, .int .i64 0, .int .i64 0, .slice none 0 0]) ?_ 1 _ rfl; (repeat apply bX); refine bp_ (cs := #[.int .i64 0, .int .i64 0, .int .i64 0, .int .i64 0, .int .i64 0, .int .i64 0, .int .i64 0, .slice none 0 0]) ?_ 0 _ rfl; (repeat apply bX); exact BK469.out) hb); have n3_ := Aside0.mk (bt_ (by repeat (first | (with_reducible first | exact HB.out | apply ba_ | apply bd_ | apply be_ | refine bs_ ?_ GE463.out | refine bs_ ?_ GE469.out) | exact HB.out)) hb); clear HO_4 BK463 BK469 HB; have HO_4 := n0_; have BK463 := n1_; have BK469 := n2_; have HB := n3_; clear n0_ n1_ n2_ n3_; (try clear hb); (try clear hb2); (try clear hk); (try clear hi); obtain ⟨Ao23, co23, eo23⟩ := Kd.R_slice HO_4.out; subst eo23) | (go_at_call 56; (with_reducible refine (slices_Contains_int_int.calls k1 _ _ t465 x16_1 true _ ?side1 ?side2 A16.out).mono ?_); (case side1 => exact cY ((Kd.R_reads' HO_4.out).2.2)); (case side2 => exact (Kd.R_reads' HO_4.out).2.1); rintro e w' ⟨rfl, ⟨nd, rfl⟩⟩))
    go_roundg k1
    case measure => have := HK1.out; omega
    case rel => exact ⟨(x3_1), (wrap64 (x16_1 + 1)), (by first | rfl | (simp; done) | (simp [*]; done)), (by first | rfl | (simp; done) | (simp [*]; done)), H', ⟨by have := HK1.out; omega⟩, ⟨by (repeat apply rX); exact HO_4.out⟩, ⟨by (repeat apply bX); exact BK463.out⟩, ⟨by repeat (first | (with_reducible first | exact HB.out | apply ba_ | apply bd_ | apply be_ | refine bs_ ?_ GE463.out | refine bs_ ?_ GE469.out) | exact HB.out)⟩⟩
   replace c17 := Bool.eq_false_iff.mpr c17
   subst c17
   have H1 : (impl_BlockedBy.l0 k1 (wrap64 (x3_1 + 1)) t465 l0_0 (l0_0.length : Int) (wrap64 (x16_1 + 1)) l0_0 l0_1 l0_2 l0_3) = some r := by rw [if_neg (show ¬ (false = true) by decide)] at H; exact H
   clear H
   have H := H1
   clear H1
   have H' := Aside0.mk H
   clear H
   have p468 : 0 ≤ (x16_1 : Int) := of_decide_eq_true (by first | (with_reducible assumption) | assumption)
   have q468 : x16_1 < (l0_0.length : Int) := of_decide_eq_true (by first | (with_reducible assumption) | assumption)
   obtain ⟨ad468, A468_7, c468_7, e468, hx468_0, hx468_1, hx468_2, hx468_3, hx468_4, hx468_5, hx468_6, hx468_7, hl468_7, hi468_7⟩ := at_T60 HR0_0.out x16_1 p468 q468
   cases e468
   replace hx468_0 := (HB.out.cell (World.block_lt_of_cell? w _ hx468_0)).trans hx468_0
   replace hx468_1 := (HB.out.cell (World.block_lt_of_cell? w _ hx468_1)).trans hx468_1
   replace hx468_2 := (HB.out.cell (World.block_lt_of_cell? w _ hx468_2)).trans hx468_2
   replace hx468_3 := (HB.out.cell (World.block_lt_of_cell? w _ hx468_3)).trans hx468_3
   replace hx468_4 := (HB.out.cell (World.block_lt_of_cell? w _ hx468_4)).trans hx468_4
   replace hx468_5 := (HB.out.cell (World.block_lt_of_cell? w _ hx468_5)).trans hx468_5
   replace hx468_6 := (HB.out.cell (World.block_lt_of_cell? w _ hx468_6)).trans hx468_6
   replace hx468_7 := (HB.out.cell (World.block_lt_of_cell? w _ hx468_7)).trans hx468_7
   have HR468_7 := Aside0.mk hi468_7
   have HC468_7 := Aside0.mk hl468_7
   clear hi468_7 hl468_7
   replace p468 := eq_true p468
   replace q468 := eq_true q468
   go_wp2_with (first | ((with_reducible refine gd_ (N := 6) rfl ?_); refine bx_ ?hg (N := 6) ?hd (cs := #[.int .i64 0, .int .i64 0, .int .i64 0, .int .i64 0, .int .i64 0, .int .i64 0, .int .i64 0, .slice none 0 0]) (t := 60) ?hr ?_; (case hd => rfl); (case hg => rfl); (case hr => first | (go_simp; done) | (go_simp; rfl)); intro gb469 hg w24 hbox hb; have n0_ := Aside0.mk (Kd.R_below (rY HO_4.out) hb); have n1_ := Aside0.mk (bb_ (bY BK463.out) hb); have n2_ := Aside0.mk (bt_ (by repeat (first | (with_reducible first | exact HB.out | apply ba_ | apply bd_ | apply be_ | refine bs_ ?_ GE463.out) | exact HB.out)) hb); have n3_ := Aside0.mk (hbox); have n4_ := Aside0.mk ((by rw [hg]; exact (bz_ (by repeat (first | (with_reducible first | exact HB.out | apply ba_ | apply bd_ | apply be_ | refine bs_ ?_ GE463.out) | exact HB.out))) : w.heap.size ≤ gb469)); have n5_ := Aside0.mk ((by rw [hg]; exact (bz_ (by repeat (first | (with_reducible first | exact HB.out | apply ba_ | apply bd_ | apply be_ | refine bs_ ?_ GE463.out) | exact HB.out))) : w.heap.size ≤ gb469)); have n6_ := Aside0.mk ((by rw [hg]; exact Nat.ne_of_lt (blk_lt (bY BK463.out)) : gb463 ≠ gb469)); have n7_ := Aside0.mk ((by rw [hg]; exact Nat.ne_of_gt (blk_lt (bY BK463.out)) : gb469 ≠ gb463)); clear HO_4 BK463 HB; have HO_4 := n0_; have BK463 := n1_; have HB := n2_; have BK469 := n3_; have GW469 := n4_; have GE469 := n5_; have NB463_469 := n6_; have NB469_463 := n7_; clear n0_ n1_ n2_ n3_ n4_ n5_ n6_ n7_ hb hbox hg; have hnb25 := NB469_463.out; have hnc25 := NB463_469.out; have hcz26_0 : w24.cell? ⟨gb469, 0, none⟩ = some (.int .i64 0) := (bc_ BK469.out 0).trans rfl; have hcz26_1 : w24.cell? ⟨gb469, 1, none⟩ = some (.int .i64 0) := (bc_ BK469.out 1).trans rfl; have hcz26_2 : w24.cell? ⟨gb469, 2, none⟩ = some (.int .i64 0) := (bc_ BK469.out 2).trans rfl; have hcz26_3 : w24.cell? ⟨gb469, 3, none⟩ = some (.int .i64 0) := (bc_ BK469.out 3).trans rfl; have hcz26_4 : w24.cell? ⟨gb469, 4, none⟩ = some (.int .i64 0) := (bc_ BK469.out 4).trans rfl; have hcz26_5 : w24.cell? ⟨gb469, 5, none⟩ = some (.int .i64 0) := (bc_ BK469.out 5).trans rfl; have hcz26_6 : w24.cell? ⟨gb469, 6, none⟩ = some (.int .i64 0) := (bc_ BK469.out 6).trans rfl; have hcz26_7 : w24.cell? ⟨gb469, 7, none⟩ = some (.slice none 0 0) := (bc_ BK469.out 7).trans rfl; have hfz26_0 := bf_ BK469.out 0; have hfz26_1 := bf_ BK469.out 1; have hfz26_2 := bf_ BK469.out 2; have hfz26_3 := bf_ BK469.out 3; have hfz26_4 := bf_ BK469.out 4; have hfz26_5 := bf_ BK469.out 5; have hfz26_6 := bf_ BK469.out 6; have hfz26_7 := bf_ BK469.out 7; have hcz27_0 : w24.cell? ⟨gb463, 0, none⟩ = some (.slice (some ad468) l0_0.length c0_0) := (bc_ BK463.out 0).trans rfl; have hcz27_1 : w24.cell? ⟨gb463, 1, none⟩ = some (.slice A0_1 l0_1.length c0_1) := (bc_ BK463.out 1).trans rfl; have hcz27_2 : w24.cell? ⟨gb463, 2, none⟩ = some (.slice A0_2 l0_2.length c0_2) := (bc_ BK463.out 2).trans rfl; have hcz27_3 : w24.cell? ⟨gb463, 3, none⟩ = some (.slice A0_3 l0_3.length c0_3) := (bc_ BK463.out 3).trans rfl; have hfz27_0 := bf_ BK463.out 0; have hfz27_1 := bf_ BK463.out 1; have hfz27_2 := bf_ BK463.out 2; have hfz27_3 := bf_ BK463.out 3) | ((with_reducible refine gc_ (f := 64) rfl ?_); refine goesL_ (some 24) rfl rfl Try.func64 (by kernel_rfl) rfl #[.agg #[.slice A0_1 l0_1.length c0_1, .slice A0_2 l0_2.length c0_2], .agg #[.int .i64 ((rd_T60 l0_0 x16_1).f0), .int .i64 ((rd_T60 l0_0 x16_1).f1), .int .i64 ((rd_T60 l0_0 x16_1).f2), .int .i64 ((rd_T60 l0_0 x16_1).f3), .int .i64 ((rd_T60 l0_0 x16_1).f4), .int .i64 ((rd_T60 l0_0 x16_1).f5), .int .i64 ((rd_T60 l0_0 x16_1).f6), .slice A468_7 ((rd_T60 l0_0 x16_1).f7).length c468_7]] rfl (by (try simp only [List.map_toArray, List.map_cons, List.map_nil]); first | done | rfl) ?_; (with_reducible refine (impl_CanSend.calls k1 _ _ l0_1 _ _ l0_2 ((rd_T60 l0_0 x16_1).f0) ((rd_T60 l0_0 x16_1).f1) ((rd_T60 l0_0 x16_1).f2) ((rd_T60 l0_0 x16_1).f3) ((rd_T60 l0_0 x16_1).f4) ((rd_T60 l0_0 x16_1).f5) ((rd_T60 l0_0 x16_1).f6) _ _ ((rd_T60 l0_0 x16_1).f7) true _ ?side1 ?side2 ?side3 ?side4 ?side5 ?side6 A14.out).mono ?_); (case side1 => exact Kd.C_below HR0_1.out (by repeat (first | (with_reducible first | exact HB.out | apply ba_ | apply bd_ | apply be_ | refine bs_ ?_ GE463.out | refine bs_ ?_ GE469.out) | exact HB.out))); (case side2 => exact HC0_1.out); (case side3 => exact Kd.C_below HR0_2.out (by repeat (first | (with_reducible first | exact HB.out | apply ba_ | apply bd_ | apply be_ | refine bs_ ?_ GE463.out | refine bs_ ?_ GE469.out) | exact HB.out))); (case side4 => exact HC0_2.out); (case side5 => exact Kd.C_below HR468_7.out (by repeat (first | (with_reducible first | exact HB.out | apply ba_ | apply bd_ | apply be_ | refine bs_ ?_ GE463.out | refine bs_ ?_ GE469.out) | exact HB.out))); (case side6 => exact HC468_7.out); rintro e w28 ⟨rfl, hb⟩; refine ⟨_, rfl, ?_⟩; have n0_ := Aside0.mk (Kd.R_below (by (repeat apply rX); exact (Kd.R_mono (Kd.R_far (p := ⟨gb469, 7, none⟩) (Kd.R_far (p := ⟨gb469, 6, none⟩) (Kd.R_far (p := ⟨gb469, 5, none⟩) (Kd.R_far (p := ⟨gb469, 4, none⟩) (Kd.R_far (p := ⟨gb469, 3, none⟩) (Kd.R_far (p := ⟨gb469, 2, none⟩) (Kd.R_far (p := ⟨gb469, 1, none⟩) (Kd.R_far (p := ⟨gb469, 0, none⟩) (Kd.R_types HO_4.out BK469.out (by decide)) (fun _ hk => hk.2) (.int .i64 ((rd_T60 l0_0 x16_1).f0))) (fun _ hk => hk.2) (.int .i64 ((rd_T60 l0_0 x16_1).f1))) (fun _ hk => hk.2) (.int .i64 ((rd_T60 l0_0 x16_1).f2))) (fun _ hk => hk.2) (.int .i64 ((rd_T60 l0_0 x16_1).f3))) (fun _ hk => hk.2) (.int .i64 ((rd_T60 l0_0 x16_1).f4))) (fun _ hk => hk.2) (.int .i64 ((rd_T60 l0_0 x16_1).f5))) (fun _ hk => hk.2) (.int .i64 ((rd_T60 l0_0 x16_1).f6))) (fun _ hk => hk.2) (.slice A468_7 ((rd_T60 l0_0 x16_1).f7).length c468_7)) (fun _ h_ => h_.1))) hb); have n1_ := Aside0.mk (bb_ (g := gb463) (o := .cells #[.slice (some ad468) l0_0.length c0_0, .slice A0_1 l0_1.length c0_1, .slice A0_2 l0_2.length c0_2, .slice A0_3 l0_3.length c0_3] 53 (0, 0)) (by (repeat apply bX); refine blk_far ?_ NB463_469.out _; (repeat apply bX); refine blk_far ?_ NB463_469.out _; (repeat apply bX); refine blk_far ?_ NB463_469.out _; (repeat apply bX); refine blk_far ?_ NB463_469.out _; (repeat apply bX); refine blk_far ?_ NB463_469.out _; (repeat apply bX); refine blk_far ?_ NB463_469.out _; (repeat apply bX); refine blk_far ?_ NB463_469.out _; (repeat apply bX); refine blk_far ?_ NB463_469.out _; (repeat apply bX); exact BK463.out) hb); have n2_ := Aside0.mk (bb_ (g := gb469) (o := .cells #[.int .i64 ((rd_T60 l0_0 x16_1).f0), .int .i64 ((rd_T60 l0_0 x16_1).f1), .int .i64 ((rd_T60 l0_0 x16_1).f2), .int .i64 ((rd_T60 l0_0 x16_1).f3), .int .i64 ((rd_T60 l0_0 x16_1).f4), .int .i64 ((rd_T60 l0_0 x16_1).f5), .int .i64 ((rd_T60 l0_0 x16_1).f6), .slice A468_7 ((rd_T60 l0_0 x16_1).f7).length c468_7] 60 (0, 0)) (by (repeat apply bX); refine bp_ (cs := #[.int .i64 ((rd_T60 l0_0 x16_1).f0), .int .i64 ((rd_T60 l0_0 x16_1).f1), .int .i64 ((rd_T60 l0_0 x16_1).f2), .int .i64 ((rd_T60 l0_0 x16_1).f3), .int .i64 ((rd_T60 l0_0 x16_1).f4), .int .i64 ((rd_T60 l0_0 x16_1).f5), .int .i64 ((rd_T60 l0_0 x16_1).f6), .slice none 0 0]) ?_ 7 _ rfl; (repeat apply bX); refine bp_ (cs := #[.int .i64 ((rd_T60 l0_0 x16_1).f0), .int .i64 ((rd_T60 l0_0 x16_1).f1), .int .i64 ((rd_T60 l0_0 x16_1).f2), .int .i64 ((rd_T60 l0_0 x16_1).f3), .int .i64 ((rd_T60 l0_0 x16_1).f4), .int .i64 ((rd_T60 l0_0 x16_1).f5), .int .i64 0, .slice none 0 0]) ?_ 6 _ rfl; (repeat apply bX); refine bp_ (cs := #[.int .i64 ((rd_T60 l0_0 x16_1).f0), .int .i64 ((rd_T60 l0_0 x16_1).f1), .int .i64 ((rd_T60 l0_0 x16_1).f2), .int .i64 ((rd_T60 l0_0 x16_1).f3), .int .i64 ((rd_T60 l0_0 x16_1).f4), .int .i64 0, .int .i64 0, .slice none 0 0]) ?_ 5 _ rfl; (repeat apply bX); refine bp_ (cs := #[.int .i64 ((rd_T60 l0_0 x16_1).f0), .int .i64 ((rd_T60 l0_0 x16_1).f1), .int .i64 ((rd_T60 l0_0 x16_1).f2), .int .i64 ((rd_T60 l0_0 x16_1).f3), .int .i64 0, .int .i64 0, .int .i64 0, .slice none 0 0]) ?_ 4 _ rfl; (repeat apply bX); refine bp_ (cs := #[.int .i64 ((rd_T60 l0_0 x16_1).f0), .int .i64 ((rd_T60 l0_0 x16_1).f1), .int .i64 ((rd_T60 l0_0 x16_1).f2), .int .i64 0, .int .i64 0, .int .i64 0, .int .i64 0, .slice none 0 0]) ?_ 3 _ rfl; (repeat apply bX); refine bp_ (cs := #[.int .i64 ((rd_T60 l0_0 x16_1).f0), .int .i64 ((rd_T60 l0_0 x16_1).f1), .int .i64 0, .int .i64 0, .int .i64 0, .int .i64 0, .int .i64 0, .slice none 0 0]) ?_ 2 _ rfl; (repeat apply bX); refine bp_ (cs := #[.int .i64 ((rd_T60 l0_0 x16_1).f0), .int .i64 0, .int .i64 0, .int .i64 0, .int .i64 0, .int .i64 0, .int .i64 0, .slice none 0 0]) ?_ 1 _ rfl; (repeat apply bX); refine bp_ (cs := #[.int .i64 0, .int .i64 0, .int .i64 0, .int .i64 0, .int .i64 0, .int .i64 0, .int .i64 0, .slice none 0 0]) ?_ 0 _ rfl; (repeat apply bX); exact BK469.out) hb); have n3_ := Aside0.mk (bt_ (by repeat (first | (with_reducible first | exact HB.out | apply ba_ | apply bd_ | apply be_ | refine bs_ ?_ GE463.out | refine bs_ ?_ GE469.out) | exact HB.out)) hb); clear HO_4 BK463 BK469 HB; have HO_4 := n0_; have BK463 := n1_; have BK469 := n2_; have HB := n3_; clear n0_ n1_ n2_ n3_; (try clear hb); (try clear hb2); (try clear hk); (try clear hi); obtain ⟨Ao29, co29, eo29⟩ := Kd.R_slice HO_4.out; subst eo29) | (go_at_call 56; (with_reducible refine (slices_Contains_int_int.calls k1 _ _ t465 x16_1 false _ ?side1 ?side2 A16.out).mono ?_); (case side1 => exact cY ((Kd.R_reads' HO_4.out).2.2)); (case side2 => exact (Kd.R_reads' HO_4.out).2.1); rintro e w' ⟨rfl, ⟨nd, rfl⟩⟩))
   go_roundg k1
   case measure => have := HK1.out; omega
   case rel => exact ⟨(wrap64 (x3_1 + 1)), (wrap64 (x16_1 + 1)), (by first | rfl | (simp; done) | (simp [*]; done)), (by first | rfl | (simp; done) | (simp [*]; done)), H', ⟨by have := HK1.out; omega⟩, ⟨by (repeat apply rX); exact HO_4.out⟩, ⟨by (repeat apply bX); exact BK463.out⟩, ⟨by repeat (first | (with_reducible first | exact HB.out | apply ba_ | apply bd_ | apply be_ | refine bs_ ?_ GE463.out | refine bs_ ?_ GE469.out) | exact HB.out)⟩⟩
theorem blk8_ {W : World} {g t : Nat} {a0 a1 a2 a3 a4 a5 a6 a7 : Value} (h : W.heap[g]? = some (.cells #[a0, a1, a2, a3, a4, a5, a6, a7] t (0, 0))) : W.cell? ⟨g, 0, none⟩ = some a0 ∧ W.cell? ⟨g, 1, none⟩ = some a1 ∧ W.cell? ⟨g, 2, none⟩ = some a2 ∧ W.cell? ⟨g, 3, none⟩ = some a3 ∧ W.cell? ⟨g, 4, none⟩ = some a4 ∧ W.cell? ⟨g, 5, none⟩ = some a5 ∧ W.cell? ⟨g, 6, none⟩ = some a6 ∧ W.cell? ⟨g, 7, none⟩ = some a7 :=
 ⟨(bc_ h 0).trans rfl, (bc_ h 1).trans rfl, (bc_ h 2).trans rfl, (bc_ h 3).trans rfl, (bc_ h 4).trans rfl, (bc_ h 5).trans rfl, (bc_ h 6).trans rfl, (bc_ h 7).trans rfl⟩
theorem QS_append0 {w w1 : World} {base g : Nat} {v0 v1 v2 v3 : Value} {l0 : List S60} {l1 l2 : List Int} {l3 : List S60} {u0 : Value} {m0 : List S60} (h : QS w base g v0 v1 v2 v3 l0 l1 l2 l3) (hg : w.grownBy w1 v0.ownBlock) (hat : u0.ownBlock = v0.ownBlock ∨ ∃ b, u0.ownBlock = some b ∧ w.heap.size ≤ b)
  (ho : Kd.N k60 60 w1 base (fun k_ => (base ≤ k_ ∧ some k_ ≠ v1.ownBlock ∧ some k_ ≠ v2.ownBlock ∧ some k_ ≠ v3.ownBlock) ∧ k_ ≠ g) u0 m0) : QS w1 base g u0 v1 v2 v3 m0 l1 l2 l3 :=
 ⟨ho, Kd.R_mono (Kd.R_after (ok := fun k_ => (base ≤ k_ ∧ some k_ ≠ v2.ownBlock ∧ some k_ ≠ v3.ownBlock) ∧ k_ ≠ g) (Kd.R_mono h.2.1 (fun _ hk => ⟨⟨⟨hk.1.1, hk.1.2.2.1, hk.1.2.2.2⟩, hk.2⟩, hk.1.2.1⟩)) hg hat) (fun _ hk => ⟨⟨hk.1.1.1, hk.2, hk.1.1.2.1, hk.1.1.2.2⟩, hk.1.2⟩),
  Kd.R_mono (Kd.R_after (ok := fun k_ => (base ≤ k_ ∧ some k_ ≠ v1.ownBlock ∧ some k_ ≠ v3.ownBlock) ∧ k_ ≠ g) (Kd.R_mono h.2.2.1 (fun _ hk => ⟨⟨⟨hk.1.1, hk.1.2.2.1, hk.1.2.2.2⟩, hk.2⟩, hk.1.2.1⟩)) hg hat) (fun _ hk => ⟨⟨hk.1.1.1, hk.2, hk.1.1.2.1, hk.1.1.2.2⟩, hk.1.2⟩),
  Kd.N_mono (Kd.N_after (ok := fun k_ => (base ≤ k_ ∧ some k_ ≠ v1.ownBlock ∧ some k_ ≠ v2.ownBlock) ∧ k_ ≠ g) (Kd.N_mono h.2.2.2 (fun _ hk => ⟨⟨⟨hk.1.1, hk.1.2.2.1, hk.1.2.2.2⟩, hk.2⟩, hk.1.2.1⟩)) hg hat) (fun _ hk => ⟨⟨hk.1.1.1, hk.2, hk.1.1.2.1, hk.1.1.2.2⟩, hk.1.2⟩)⟩
/-! ### impl_EnterQueue: function 37, told by hand -/
def impl_EnterQueue.f (k : Nat) (l0_0 : List (S60)) (l0_1 : List Int) (l0_2 : List Int) (l0_3 : List (S60)) (a1_0 : Int) (a1_1 : Int) (a1_2 : Int) (a1_3 : Int) (a1_4 : Int) (a1_5 : Int) (a1_6 : Int) (l1_7 : List Int) : Option (List (S60) × List Int × List Int × (List (S60)) × Bool) := (impl_copyQueue.f k l0_0 l0_1 l0_2 l0_3).bind fun bt => ((impl_QueueOk.f k l0_0 l0_1 l0_2 l0_3).bind fun t => (if t = true then ((impl_IsPacket.f k a1_0 a1_1 a1_2 a1_3 a1_4 a1_5 a1_6 l1_7).bind fun t1 => (if t1 = true then (if (l0_0.length : Int) = 12 then (some (bt.1, bt.2.1, bt.2.2.1, bt.2.2.2, false)) else ((impl_copyPacket.f a1_0 a1_1 a1_2 a1_3 a1_4 a1_5 a1_6 l1_7).bind fun bc => (if bt.1.length < 1759218604441 then (some (bt.1 ++ [(⟨bc.1, bc.2.1, bc.2.2.1, bc.2.2.2.1, bc.2.2.2.2.1, bc.2.2.2.2.2.1, bc.2.2.2.2.2.2.1, bc.2.2.2.2.2.2.2⟩ : S60)], bt.2.1, bt.2.2.1, bt.2.2.2, true)) else none))) else (some (bt.1, bt.2.1, bt.2.2.1, bt.2.2.2, false)))) else (some (bt.1, bt.2.1, bt.2.2.1, bt.2.2.2, false))))
set_option maxHeartbeats 8000000 in
set_option maxRecDepth 100000 in
theorem impl_EnterQueue.calls (k : Nat) (A0_0 : Option Addr) (c0_0 : Nat) (l0_0 : List (S60)) (A0_1 : Option Addr) (c0_1 : Nat) (l0_1 : List Int) (A0_2 : Option Addr) (c0_2 : Nat) (l0_2 : List Int) (A0_3 : Option Addr) (c0_3 : Nat) (l0_3 : List (S60)) (a1_0 : Int) (a1_1 : Int) (a1_2 : Int) (a1_3 : Int) (a1_4 : Int) (a1_5 : Int) (a1_6 : Int) (A1_7 : Option Addr) (c1_7 : Nat) (l1_7 : List Int) (r1 : List (S60)) (r2 : List Int) (r3 : List Int) (r4 : List (S60)) (r5 : Bool) (w : World) (hr0_0 : Kd.C k60 w A0_0 l0_0.length l0_0) (hc0_0 : l0_0.length ≤ c0_0) (hr0_1 : Kd.C (Kd.int .i64) w A0_1 l0_1.length l0_1) (hc0_1 : l0_1.length ≤ c0_1) (hr0_2 : Kd.C (Kd.int .i64) w A0_2 l0_2.length l0_2) (hc0_2 : l0_2.length ≤ c0_2) (hr0_3 : Kd.C k60 w A0_3 l0_3.length l0_3) (hc0_3 : l0_3.length ≤ c0_3) (hr1_7 : Kd.C (Kd.int .i64) w A1_7 l1_7.length l1_7) (hc1_7 : l1_7.length ≤ c1_7) (h : impl_EnterQueue.f k l0_0 l0_1 l0_2 l0_3 a1_0 a1_1 a1_2 a1_3 a1_4 a1_5 a1_6 l1_7 = some (r1, r2, r3, r4, r5)) :
  Calls Try.prog 37 #[.agg #[.slice A0_0 l0_0.length c0_0, .slice A0_1 l0_1.length c0_1, .slice A0_2 l0_2.length c0_2, .slice A0_3 l0_3.length c0_3], .agg #[.int .i64 a1_0, .int .i64 a1_1, .int .i64 a1_2, .int .i64 a1_3, .int .i64 a1_4, .int .i64 a1_5, .int .i64 a1_6, .slice A1_7 l1_7.length c1_7]] w fun e w' => ∃ v0_ v1_ v2_ v3_ : Value, e = .returned (.tuple #[.agg #[v0_, v1_, v2_, v3_], .bool r5]) ∧ Kd.N k60 60 w' w.heap.size (fun k_ => (some k_ ≠ (v1_ : Value).ownBlock ∧ some k_ ≠ (v2_ : Value).ownBlock ∧ some k_ ≠ (v3_ : Value).ownBlock) ∧ w.heap.size ≤ k_ ∧ True) v0_ r1 ∧ Kd.R (Kd.int .i64) 3 w' w.heap.size (fun k_ => some k_ ≠ (v2_ : Value).ownBlock) v1_ r2 ∧ Kd.R (Kd.int .i64) 3 w' w.heap.size (fun k_ => some k_ ≠ (v1_ : Value).ownBlock) v2_ r3 ∧ Kd.N k60 60 w' w.heap.size (fun k_ => (some k_ ≠ (v0_ : Value).ownBlock ∧ some k_ ≠ (v1_ : Value).ownBlock ∧ some k_ ≠ (v2_ : Value).ownBlock) ∧ w.heap.size ≤ k_ ∧ True) v3_ r4 ∧ Below w.heap.size w w' := by
 unfold impl_EnterQueue.f at h
 obtain ⟨⟨t0, t1, t2, t3⟩, A0_, H⟩ := Option.bind_eq_some_iff.mp h
 have AC := Aside0.mk A0_
 clear A0_ h
 try dsimp only at H
 obtain ⟨tb, A1_, H⟩ := Option.bind_eq_some_iff.mp H
 have AQ := Aside0.mk A1_
 clear A1_
 have hu53 := Try.underlying53
 have hu60 := Try.underlying60
 have HR0 := Aside0.mk hr0_0
 have HC0 := Aside0.mk hc0_0
 clear hr0_0 hc0_0
 have HR1 := Aside0.mk hr0_1
 have HC1 := Aside0.mk hc0_1
 clear hr0_1 hc0_1
 have HR2 := Aside0.mk hr0_2
 have HC2 := Aside0.mk hc0_2
 clear hr0_2 hc0_2
 have HR3 := Aside0.mk hr0_3
 have HC3 := Aside0.mk hc0_3
 clear hr0_3 hc0_3
 have HP := Aside0.mk hr1_7
 have HPC := Aside0.mk hc1_7
 clear hr1_7 hc1_7
 replace H := Aside0.mk H
 go_enter Try.func37, Try.ntmps37
 go_wp2_with (first | ((with_reducible refine gd_ (N := 2) rfl ?_); refine bx_ ?hg (N := 2) ?hd (cs := #[.slice A0_0 l0_0.length c0_0, .slice A0_1 l0_1.length c0_1, .slice A0_2 l0_2.length c0_2, .slice A0_3 l0_3.length c0_3]) (t := 53) ?hr ?_; (case hd => rfl); (case hg => rfl); (case hr => first | (go_simp; done) | (go_simp; rfl)); intro gb1 hg w1_ hbox hb; have BK1 := Aside0.mk hbox; have HB2 := Aside0.mk hb; clear hbox hb hg) | ((with_reducible refine gd_ (N := 3) rfl ?_); refine bx_ ?hg (N := 3) ?hd (cs := #[.int .i64 a1_0, .int .i64 a1_1, .int .i64 a1_2, .int .i64 a1_3, .int .i64 a1_4, .int .i64 a1_5, .int .i64 a1_6, .slice A1_7 l1_7.length c1_7]) (t := 60) ?hr ?_; (case hd => rfl); (case hg => rfl); (case hr => first | (go_simp; done) | (go_simp; rfl)); intro gbp hg w1b_ hbox hb; replace BK1 := Aside0.mk (bb_ BK1.out hb); have BKp := Aside0.mk hbox; replace HB2 := Aside0.mk (below_then HB2.out HB2.out.size hb); clear hbox hb hg) | ((with_reducible refine gd_ (N := 4) rfl ?_); refine bx_ ?hg (N := 4) ?hd (cs := #[.slice none 0 0, .slice none 0 0, .slice none 0 0, .slice none 0 0]) (t := 53) ?hr ?_; (case hd => rfl); (case hg => rfl); (case hr => first | (go_simp; done) | (go_simp; rfl)); intro gb2 hg w2_ hbox hb; have G1 := Aside0.mk (Nat.lt_of_lt_of_le (blk_lt BK1.out) hb.size); have Gp := Aside0.mk (Nat.lt_of_lt_of_le (blk_lt BKp.out) hb.size); replace BK1 := Aside0.mk (bb_ BK1.out hb); replace BKp := Aside0.mk (bb_ BKp.out hb); have BK2 := Aside0.mk hbox; have G2 := Aside0.mk (blk_lt hbox); have GE2 := Aside0.mk (show w.heap.size ≤ gb2 from by rw [hg]; exact HB2.out.size); replace HB2 := Aside0.mk (below_then HB2.out HB2.out.size hb); have HBB := Aside0.mk (Below.refl w2_.heap.size w2_); clear hbox hb hg; obtain ⟨q0, q1, q2, q3⟩ := blk4_ ((HBB.out.block gb1 G1.out).trans BK1.out)) | ((with_reducible refine gc_ (f := 60) rfl ?_); refine goesL_ (some 8) rfl rfl Try.func60 (by kernel_rfl) rfl #[.agg #[.slice A0_0 l0_0.length c0_0, .slice A0_1 l0_1.length c0_1, .slice A0_2 l0_2.length c0_2, .slice A0_3 l0_3.length c0_3]] rfl (by (try simp only [List.map_toArray, List.map_cons, List.map_nil]); first | done | rfl) ?_; (with_reducible refine (impl_copyQueue.calls k _ _ l0_0 _ _ l0_1 _ _ l0_2 _ _ l0_3 t0 t1 t2 t3 _ (Kd.C_below HR0.out HB2.out) HC0.out (Kd.C_below HR1.out HB2.out) HC1.out (Kd.C_below HR2.out HB2.out) HC2.out (Kd.C_below HR3.out HB2.out) HC3.out AC.out).mono ?_); rintro e w3_ ⟨u0, u1, u2, u3, rfl, h0, h1, h2, h3, hb⟩; refine ⟨_, rfl, ?_⟩; obtain ⟨B0, d0, e_⟩ := Kd.S_slice h0; subst e_; obtain ⟨B1, d1, e_⟩ := Kd.R_slice h1; subst e_; obtain ⟨B2, d2, e_⟩ := Kd.R_slice h2; subst e_; obtain ⟨B3, d3, e_⟩ := Kd.S_slice h3; subst e_; have H0 := Aside0.mk h0; have H1 := Aside0.mk h1; have H2 := Aside0.mk h2; have H3 := Aside0.mk h3; replace HBB := Aside0.mk hb; clear h0 h1 h2 h3 hb q0 q1 q2 q3; obtain ⟨q0, q1, q2, q3⟩ := blk4_ ((HBB.out.block gb1 G1.out).trans BK1.out)) | ((with_reducible refine gd_ (N := 6) rfl ?_); refine bx_ ?hg (N := 6) ?hd (cs := #[.slice none 0 0, .slice none 0 0, .slice none 0 0, .slice none 0 0]) (t := 53) ?hr ?_; (case hd => rfl); (case hg => rfl); (case hr => first | (go_simp; done) | (go_simp; rfl)); intro gb4 hg w4_ hbox hb; have HQ := Aside0.mk (QS_below (QS_mk H0.out H1.out H2.out H3.out (Nat.le_of_eq hg.symm)) hb); have G4 := Aside0.mk (show w2_.heap.size ≤ gb4 from by rw [hg]; exact HBB.out.size); have BK4 := Aside0.mk hbox; replace HBB := Aside0.mk (below_then HBB.out HBB.out.size hb); clear H0 H1 H2 H3 hbox hb hg q0 q1 q2 q3; obtain ⟨q0, q1, q2, q3⟩ := blk4_ ((HBB.out.block gb1 G1.out).trans BK1.out); obtain ⟨p0, p1, p2, p3⟩ := blk4_ BK4.out) | ((with_reducible refine gs_ (t := 53) (p := 6) rfl ?_); have f0_ := bf_ BK4.out 0; have f1_ := bf_ BK4.out 1; have f2_ := bf_ BK4.out 2; have f3_ := bf_ BK4.out 3; refine se_ (t := 53) (p := 6) (v := ?vo_5) (w1 := ((((w4_.setCell ⟨gb4, 0, none⟩ (.slice B0 t0.length d0)).setCell ⟨gb4, 1, none⟩ (.slice B1 t1.length d1)).setCell ⟨gb4, 2, none⟩ (.slice B2 t2.length d2)).setCell ⟨gb4, 3, none⟩ (.slice B3 t3.length d3))) ?hg ?ho ?hn ?hr ?_; (case ho => rfl); (case hg => rfl); (case hn => rfl); (case hr => first | (go_simp; done) | (go_simp; rfl)); intro w5_ hw; clear f0_ f1_ f2_ f3_; replace HQ := Aside0.mk (show QS w5_ w2_.heap.size gb4 (.slice B0 t0.length d0) (.slice B1 t1.length d1) (.slice B2 t2.length d2) (.slice B3 t3.length d3) t0 t1 t2 t3 from (by rw [hw]; exact (QS_far (QS_far (QS_far (QS_far HQ.out _ _) _ _) _ _) _ _))); replace HBB := Aside0.mk (show Below w2_.heap.size w2_ w5_ from (by rw [hw]; exact (bs_ (bs_ (bs_ (bs_ HBB.out G4.out) G4.out) G4.out) G4.out))); replace BK4 := Aside0.mk (show w5_.heap[gb4]? = some (.cells #[.slice B0 t0.length d0, .slice B1 t1.length d1, .slice B2 t2.length d2, .slice B3 t3.length d3] 53 (0, 0)) from (by rw [hw]; exact (bp_ (cs := #[.slice B0 t0.length d0, .slice B1 t1.length d1, .slice B2 t2.length d2, .slice none 0 0]) (bp_ (cs := #[.slice B0 t0.length d0, .slice B1 t1.length d1, .slice none 0 0, .slice none 0 0]) (bp_ (cs := #[.slice B0 t0.length d0, .slice none 0 0, .slice none 0 0, .slice none 0 0]) (bp_ (cs := #[.slice none 0 0, .slice none 0 0, .slice none 0 0, .slice none 0 0]) BK4.out 0 _ rfl) 1 _ rfl) 2 _ rfl) 3 _ rfl))); clear hw q0 q1 q2 q3 p0 p1 p2 p3; obtain ⟨q0, q1, q2, q3⟩ := blk4_ ((HBB.out.block gb1 G1.out).trans BK1.out); obtain ⟨p0, p1, p2, p3⟩ := blk4_ BK4.out; obtain ⟨y0, y1, y2, y3, y4, y5, y6, y7⟩ := blk8_ ((HBB.out.block gbp Gp.out).trans BKp.out)))
 (with_reducible refine (impl_QueueOk.calls k _ _ l0_0 _ _ l0_1 _ _ l0_2 _ _ l0_3 tb _ (Kd.C_below HR0.out (below_then HB2.out HB2.out.size HBB.out)) HC0.out (Kd.C_below HR1.out (below_then HB2.out HB2.out.size HBB.out)) HC1.out (Kd.C_below HR2.out (below_then HB2.out HB2.out.size HBB.out)) HC2.out (Kd.C_below HR3.out (below_then HB2.out HB2.out.size HBB.out)) HC3.out AQ.out).mono ?_)
 rintro e w6_ ⟨rfl, hb⟩
 replace HQ := Aside0.mk (QS_below HQ.out hb)
 replace BK4 := Aside0.mk (bb_ BK4.out hb)
 replace HBB := Aside0.mk (below_then HBB.out HBB.out.size hb)
 clear hb q0 q1 q2 q3 p0 p1 p2 p3 y0 y1 y2 y3 y4 y5 y6 y7
 obtain ⟨q0, q1, q2, q3⟩ := blk4_ ((HBB.out.block gb1 G1.out).trans BK1.out)
 obtain ⟨p0, p1, p2, p3⟩ := blk4_ BK4.out
 obtain ⟨y0, y1, y2, y3, y4, y5, y6, y7⟩ := blk8_ ((HBB.out.block gbp Gp.out).trans BKp.out)
 replace H := H.out
 by_cases hT : tb = true
 case neg =>
  rw [if_neg hT] at H
  replace hT := eq_false_of_ne_true hT
  subst hT
  simp only [Option.some.injEq, Prod.mk.injEq] at H
  obtain ⟨rfl, rfl, rfl, rfl, rfl⟩ := H
  obtain ⟨s0, s1, s2, s3⟩ := blk4_ ((HBB.out.block gb2 G2.out).trans BK2.out)
  go_wp2_with (first | ((with_reducible refine gs_ (t := 53) (p := 4) rfl ?_); have f0_ := bf_ ((HBB.out.block gb2 G2.out).trans BK2.out) 0; have f1_ := bf_ ((HBB.out.block gb2 G2.out).trans BK2.out) 1; have f2_ := bf_ ((HBB.out.block gb2 G2.out).trans BK2.out) 2; have f3_ := bf_ ((HBB.out.block gb2 G2.out).trans BK2.out) 3; refine se_ (t := 53) (p := 4) (v := ?vo_7) (w1 := ((((w6_.setCell ⟨gb2, 0, none⟩ (.slice B0 t0.length d0)).setCell ⟨gb2, 1, none⟩ (.slice B1 t1.length d1)).setCell ⟨gb2, 2, none⟩ (.slice B2 t2.length d2)).setCell ⟨gb2, 3, none⟩ (.slice B3 t3.length d3))) ?hg ?ho ?hn ?hr ?_; (case ho => rfl); (case hg => rfl); (case hn => rfl); (case hr => first | (go_simp; done) | (go_simp; rfl)); intro wz_ hw; clear f0_ f1_ f2_ f3_; replace HQ := Aside0.mk (show QS wz_ w2_.heap.size gb4 (.slice B0 t0.length d0) (.slice B1 t1.length d1) (.slice B2 t2.length d2) (.slice B3 t3.length d3) t0 t1 t2 t3 from (by rw [hw]; exact (QS_low (QS_low (QS_low (QS_low HQ.out G2.out _ _) G2.out _ _) G2.out _ _) G2.out _ _))); have HZ := Aside0.mk (show Below w.heap.size w wz_ from (by rw [hw]; exact (bs_ (bs_ (bs_ (bs_ (below_then HB2.out HB2.out.size HBB.out) GE2.out) GE2.out) GE2.out) GE2.out))); have BKZ := Aside0.mk (show wz_.heap[gb2]? = some (.cells #[.slice B0 t0.length d0, .slice B1 t1.length d1, .slice B2 t2.length d2, .slice B3 t3.length d3] 53 (0, 0)) from (by rw [hw]; exact (bp_ (cs := #[.slice B0 t0.length d0, .slice B1 t1.length d1, .slice B2 t2.length d2, .slice none 0 0]) (bp_ (cs := #[.slice B0 t0.length d0, .slice B1 t1.length d1, .slice none 0 0, .slice none 0 0]) (bp_ (cs := #[.slice B0 t0.length d0, .slice none 0 0, .slice none 0 0, .slice none 0 0]) (bp_ (cs := #[.slice none 0 0, .slice none 0 0, .slice none 0 0, .slice none 0 0]) ((HBB.out.block gb2 G2.out).trans BK2.out) 0 _ rfl) 1 _ rfl) 2 _ rfl) 3 _ rfl))); clear hw s0 s1 s2 s3))
  refine bodyPost_ret (results_ct rfl _ _ gb2 53 #[.slice B0 t0.length d0, .slice B1 t1.length d1, .slice B2 t2.length d2, .slice B3 t3.length d3] (0, 0) _ rfl BKZ.out Try.underlying53 rfl (by kernel_rfl)) rfl ?_
  exact ⟨_, _, _, _, rfl, Kd.N_lower (Kd.N_mono HQ.out.n0 (fun _ hk => ⟨hk.1.2, Nat.le_trans HB2.out.size hk.1.1, trivial⟩)) HB2.out.size, Kd.R_lower (Kd.R_mono HQ.out.r1 (fun _ hk => hk.1.2.2.1)) HB2.out.size, Kd.R_lower (Kd.R_mono HQ.out.r2 (fun _ hk => hk.1.2.2.1)) HB2.out.size, Kd.N_lower (Kd.N_mono HQ.out.n3 (fun _ hk => ⟨hk.1.2, Nat.le_trans HB2.out.size hk.1.1, trivial⟩)) HB2.out.size, HZ.out⟩
 rw [if_pos hT] at H
 subst hT
 obtain ⟨tp, A2_, H⟩ := Option.bind_eq_some_iff.mp H
 have AP := Aside0.mk A2_
 clear A2_
 replace H := Aside0.mk H
 go_wp2_with fail
 (with_reducible refine (impl_IsPacket.calls k a1_0 a1_1 a1_2 a1_3 a1_4 a1_5 a1_6 _ _ l1_7 tp _ (Kd.C_below HP.out (below_then HB2.out HB2.out.size HBB.out)) HPC.out AP.out).mono ?_)
 rintro e w7_ ⟨rfl, hb⟩
 replace HQ := Aside0.mk (QS_below HQ.out hb)
 replace BK4 := Aside0.mk (bb_ BK4.out hb)
 replace HBB := Aside0.mk (below_then HBB.out HBB.out.size hb)
 clear hb q0 q1 q2 q3 p0 p1 p2 p3 y0 y1 y2 y3 y4 y5 y6 y7
 obtain ⟨q0, q1, q2, q3⟩ := blk4_ ((HBB.out.block gb1 G1.out).trans BK1.out)
 obtain ⟨p0, p1, p2, p3⟩ := blk4_ BK4.out
 obtain ⟨y0, y1, y2, y3, y4, y5, y6, y7⟩ := blk8_ ((HBB.out.block gbp Gp.out).trans BKp.out)
 replace H := H.out
 by_cases hT : tp = true
 case neg =>
  rw [if_neg hT] at H
  replace hT := eq_false_of_ne_true hT
  subst hT
  simp only [Option.some.injEq, Prod.mk.injEq] at H
  obtain ⟨rfl, rfl, rfl, rfl, rfl⟩ := H
  obtain ⟨s0, s1, s2, s3⟩ := blk4_ ((HBB.out.block gb2 G2.out).trans BK2.out)
  go_wp2_with (first | ((with_reducible refine gs_ (t := 53) (p := 4) rfl ?_); have f0_ := bf_ ((HBB.out.block gb2 G2.out).trans BK2.out) 0; have f1_ := bf_ ((HBB.out.block gb2 G2.out).trans BK2.out) 1; have f2_ := bf_ ((HBB.out.block gb2 G2.out).trans BK2.out) 2; have f3_ := bf_ ((HBB.out.block gb2 G2.out).trans BK2.out) 3; refine se_ (t := 53) (p := 4) (v := ?vo_8) (w1 := ((((w7_.setCell ⟨gb2, 0, none⟩ (.slice B0 t0.length d0)).setCell ⟨gb2, 1, none⟩ (.slice B1 t1.length d1)).setCell ⟨gb2, 2, none⟩ (.slice B2 t2.length d2)).setCell ⟨gb2, 3, none⟩ (.slice B3 t3.length d3))) ?hg ?ho ?hn ?hr ?_; (case ho => rfl); (case hg => rfl); (case hn => rfl); (case hr => first | (go_simp; done) | (go_simp; rfl)); intro wz_ hw; clear f0_ f1_ f2_ f3_; replace HQ := Aside0.mk (show QS wz_ w2_.heap.size gb4 (.slice B0 t0.length d0) (.slice B1 t1.length d1) (.slice B2 t2.length d2) (.slice B3 t3.length d3) t0 t1 t2 t3 from (by rw [hw]; exact (QS_low (QS_low (QS_low (QS_low HQ.out G2.out _ _) G2.out _ _) G2.out _ _) G2.out _ _))); have HZ := Aside0.mk (show Below w.heap.size w wz_ from (by rw [hw]; exact (bs_ (bs_ (bs_ (bs_ (below_then HB2.out HB2.out.size HBB.out) GE2.out) GE2.out) GE2.out) GE2.out))); have BKZ := Aside0.mk (show wz_.heap[gb2]? = some (.cells #[.slice B0 t0.length d0, .slice B1 t1.length d1, .slice B2 t2.length d2, .slice B3 t3.length d3] 53 (0, 0)) from (by rw [hw]; exact (bp_ (cs := #[.slice B0 t0.length d0, .slice B1 t1.length d1, .slice B2 t2.length d2, .slice none 0 0]) (bp_ (cs := #[.slice B0 t0.length d0, .slice B1 t1.length d1, .slice none 0 0, .slice none 0 0]) (bp_ (cs := #[.slice B0 t0.length d0, .slice none 0 0, .slice none 0 0, .slice none 0 0]) (bp_ (cs := #[.slice none 0 0, .slice none 0 0, .slice none 0 0, .slice none 0 0]) ((HBB.out.block gb2 G2.out).trans BK2.out) 0 _ rfl) 1 _ rfl) 2 _ rfl) 3 _ rfl))); clear hw s0 s1 s2 s3))
  refine bodyPost_ret (results_ct rfl _ _ gb2 53 #[.slice B0 t0.length d0, .slice B1 t1.length d1, .slice B2 t2.length d2, .slice B3 t3.length d3] (0, 0) _ rfl BKZ.out Try.underlying53 rfl (by kernel_rfl)) rfl ?_
  exact ⟨_, _, _, _, rfl, Kd.N_lower (Kd.N_mono HQ.out.n0 (fun _ hk => ⟨hk.1.2, Nat.le_trans HB2.out.size hk.1.1, trivial⟩)) HB2.out.size, Kd.R_lower (Kd.R_mono HQ.out.r1 (fun _ hk => hk.1.2.2.1)) HB2.out.size, Kd.R_lower (Kd.R_mono HQ.out.r2 (fun _ hk => hk.1.2.2.1)) HB2.out.size, Kd.N_lower (Kd.N_mono HQ.out.n3 (fun _ hk => ⟨hk.1.2, Nat.le_trans HB2.out.size hk.1.1, trivial⟩)) HB2.out.size, HZ.out⟩
 rw [if_pos hT] at H
 subst hT
 by_cases hE : (l0_0.length : Int) = 12
 case pos =>
  rw [if_pos hE] at H
  have hE1 : ((l0_0.length : Int) == 12) = true := beq_iff_eq.mpr hE
  have hE2 : (l0_0.length == 12) = true := beq_iff_eq.mpr (by omega)
  clear hE
  simp only [Option.some.injEq, Prod.mk.injEq] at H
  obtain ⟨rfl, rfl, rfl, rfl, rfl⟩ := H
  obtain ⟨s0, s1, s2, s3⟩ := blk4_ ((HBB.out.block gb2 G2.out).trans BK2.out)
  go_wp2_with (first | ((with_reducible refine gs_ (t := 53) (p := 4) rfl ?_); have f0_ := bf_ ((HBB.out.block gb2 G2.out).trans BK2.out) 0; have f1_ := bf_ ((HBB.out.block gb2 G2.out).trans BK2.out) 1; have f2_ := bf_ ((HBB.out.block gb2 G2.out).trans BK2.out) 2; have f3_ := bf_ ((HBB.out.block gb2 G2.out).trans BK2.out) 3; refine se_ (t := 53) (p := 4) (v := ?vo_9) (w1 := ((((w7_.setCell ⟨gb2, 0, none⟩ (.slice B0 t0.length d0)).setCell ⟨gb2, 1, none⟩ (.slice B1 t1.length d1)).setCell ⟨gb2, 2, none⟩ (.slice B2 t2.length d2)).setCell ⟨gb2, 3, none⟩ (.slice B3 t3.length d3))) ?hg ?ho ?hn ?hr ?_; (case ho => rfl); (case hg => rfl); (case hn => rfl); (case hr => first | (go_simp; done) | (go_simp; rfl)); intro wz_ hw; clear f0_ f1_ f2_ f3_; replace HQ := Aside0.mk (show QS wz_ w2_.heap.size gb4 (.slice B0 t0.length d0) (.slice B1 t1.length d1) (.slice B2 t2.length d2) (.slice B3 t3.length d3) t0 t1 t2 t3 from (by rw [hw]; exact (QS_low (QS_low (QS_low (QS_low HQ.out G2.out _ _) G2.out _ _) G2.out _ _) G2.out _ _))); have HZ := Aside0.mk (show Below w.heap.size w wz_ from (by rw [hw]; exact (bs_ (bs_ (bs_ (bs_ (below_then HB2.out HB2.out.size HBB.out) GE2.out) GE2.out) GE2.out) GE2.out))); have BKZ := Aside0.mk (show wz_.heap[gb2]? = some (.cells #[.slice B0 t0.length d0, .slice B1 t1.length d1, .slice B2 t2.length d2, .slice B3 t3.length d3] 53 (0, 0)) from (by rw [hw]; exact (bp_ (cs := #[.slice B0 t0.length d0, .slice B1 t1.length d1, .slice B2 t2.length d2, .slice none 0 0]) (bp_ (cs := #[.slice B0 t0.length d0, .slice B1 t1.length d1, .slice none 0 0, .slice none 0 0]) (bp_ (cs := #[.slice B0 t0.length d0, .slice none 0 0, .slice none 0 0, .slice none 0 0]) (bp_ (cs := #[.slice none 0 0, .slice none 0 0, .slice none 0 0, .slice none 0 0]) ((HBB.out.block gb2 G2.out).trans BK2.out) 0 _ rfl) 1 _ rfl) 2 _ rfl) 3 _ rfl))); clear hw s0 s1 s2 s3))
  refine bodyPost_ret (results_ct rfl _ _ gb2 53 #[.slice B0 t0.length d0, .slice B1 t1.length d1, .slice B2 t2.length d2, .slice B3 t3.length d3] (0, 0) _ rfl BKZ.out Try.underlying53 rfl (by kernel_rfl)) rfl ?_
  exact ⟨_, _, _, _, rfl, Kd.N_lower (Kd.N_mono HQ.out.n0 (fun _ hk => ⟨hk.1.2, Nat.le_trans HB2.out.size hk.1.1, trivial⟩)) HB2.out.size, Kd.R_lower (Kd.R_mono HQ.out.r1 (fun _ hk => hk.1.2.2.1)) HB2.out.size, Kd.R_lower (Kd.R_mono HQ.out.r2 (fun _ hk => hk.1.2.2.1)) HB2.out.size, Kd.N_lower (Kd.N_mono HQ.out.n3 (fun _ hk => ⟨hk.1.2, Nat.le_trans HB2.out.size hk.1.1, trivial⟩)) HB2.out.size, HZ.out⟩
 rw [if_neg hE] at H
 have hE1 : ((l0_0.length : Int) == 12) = false := beq_eq_false_iff_ne.mpr hE
 have hE2 : (l0_0.length == 12) = false := beq_eq_false_iff_ne.mpr (by omega)
 clear hE
 obtain ⟨⟨e0, e1, e2, e3, e4, e5, e6, e7⟩, A3_, H⟩ := Option.bind_eq_some_iff.mp H
 have AE := Aside0.mk A3_
 clear A3_
 try dsimp only at H
 by_cases hL : t0.length < 1759218604441
 case neg => rw [if_neg hL] at H; cases H
 rw [if_pos hL] at H
 have HL := Aside0.mk hL
 clear hL
 simp only [Option.some.injEq, Prod.mk.injEq] at H
 obtain ⟨rfl, rfl, rfl, rfl, rfl⟩ := H
 go_wp2_with fail
 refine start_ (n := 8) (S := fun w' => (w'.cell? ⟨gb4, 0, none⟩ = some (.slice B0 t0.length d0) ∧ w'.cell? ⟨gb4, 1, none⟩ = some (.slice B1 t1.length d1) ∧ w'.cell? ⟨gb4, 2, none⟩ = some (.slice B2 t2.length d2) ∧ w'.cell? ⟨gb4, 3, none⟩ = some (.slice B3 t3.length d3)) ∧ (w'.cell? ⟨gbp, 0, none⟩ = some (.int .i64 a1_0) ∧ w'.cell? ⟨gbp, 1, none⟩ = some (.int .i64 a1_1) ∧ w'.cell? ⟨gbp, 2, none⟩ = some (.int .i64 a1_2) ∧ w'.cell? ⟨gbp, 3, none⟩ = some (.int .i64 a1_3) ∧ w'.cell? ⟨gbp, 4, none⟩ = some (.int .i64 a1_4) ∧ w'.cell? ⟨gbp, 5, none⟩ = some (.int .i64 a1_5) ∧ w'.cell? ⟨gbp, 6, none⟩ = some (.int .i64 a1_6) ∧ w'.cell? ⟨gbp, 7, none⟩ = some (.slice A1_7 l1_7.length c1_7))) (ds := [7]) #[F, F, F, F, F, F, F, F] (by kernel_rfl) rfl rfl ⟨blk4_ BK4.out, blk8_ ((HBB.out.block gbp Gp.out).trans BKp.out)⟩ (fun hHeld => ?_)
 clear q0 q1 q2 q3 p0 p1 p2 p3 y0 y1 y2 y3 y4 y5 y6 y7
 have hb := below_drew (Below.refl w7_.heap.size w7_)
 replace HQ := Aside0.mk (QS_below HQ.out hb)
 replace BK4 := Aside0.mk (bb_ BK4.out hb)
 replace HBB := Aside0.mk (below_then HBB.out HBB.out.size hb)
 clear hb
 generalize w7_.drew = w8_ at HQ BK4 HBB hHeld ⊢
 refine pure_ (i := 0) (N := some 24) (v := ?_) (a' := ?_) #[T, F, F, F, F, F, F, F] rfl rfl (by kernel_rfl) (fun _ _ _ h => h) (Or.inl ⟨by rfl, ?_⟩) ?_ ?_
 rotate_left
 ·intro w'
  go_simp
  with_reducible rfl
 rotate_left
 ·simp only [pS]
  rfl
 refine take_ (i := 1) (N := some 25) (v := ?_) (a' := ?_) #[T, T, F, F, F, F, F, F] rfl rfl (by kernel_rfl) (fun _ _ _ h => h) (Or.inl ⟨by rfl, ?_⟩) hHeld ?_ ?_
 rotate_left
 ·rintro w' ⟨⟨s0, s1, s2, s3⟩, ⟨s4, s5, s6, s7, s8, s9, s10, s11⟩⟩
  go_simp
  with_reducible rfl
 rotate_left
 ·simp only [pS]
  rfl
 refine take_ (i := 2) (N := some 26) (v := ?_) (a' := ?_) #[T, T, T, F, F, F, F, F] rfl rfl (by kernel_rfl) (fun _ _ _ h => h) (Or.inl ⟨by rfl, ?_⟩) hHeld ?_ ?_
 rotate_left
 ·rintro w' ⟨⟨s0, s1, s2, s3⟩, ⟨s4, s5, s6, s7, s8, s9, s10, s11⟩⟩
  go_simp
  with_reducible rfl
 rotate_left
 ·simp only [pS]
  rfl
 have N0 := Aside0.mk (And.intro (Kd.N_lt HQ.out.n0) (And.intro (Kd.R_lt HQ.out.r1) (And.intro (Kd.R_lt HQ.out.r2) (And.intro (Kd.N_lt HQ.out.n3) (And.intro (blk_lt BK4.out) HBB.out.size)))))
 refine one_ (i := 3) (N := some 27) #[T, T, T, T, F, F, F, F] rfl rfl (by kernel_rfl) (by decide) (fun K hK => ?_)
 refine goes_ Try.func66 (by kernel_rfl) rfl #[.agg #[.int .i64 a1_0, .int .i64 a1_1, .int .i64 a1_2, .int .i64 a1_3, .int .i64 a1_4, .int .i64 a1_5, .int .i64 a1_6, .slice A1_7 l1_7.length c1_7]] (by rfl) rfl rfl (by (try simp only [List.map_toArray, List.map_cons, List.map_nil]); first | done | rfl) ?_
 with_reducible refine (impl_copyPacket.calls a1_0 a1_1 a1_2 a1_3 a1_4 a1_5 a1_6 _ _ l1_7 e0 e1 e2 e3 e4 e5 e6 e7 _ (Kd.C_below HP.out (below_then HB2.out HB2.out.size HBB.out)) HPC.out AE.out).mono ?_
 rintro e w9_ ⟨v7_, rfl, ho0_, hb⟩
 refine ⟨_, rfl, ?_⟩
 obtain ⟨A7, c7, ev_⟩ := Kd.R_slice ho0_
 subst ev_
 have HF := Aside0.mk (Kd.FK_of_M (k60_mkM _ _ _ (⟨e0, e1, e2, e3, e4, e5, e6, e7⟩ : S60) (Kd.R_mono (ok' := fun k_ => w8_.heap.size ≤ k_) (Kd.R_bound ho0_) (fun _ hk_ => hk_.2.1))))
 clear ho0_
 replace HQ := Aside0.mk (QS_below HQ.out hb)
 replace BK4 := Aside0.mk (bb_ BK4.out hb)
 replace HBB := Aside0.mk (below_then HBB.out HBB.out.size hb)
 clear hb
 refine hK.out _ _ ⟨blk4_ BK4.out, blk8_ ((HBB.out.block gbp Gp.out).trans BKp.out)⟩ (fun hHeld => ?_)
 clear hK K
 refine norm_ (a' := ?_) ?_ ?_
 rotate_left
 ·show Act.put _ (some 27) _ = _
  simp only [pS]
  rfl
 refine one_ (i := 4) (N := some 28) #[T, T, T, T, T, F, F, F] rfl rfl (by kernel_rfl) (by decide) (fun K hK => ?_)
 refine value_ (w1 := ?_) (v := ?_) (by rfl) rfl ?_ ?_
 rotate_left 2
 ·go_simp
  constructor
  ·rfl
  ·rfl
 refine hK.out _ _ ⟨blk4_ (bl_ BK4.out _), blk8_ (bl_ ((HBB.out.block gbp Gp.out).trans BKp.out) _)⟩ (fun hHeld => ?_)
 clear hK K
 refine norm_ (a' := ?_) ?_ ?_
 rotate_left
 ·show Act.put _ (some 28) _ = _
  simp only [pS]
  rfl
 have hgl := blk_lt BK4.out
 refine one_ (i := 5) (N := some 29) #[T, T, T, T, T, T, F, F] rfl rfl (by kernel_rfl) (by decide) (fun K hK => ?_)
 refine Kd.N_append_step k60 (w0 := w2_) w2_.heap.size (by rfl) (.tmp 25) (.tmp 28) 27 60 (.agg #[(.int .i64 0), (.int .i64 0), (.int .i64 0), (.int .i64 0), (.int .i64 0), (.int .i64 0), (.int .i64 0), (.slice none 0 0)]) 80 rfl Try.underlying27 info60 rfl (by decide) (by omega) (.slice B0 t0.length d0) t0 (⟨e0, e1, e2, e3, e4, e5, e6, e7⟩ : S60) [.int .i64 e0, .int .i64 e1, .int .i64 e2, .int .i64 e3, .int .i64 e4, .int .i64 e5, .int .i64 e6, .slice A7 e7.length c7] (fun k_ => (w2_.heap.size ≤ k_ ∧ some k_ ≠ (.slice B1 t1.length d1 : Value).ownBlock ∧ some k_ ≠ (.slice B2 t2.length d2 : Value).ownBlock ∧ some k_ ≠ (.slice B3 t3.length d3 : Value).ownBlock) ∧ k_ ≠ gb4) (fun k_ => w8_.heap.size ≤ k_) rfl rfl HF.out ?aQ ?aF HQ.out.n0 HBB.out HBB.out.size ?aL ?_
 case aQ => exact fun k_ hk_ => ⟨⟨⟨Nat.le_trans N0.out.2.2.2.2.2 hk_, Kd.fresh' N0.out.2.1 k_ hk_, Kd.fresh' N0.out.2.2.1 k_ hk_, Kd.fresh' N0.out.2.2.2.1 k_ hk_⟩, fun e_ => by have h1 := N0.out.2.2.2.2.1; have h2 : w8_.heap.size ≤ k_ := hk_; omega⟩, Kd.fresh' N0.out.1 k_ hk_⟩
 case aF => exact fun k_ hk_ => ⟨⟨Nat.le_trans HBB.out.size hk_, Kd.fresh' (Kd.R_lt HQ.out.r1) k_ hk_, Kd.fresh' (Kd.R_lt HQ.out.r2) k_ hk_, Kd.fresh' (Kd.N_lt HQ.out.n3) k_ hk_⟩, fun e_ => by omega⟩
 case aL => have := HL.out; omega
 intro v_ w10_ ho hbb hgr hat
 obtain ⟨B4, d4, ev_⟩ := Kd.N_slice ho
 subst ev_
 have n0_ := HQ.out.n0.1
 replace BK4 := Aside0.mk (blk_grown BK4.out hgr (fun e_ => (n0_ gb4 e_.symm).2 rfl))
 replace HQ := Aside0.mk (QS_append0 HQ.out hgr hat ho)
 replace HBB := Aside0.mk hbb
 clear hgl n0_ ho hbb hgr hat HF N0
 refine hK.out _ _ ⟨blk4_ BK4.out, blk8_ ((HBB.out.block gbp Gp.out).trans BKp.out)⟩ (fun hHeld => ?_)
 clear hK K
 refine norm_ (a' := ?_) ?_ ?_
 rotate_left
 ·show Act.put _ (some 29) _ = _
  simp only [pS]
  rfl
 refine pure_ (i := 6) (N := some 30) (v := ?_) (a' := ?_) #[T, T, T, T, T, T, T, F] rfl rfl (by kernel_rfl) (fun _ _ _ h => h) (Or.inl ⟨by rfl, ?_⟩) ?_ ?_
 rotate_left
 ·intro w'
  go_simp
  with_reducible rfl
 rotate_left
 ·simp only [pS]
  rfl
 obtain ⟨p0, p1, p2, p3⟩ := blk4_ BK4.out
 have f0_ := bf_ BK4.out 0
 obtain ⟨w11_, hw⟩ : ∃ q_ : World, q_ = (w10_.setCell ⟨gb4, 0, none⟩ (.slice B4 (t0 ++ [(⟨e0, e1, e2, e3, e4, e5, e6, e7⟩ : S60)]).length d4)) := ⟨_, rfl⟩
 refine last_ (i := 7) (N := none) #[T, T, T, T, T, T, T, T] rfl rfl (by kernel_rfl) (by decide) (fun K hK => ?_)
 refine skip_ (w1 := w11_) (by rfl) rfl ?_ ?_
 ·rw [hw]; go_simp; try rfl
 refine hK.out _ _ ?_
 clear hK K f0_
 replace HBB := Aside0.mk (show Below w2_.heap.size w2_ w11_ from (by rw [hw]; exact (bs_ HBB.out G4.out)))
 replace HQ := Aside0.mk (show QS w11_ w2_.heap.size gb4 (.slice B4 (t0 ++ [(⟨e0, e1, e2, e3, e4, e5, e6, e7⟩ : S60)]).length d4) (.slice B1 t1.length d1) (.slice B2 t2.length d2) (.slice B3 t3.length d3) _ t1 t2 t3 from (by rw [hw]; exact (QS_far HQ.out _ _)))
 replace BK4 := Aside0.mk (show w11_.heap[gb4]? = some (.cells #[.slice B4 (t0 ++ [(⟨e0, e1, e2, e3, e4, e5, e6, e7⟩ : S60)]).length d4, .slice B1 t1.length d1, .slice B2 t2.length d2, .slice B3 t3.length d3] 53 (0, 0)) from (by rw [hw]; exact (bp_ (cs := #[.slice B0 t0.length d0, .slice B1 t1.length d1, .slice B2 t2.length d2, .slice B3 t3.length d3]) BK4.out 0 _ rfl)))
 clear hw p0 p1 p2 p3
 refine done_ (by kernel_rfl) ?_
 obtain ⟨p0, p1, p2, p3⟩ := blk4_ BK4.out
 obtain ⟨s0, s1, s2, s3⟩ := blk4_ ((HBB.out.block gb2 G2.out).trans BK2.out)
 go_wp2_with (first | ((with_reducible refine gs_ (t := 53) (p := 4) rfl ?_); have f0_ := bf_ ((HBB.out.block gb2 G2.out).trans BK2.out) 0; have f1_ := bf_ ((HBB.out.block gb2 G2.out).trans BK2.out) 1; have f2_ := bf_ ((HBB.out.block gb2 G2.out).trans BK2.out) 2; have f3_ := bf_ ((HBB.out.block gb2 G2.out).trans BK2.out) 3; refine se_ (t := 53) (p := 4) (v := ?vo_10) (w1 := ((((w11_.setCell ⟨gb2, 0, none⟩ (.slice B4 (t0 ++ [(⟨e0, e1, e2, e3, e4, e5, e6, e7⟩ : S60)]).length d4)).setCell ⟨gb2, 1, none⟩ (.slice B1 t1.length d1)).setCell ⟨gb2, 2, none⟩ (.slice B2 t2.length d2)).setCell ⟨gb2, 3, none⟩ (.slice B3 t3.length d3))) ?hg ?ho ?hn ?hr ?_; (case ho => rfl); (case hg => rfl); (case hn => rfl); (case hr => first | (go_simp; done) | (go_simp; rfl)); intro wz_ hw; clear f0_ f1_ f2_ f3_; replace HQ := Aside0.mk (show QS wz_ w2_.heap.size gb4 (.slice B4 (t0 ++ [(⟨e0, e1, e2, e3, e4, e5, e6, e7⟩ : S60)]).length d4) (.slice B1 t1.length d1) (.slice B2 t2.length d2) (.slice B3 t3.length d3) (t0 ++ [(⟨e0, e1, e2, e3, e4, e5, e6, e7⟩ : S60)]) t1 t2 t3 from (by rw [hw]; exact (QS_low (QS_low (QS_low (QS_low HQ.out G2.out _ _) G2.out _ _) G2.out _ _) G2.out _ _))); have HZ := Aside0.mk (show Below w.heap.size w wz_ from (by rw [hw]; exact (bs_ (bs_ (bs_ (bs_ (below_then HB2.out HB2.out.size HBB.out) GE2.out) GE2.out) GE2.out) GE2.out))); have BKZ := Aside0.mk (show wz_.heap[gb2]? = some (.cells #[.slice B4 (t0 ++ [(⟨e0, e1, e2, e3, e4, e5, e6, e7⟩ : S60)]).length d4, .slice B1 t1.length d1, .slice B2 t2.length d2, .slice B3 t3.length d3] 53 (0, 0)) from (by rw [hw]; exact (bp_ (cs := #[.slice B4 (t0 ++ [(⟨e0, e1, e2, e3, e4, e5, e6, e7⟩ : S60)]).length d4, .slice B1 t1.length d1, .slice B2 t2.length d2, .slice none 0 0]) (bp_ (cs := #[.slice B4 (t0 ++ [(⟨e0, e1, e2, e3, e4, e5, e6, e7⟩ : S60)]).length d4, .slice B1 t1.length d1, .slice none 0 0, .slice none 0 0]) (bp_ (cs := #[.slice B4 (t0 ++ [(⟨e0, e1, e2, e3, e4, e5, e6, e7⟩ : S60)]).length d4, .slice none 0 0, .slice none 0 0, .slice none 0 0]) (bp_ (cs := #[.slice none 0 0, .slice none 0 0, .slice none 0 0, .slice none 0 0]) ((HBB.out.block gb2 G2.out).trans BK2.out) 0 _ rfl) 1 _ rfl) 2 _ rfl) 3 _ rfl))); clear hw s0 s1 s2 s3))
 refine bodyPost_ret (results_ct rfl _ _ gb2 53 #[.slice B4 (t0 ++ [(⟨e0, e1, e2, e3, e4, e5, e6, e7⟩ : S60)]).length d4, .slice B1 t1.length d1, .slice B2 t2.length d2, .slice B3 t3.length d3] (0, 0) _ rfl BKZ.out Try.underlying53 rfl (by kernel_rfl)) rfl ?_
 exact ⟨_, _, _, _, rfl, Kd.N_lower (Kd.N_mono HQ.out.n0 (fun _ hk => ⟨hk.1.2, Nat.le_trans HB2.out.size hk.1.1, trivial⟩)) HB2.out.size, Kd.R_lower (Kd.R_mono HQ.out.r1 (fun _ hk => hk.1.2.2.1)) HB2.out.size, Kd.R_lower (Kd.R_mono HQ.out.r2 (fun _ hk => hk.1.2.2.1)) HB2.out.size, Kd.N_lower (Kd.N_mono HQ.out.n3 (fun _ hk => ⟨hk.1.2, Nat.le_trans HB2.out.size hk.1.1, trivial⟩)) HB2.out.size, HZ.out⟩
/-! ### laws_btoi: function 38 -/
def laws_btoi.f (a0 : Bool) : Option (Int) := if a0 = true then (some 1) else (some 0)
set_option maxHeartbeats 8000000 in
set_option maxRecDepth 100000 in
theorem laws_btoi.calls (a0 : Bool) (r : Int) (w : World) (h : laws_btoi.f a0 = some r) :
  Calls Try.prog 38 #[.bool a0] w fun e w' => e = .returned (.int .i64 r) ∧ Drawn0 w w' := by
 have H : (if a0 = true then (some 1) else (some 0)) = some r := h
 clear h
 by_cases c2 : a0 = true
 ·subst c2
  have H1 : (some 1) = some r := by rw [if_pos rfl] at H; exact H
  clear H
  have H := H1
  clear H1
  obtain rfl := Option.some.inj H
  go_enter Try.func38, Try.ntmps38
  go_wp2
  go_ret
  exact ⟨by first | rfl | (simp; done) | (simp [*]; done), by repeat (first | exact Drawn0.refl _ | apply Drawn0.step)⟩
 ·replace c2 := Bool.eq_false_iff.mpr c2
  subst c2
  have H1 : (some 0) = some r := by rw [if_neg (show ¬ (false = true) by decide)] at H; exact H
  clear H
  have H := H1
  clear H1
  obtain rfl := Option.some.inj H
  go_enter Try.func38, Try.ntmps38
  go_wp2
  go_ret
  exact ⟨by first | rfl | (simp; done) | (simp [*]; done), by repeat (first | exact Drawn0.refl _ | apply Drawn0.step)⟩

end Go.Proofs.Ytbdehpmfemgooaa.PFnBlocked
