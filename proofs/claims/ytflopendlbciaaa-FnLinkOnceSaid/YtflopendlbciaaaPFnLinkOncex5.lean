-- Written by a program of this session (wip/xp): not trusted, Lean checks it.
import Derived.Test.YtflopendlbciaaaPFnLinkOncex0
import Derived.Test.YtflopendlbciaaaPFnLinkOncex1
import Derived.Test.YtflopendlbciaaaPFnLinkOncex2
import Derived.Test.YtflopendlbciaaaPFnLinkOncex3
import Derived.Test.YtflopendlbciaaaPFnLinkOncex4
namespace Go.Proofs.Ytflopendlbciaaa.PFnLinkOnce
open Go.RowKit Go.Proofs.YtflopendlbciaaaW.PrintWords Go.Proofs.YtflopendlbciaaaW.PrintLast Go.Proofs.YtflopendlbciaaaW.PrintMore
attribute [local go_sem] max2_int min2_int max_two min_two max_three min_three max_four min_four   -- for this text's walks alone
set_option linter.unusedVariables false
set_option linter.unusedSimpArgs false

/-! ### impl_LinkOk: function 14 -/
def impl_LinkOk.f (k : Nat) (a0_0 : Int) (l0_1 : List (S68)) (a0_2 : Int) (a0_3 : Int) (l0_4 : List (List Int)) (l0_5 : List (List Int)) (l0_6 : List Int) : Option (Bool) := (impl_SenderOk.f k a0_0 l0_1 a0_2).bind fun t234 => (if t234 = true then ((impl_ReceiverOk.f k a0_3 l0_4).bind fun t235 => (if t235 = true then ((impl_areLists.f k l0_5).bind fun t236 => (if t236 = true then (if (l0_5.length : Int) ≤ 8 then (if (l0_6.length : Int) ≤ 8 then ((slices_ContainsFunc_int_int__impl_LinkOk_1.f k l0_6).bind fun t237 => (some (!t237))) else (some false)) else (some false)) else (some false))) else (some false))) else (some false))
set_option maxHeartbeats 8000000 in
set_option maxRecDepth 100000 in
theorem impl_LinkOk.calls (k : Nat) (a0_0 : Int) (A0_1 : Option Addr) (c0_1 : Nat) (l0_1 : List (S68)) (a0_2 : Int) (a0_3 : Int) (A0_4 : Option Addr) (c0_4 : Nat) (l0_4 : List (List Int)) (A0_5 : Option Addr) (c0_5 : Nat) (l0_5 : List (List Int)) (A0_6 : Option Addr) (c0_6 : Nat) (l0_6 : List Int) (r : Bool) (w : World) (hr0_1 : Kd.C k68 w A0_1 l0_1.length l0_1) (hc0_1 : l0_1.length ≤ c0_1) (hr0_4 : Kd.C (Kd.slice 3 (Kd.int .i64)) w A0_4 l0_4.length l0_4) (hc0_4 : l0_4.length ≤ c0_4) (hr0_5 : Kd.C (Kd.slice 3 (Kd.int .i64)) w A0_5 l0_5.length l0_5) (hc0_5 : l0_5.length ≤ c0_5) (hr0_6 : Kd.C (Kd.int .i64) w A0_6 l0_6.length l0_6) (hc0_6 : l0_6.length ≤ c0_6) (h : impl_LinkOk.f k a0_0 l0_1 a0_2 a0_3 l0_4 l0_5 l0_6 = some r) :
  Calls Try.prog 14 #[.agg #[.int .i64 a0_0, .slice A0_1 l0_1.length c0_1, .int .i64 a0_2, .int .i64 a0_3, .slice A0_4 l0_4.length c0_4, .slice A0_5 l0_5.length c0_5, .slice A0_6 l0_6.length c0_6]] w fun e w' => e = .returned (.bool r) ∧ Below w.heap.size w w' := by
 have hu34 := Try.underlying34
 have hu28 := Try.underlying28
 have hu31 := Try.underlying31
 have HR0_1 := A_.mk hr0_1
 have HC0_1 := A_.mk hc0_1
 clear hr0_1 hc0_1
 have HR0_4 := A_.mk hr0_4
 have HC0_4 := A_.mk hc0_4
 clear hr0_4 hc0_4
 have HR0_5 := A_.mk hr0_5
 have HC0_5 := A_.mk hc0_5
 clear hr0_5 hc0_5
 have HR0_6 := A_.mk hr0_6
 have HC0_6 := A_.mk hc0_6
 clear hr0_6 hc0_6
 have HB := A_.mk (Below.refl w.heap.size w)
 have H : ((impl_SenderOk.f k a0_0 l0_1 a0_2).bind fun t234 => (if t234 = true then ((impl_ReceiverOk.f k a0_3 l0_4).bind fun t235 => (if t235 = true then ((impl_areLists.f k l0_5).bind fun t236 => (if t236 = true then (if (l0_5.length : Int) ≤ 8 then (if (l0_6.length : Int) ≤ 8 then ((slices_ContainsFunc_int_int__impl_LinkOk_1.f k l0_6).bind fun t237 => (some (!t237))) else (some false)) else (some false)) else (some false))) else (some false))) else (some false))) = some r := h
 clear h
 replace H := ob_ H
 obtain ⟨t234, A20, H⟩ := H
 have A2 := A_.mk A20
 clear A20
 by_cases c3 : t234 = true
 rotate_left
 ·replace c3 := Bool.eq_false_iff.mpr c3
  subst c3
  have H1 : (some false) = some r := by rw [if_neg (show ¬ (false = true) by decide)] at H; exact H
  clear H
  have H := H1
  clear H1
  obtain rfl := Option.some.inj H
  go_enter Try.func14, Try.ntmps14
  go_wp2_with (first | ((with_reducible refine gd_ (N := 1) rfl ?_); (try (refine gate_guard (by rfl) ?_; dsimp only)); refine by_ 1 (cs := #[.int .i64 a0_0, .slice A0_1 l0_1.length c0_1, .int .i64 a0_2, .int .i64 a0_3, .slice A0_4 l0_4.length c0_4, .slice A0_5 l0_5.length c0_5, .slice A0_6 l0_6.length c0_6]) (t := 34) ?_; intro gb233 hg w40 hbox hb; have n0_ := A_.mk (bt_ (beY HB.out) hb); have n1_ := A_.mk (hbox); have n2_ := A_.mk ((by rw [hg]; exact (bz_ (beY HB.out)) : w.heap.size ≤ gb233)); have n3_ := A_.mk ((by rw [hg]; exact (bz_ (beY HB.out)) : w.heap.size ≤ gb233)); clear HB; have HB := n0_; have BK233 := n1_; have GW233 := n2_; have GE233 := n3_; clear n0_ n1_ n2_ n3_ hb hbox hg; have hcz41_0 : w40.cell? ⟨gb233, 0, none⟩ = some (.int .i64 a0_0) := (bc_ BK233.out 0).trans rfl; have hcz41_1 : w40.cell? ⟨gb233, 1, none⟩ = some (.slice A0_1 l0_1.length c0_1) := (bc_ BK233.out 1).trans rfl; have hcz41_2 : w40.cell? ⟨gb233, 2, none⟩ = some (.int .i64 a0_2) := (bc_ BK233.out 2).trans rfl; have hcz41_3 : w40.cell? ⟨gb233, 3, none⟩ = some (.int .i64 a0_3) := (bc_ BK233.out 3).trans rfl; have hcz41_4 : w40.cell? ⟨gb233, 4, none⟩ = some (.slice A0_4 l0_4.length c0_4) := (bc_ BK233.out 4).trans rfl; have hcz41_5 : w40.cell? ⟨gb233, 5, none⟩ = some (.slice A0_5 l0_5.length c0_5) := (bc_ BK233.out 5).trans rfl; have hcz41_6 : w40.cell? ⟨gb233, 6, none⟩ = some (.slice A0_6 l0_6.length c0_6) := (bc_ BK233.out 6).trans rfl; have hfz41_0 := bf_ BK233.out 0; have hfz41_1 := bf_ BK233.out 1; have hfz41_2 := bf_ BK233.out 2; have hfz41_3 := bf_ BK233.out 3; have hfz41_4 := bf_ BK233.out 4; have hfz41_5 := bf_ BK233.out 5; have hfz41_6 := bf_ BK233.out 6) | ((with_reducible refine gc_ (f := 25) rfl ?_); refine gl_ (some 5) Try.func25 #[.agg #[.int .i64 a0_0, .slice A0_1 l0_1.length c0_1, .int .i64 a0_2]] ?_; (with_reducible refine (impl_SenderOk.calls k a0_0 _ _ l0_1 a0_2 false _ ?side1 ?side2 A2.out).mono ?_); (case side1 => exact cY ((Kd.C_below HR0_1.out HB.out))); (case side2 => exact HC0_1.out); rintro e w42 ⟨rfl, hb⟩; refine ⟨_, rfl, ?_⟩; have n0_ := A_.mk (bb_ (bY BK233.out) hb); have n1_ := A_.mk (bt_ (by repeat (first | (with_reducible first | exact HB.out | apply ba_ | apply bd_ | apply be_ | refine bs_ ?_ GE233.out) | exact HB.out)) hb); clear BK233 HB; have BK233 := n0_; have HB := n1_; clear n0_ n1_; (try clear hb); (try clear hb2); (try clear hk); (try clear hi)))
  go_ret
  exact ⟨by first | rfl | (simp [errW_none, errW_some] <;> rfl) | (simp [*, errW_none, errW_some] <;> rfl), by repeat (first | (with_reducible first | exact HB.out | apply ba_ | apply bd_ | apply be_ | refine bs_ ?_ GE233.out) | exact HB.out)⟩
 subst c3
 have H1 : ((impl_ReceiverOk.f k a0_3 l0_4).bind fun t235 => (if t235 = true then ((impl_areLists.f k l0_5).bind fun t236 => (if t236 = true then (if (l0_5.length : Int) ≤ 8 then (if (l0_6.length : Int) ≤ 8 then ((slices_ContainsFunc_int_int__impl_LinkOk_1.f k l0_6).bind fun t237 => (some (!t237))) else (some false)) else (some false)) else (some false))) else (some false))) = some r := by rw [if_pos rfl] at H; exact H
 clear H
 have H := H1
 clear H1
 replace H := ob_ H
 obtain ⟨t235, A40, H⟩ := H
 have A4 := A_.mk A40
 clear A40
 by_cases c5 : t235 = true
 rotate_left
 ·replace c5 := Bool.eq_false_iff.mpr c5
  subst c5
  have H1 : (some false) = some r := by rw [if_neg (show ¬ (false = true) by decide)] at H; exact H
  clear H
  have H := H1
  clear H1
  obtain rfl := Option.some.inj H
  go_enter Try.func14, Try.ntmps14
  go_wp2_with (first | ((with_reducible refine gd_ (N := 1) rfl ?_); (try (refine gate_guard (by rfl) ?_; dsimp only)); refine by_ 1 (cs := #[.int .i64 a0_0, .slice A0_1 l0_1.length c0_1, .int .i64 a0_2, .int .i64 a0_3, .slice A0_4 l0_4.length c0_4, .slice A0_5 l0_5.length c0_5, .slice A0_6 l0_6.length c0_6]) (t := 34) ?_; intro gb233 hg w35 hbox hb; have n0_ := A_.mk (bt_ (beY HB.out) hb); have n1_ := A_.mk (hbox); have n2_ := A_.mk ((by rw [hg]; exact (bz_ (beY HB.out)) : w.heap.size ≤ gb233)); have n3_ := A_.mk ((by rw [hg]; exact (bz_ (beY HB.out)) : w.heap.size ≤ gb233)); clear HB; have HB := n0_; have BK233 := n1_; have GW233 := n2_; have GE233 := n3_; clear n0_ n1_ n2_ n3_ hb hbox hg; have hcz36_0 : w35.cell? ⟨gb233, 0, none⟩ = some (.int .i64 a0_0) := (bc_ BK233.out 0).trans rfl; have hcz36_1 : w35.cell? ⟨gb233, 1, none⟩ = some (.slice A0_1 l0_1.length c0_1) := (bc_ BK233.out 1).trans rfl; have hcz36_2 : w35.cell? ⟨gb233, 2, none⟩ = some (.int .i64 a0_2) := (bc_ BK233.out 2).trans rfl; have hcz36_3 : w35.cell? ⟨gb233, 3, none⟩ = some (.int .i64 a0_3) := (bc_ BK233.out 3).trans rfl; have hcz36_4 : w35.cell? ⟨gb233, 4, none⟩ = some (.slice A0_4 l0_4.length c0_4) := (bc_ BK233.out 4).trans rfl; have hcz36_5 : w35.cell? ⟨gb233, 5, none⟩ = some (.slice A0_5 l0_5.length c0_5) := (bc_ BK233.out 5).trans rfl; have hcz36_6 : w35.cell? ⟨gb233, 6, none⟩ = some (.slice A0_6 l0_6.length c0_6) := (bc_ BK233.out 6).trans rfl; have hfz36_0 := bf_ BK233.out 0; have hfz36_1 := bf_ BK233.out 1; have hfz36_2 := bf_ BK233.out 2; have hfz36_3 := bf_ BK233.out 3; have hfz36_4 := bf_ BK233.out 4; have hfz36_5 := bf_ BK233.out 5; have hfz36_6 := bf_ BK233.out 6) | ((with_reducible refine gc_ (f := 25) rfl ?_); refine gl_ (some 5) Try.func25 #[.agg #[.int .i64 a0_0, .slice A0_1 l0_1.length c0_1, .int .i64 a0_2]] ?_; (with_reducible refine (impl_SenderOk.calls k a0_0 _ _ l0_1 a0_2 true _ ?side1 ?side2 A2.out).mono ?_); (case side1 => exact cY ((Kd.C_below HR0_1.out HB.out))); (case side2 => exact HC0_1.out); rintro e w37 ⟨rfl, hb⟩; refine ⟨_, rfl, ?_⟩; have n0_ := A_.mk (bb_ (bY BK233.out) hb); have n1_ := A_.mk (bt_ (by repeat (first | (with_reducible first | exact HB.out | apply ba_ | apply bd_ | apply be_ | refine bs_ ?_ GE233.out) | exact HB.out)) hb); clear BK233 HB; have BK233 := n0_; have HB := n1_; clear n0_ n1_; (try clear hb); (try clear hb2); (try clear hk); (try clear hi); have hcz38_0 : w37.cell? ⟨gb233, 0, none⟩ = some (.int .i64 a0_0) := (bc_ BK233.out 0).trans rfl; have hcz38_1 : w37.cell? ⟨gb233, 1, none⟩ = some (.slice A0_1 l0_1.length c0_1) := (bc_ BK233.out 1).trans rfl; have hcz38_2 : w37.cell? ⟨gb233, 2, none⟩ = some (.int .i64 a0_2) := (bc_ BK233.out 2).trans rfl; have hcz38_3 : w37.cell? ⟨gb233, 3, none⟩ = some (.int .i64 a0_3) := (bc_ BK233.out 3).trans rfl; have hcz38_4 : w37.cell? ⟨gb233, 4, none⟩ = some (.slice A0_4 l0_4.length c0_4) := (bc_ BK233.out 4).trans rfl; have hcz38_5 : w37.cell? ⟨gb233, 5, none⟩ = some (.slice A0_5 l0_5.length c0_5) := (bc_ BK233.out 5).trans rfl; have hcz38_6 : w37.cell? ⟨gb233, 6, none⟩ = some (.slice A0_6 l0_6.length c0_6) := (bc_ BK233.out 6).trans rfl; have hfz38_0 := bf_ BK233.out 0; have hfz38_1 := bf_ BK233.out 1; have hfz38_2 := bf_ BK233.out 2; have hfz38_3 := bf_ BK233.out 3; have hfz38_4 := bf_ BK233.out 4; have hfz38_5 := bf_ BK233.out 5; have hfz38_6 := bf_ BK233.out 6) | (go_at_call 26; (with_reducible refine (impl_ReceiverOk.calls k a0_3 _ _ l0_4 false _ ?side1 ?side2 A4.out).mono ?_); (case side1 => exact cY ((Kd.C_below HR0_4.out HB.out))); (case side2 => exact HC0_4.out); rintro e w39 ⟨rfl, hb⟩; have n0_ := A_.mk (bb_ (bY BK233.out) hb); have n1_ := A_.mk (bt_ (by repeat (first | (with_reducible first | exact HB.out | apply ba_ | apply bd_ | apply be_ | refine bs_ ?_ GE233.out) | exact HB.out)) hb); clear BK233 HB; have BK233 := n0_; have HB := n1_; clear n0_ n1_; (try clear hb); (try clear hb2); (try clear hk); (try clear hi)))
  go_ret
  exact ⟨by first | rfl | (simp [errW_none, errW_some] <;> rfl) | (simp [*, errW_none, errW_some] <;> rfl), by repeat (first | (with_reducible first | exact HB.out | apply ba_ | apply bd_ | apply be_ | refine bs_ ?_ GE233.out) | exact HB.out)⟩
 subst c5
 have H1 : ((impl_areLists.f k l0_5).bind fun t236 => (if t236 = true then (if (l0_5.length : Int) ≤ 8 then (if (l0_6.length : Int) ≤ 8 then ((slices_ContainsFunc_int_int__impl_LinkOk_1.f k l0_6).bind fun t237 => (some (!t237))) else (some false)) else (some false)) else (some false))) = some r := by rw [if_pos rfl] at H; exact H
 clear H
 have H := H1
 clear H1
 replace H := ob_ H
 obtain ⟨t236, A60, H⟩ := H
 have A6 := A_.mk A60
 clear A60
 by_cases c7 : t236 = true
 rotate_left
 ·replace c7 := Bool.eq_false_iff.mpr c7
  subst c7
  have H1 : (some false) = some r := by rw [if_neg (show ¬ (false = true) by decide)] at H; exact H
  clear H
  have H := H1
  clear H1
  obtain rfl := Option.some.inj H
  go_enter Try.func14, Try.ntmps14
  go_wp2_with (first | ((with_reducible refine gd_ (N := 1) rfl ?_); (try (refine gate_guard (by rfl) ?_; dsimp only)); refine by_ 1 (cs := #[.int .i64 a0_0, .slice A0_1 l0_1.length c0_1, .int .i64 a0_2, .int .i64 a0_3, .slice A0_4 l0_4.length c0_4, .slice A0_5 l0_5.length c0_5, .slice A0_6 l0_6.length c0_6]) (t := 34) ?_; intro gb233 hg w29 hbox hb; have n0_ := A_.mk (bt_ (beY HB.out) hb); have n1_ := A_.mk (hbox); have n2_ := A_.mk ((by rw [hg]; exact (bz_ (beY HB.out)) : w.heap.size ≤ gb233)); have n3_ := A_.mk ((by rw [hg]; exact (bz_ (beY HB.out)) : w.heap.size ≤ gb233)); clear HB; have HB := n0_; have BK233 := n1_; have GW233 := n2_; have GE233 := n3_; clear n0_ n1_ n2_ n3_ hb hbox hg; have hcz30_0 : w29.cell? ⟨gb233, 0, none⟩ = some (.int .i64 a0_0) := (bc_ BK233.out 0).trans rfl; have hcz30_1 : w29.cell? ⟨gb233, 1, none⟩ = some (.slice A0_1 l0_1.length c0_1) := (bc_ BK233.out 1).trans rfl; have hcz30_2 : w29.cell? ⟨gb233, 2, none⟩ = some (.int .i64 a0_2) := (bc_ BK233.out 2).trans rfl; have hcz30_3 : w29.cell? ⟨gb233, 3, none⟩ = some (.int .i64 a0_3) := (bc_ BK233.out 3).trans rfl; have hcz30_4 : w29.cell? ⟨gb233, 4, none⟩ = some (.slice A0_4 l0_4.length c0_4) := (bc_ BK233.out 4).trans rfl; have hcz30_5 : w29.cell? ⟨gb233, 5, none⟩ = some (.slice A0_5 l0_5.length c0_5) := (bc_ BK233.out 5).trans rfl; have hcz30_6 : w29.cell? ⟨gb233, 6, none⟩ = some (.slice A0_6 l0_6.length c0_6) := (bc_ BK233.out 6).trans rfl; have hfz30_0 := bf_ BK233.out 0; have hfz30_1 := bf_ BK233.out 1; have hfz30_2 := bf_ BK233.out 2; have hfz30_3 := bf_ BK233.out 3; have hfz30_4 := bf_ BK233.out 4; have hfz30_5 := bf_ BK233.out 5; have hfz30_6 := bf_ BK233.out 6) | ((with_reducible refine gc_ (f := 25) rfl ?_); refine gl_ (some 5) Try.func25 #[.agg #[.int .i64 a0_0, .slice A0_1 l0_1.length c0_1, .int .i64 a0_2]] ?_; (with_reducible refine (impl_SenderOk.calls k a0_0 _ _ l0_1 a0_2 true _ ?side1 ?side2 A2.out).mono ?_); (case side1 => exact cY ((Kd.C_below HR0_1.out HB.out))); (case side2 => exact HC0_1.out); rintro e w31 ⟨rfl, hb⟩; refine ⟨_, rfl, ?_⟩; have n0_ := A_.mk (bb_ (bY BK233.out) hb); have n1_ := A_.mk (bt_ (by repeat (first | (with_reducible first | exact HB.out | apply ba_ | apply bd_ | apply be_ | refine bs_ ?_ GE233.out) | exact HB.out)) hb); clear BK233 HB; have BK233 := n0_; have HB := n1_; clear n0_ n1_; (try clear hb); (try clear hb2); (try clear hk); (try clear hi); have hcz32_0 : w31.cell? ⟨gb233, 0, none⟩ = some (.int .i64 a0_0) := (bc_ BK233.out 0).trans rfl; have hcz32_1 : w31.cell? ⟨gb233, 1, none⟩ = some (.slice A0_1 l0_1.length c0_1) := (bc_ BK233.out 1).trans rfl; have hcz32_2 : w31.cell? ⟨gb233, 2, none⟩ = some (.int .i64 a0_2) := (bc_ BK233.out 2).trans rfl; have hcz32_3 : w31.cell? ⟨gb233, 3, none⟩ = some (.int .i64 a0_3) := (bc_ BK233.out 3).trans rfl; have hcz32_4 : w31.cell? ⟨gb233, 4, none⟩ = some (.slice A0_4 l0_4.length c0_4) := (bc_ BK233.out 4).trans rfl; have hcz32_5 : w31.cell? ⟨gb233, 5, none⟩ = some (.slice A0_5 l0_5.length c0_5) := (bc_ BK233.out 5).trans rfl; have hcz32_6 : w31.cell? ⟨gb233, 6, none⟩ = some (.slice A0_6 l0_6.length c0_6) := (bc_ BK233.out 6).trans rfl; have hfz32_0 := bf_ BK233.out 0; have hfz32_1 := bf_ BK233.out 1; have hfz32_2 := bf_ BK233.out 2; have hfz32_3 := bf_ BK233.out 3; have hfz32_4 := bf_ BK233.out 4; have hfz32_5 := bf_ BK233.out 5; have hfz32_6 := bf_ BK233.out 6) | (go_at_call 26; (with_reducible refine (impl_ReceiverOk.calls k a0_3 _ _ l0_4 true _ ?side1 ?side2 A4.out).mono ?_); (case side1 => exact cY ((Kd.C_below HR0_4.out HB.out))); (case side2 => exact HC0_4.out); rintro e w33 ⟨rfl, hb⟩; have n0_ := A_.mk (bb_ (bY BK233.out) hb); have n1_ := A_.mk (bt_ (by repeat (first | (with_reducible first | exact HB.out | apply ba_ | apply bd_ | apply be_ | refine bs_ ?_ GE233.out) | exact HB.out)) hb); clear BK233 HB; have BK233 := n0_; have HB := n1_; clear n0_ n1_; (try clear hb); (try clear hb2); (try clear hk); (try clear hi); have hcz34_0 : w33.cell? ⟨gb233, 0, none⟩ = some (.int .i64 a0_0) := (bc_ BK233.out 0).trans rfl; have hcz34_1 : w33.cell? ⟨gb233, 1, none⟩ = some (.slice A0_1 l0_1.length c0_1) := (bc_ BK233.out 1).trans rfl; have hcz34_2 : w33.cell? ⟨gb233, 2, none⟩ = some (.int .i64 a0_2) := (bc_ BK233.out 2).trans rfl; have hcz34_3 : w33.cell? ⟨gb233, 3, none⟩ = some (.int .i64 a0_3) := (bc_ BK233.out 3).trans rfl; have hcz34_4 : w33.cell? ⟨gb233, 4, none⟩ = some (.slice A0_4 l0_4.length c0_4) := (bc_ BK233.out 4).trans rfl; have hcz34_5 : w33.cell? ⟨gb233, 5, none⟩ = some (.slice A0_5 l0_5.length c0_5) := (bc_ BK233.out 5).trans rfl; have hcz34_6 : w33.cell? ⟨gb233, 6, none⟩ = some (.slice A0_6 l0_6.length c0_6) := (bc_ BK233.out 6).trans rfl; have hfz34_0 := bf_ BK233.out 0; have hfz34_1 := bf_ BK233.out 1; have hfz34_2 := bf_ BK233.out 2; have hfz34_3 := bf_ BK233.out 3; have hfz34_4 := bf_ BK233.out 4; have hfz34_5 := bf_ BK233.out 5; have hfz34_6 := bf_ BK233.out 6) | (go_at_call 27; (with_reducible refine (impl_areLists.calls k _ _ l0_5 false _ ?side1 ?side2 A6.out).mono ?_); (case side1 => exact cY ((Kd.C_below HR0_5.out HB.out))); (case side2 => exact HC0_5.out); rintro e w' ⟨rfl, ⟨nd, rfl⟩⟩))
  go_ret
  exact ⟨by first | rfl | (simp [errW_none, errW_some] <;> rfl) | (simp [*, errW_none, errW_some] <;> rfl), by repeat (first | (with_reducible first | exact HB.out | apply ba_ | apply bd_ | apply be_ | refine bs_ ?_ GE233.out) | exact HB.out)⟩
 subst c7
 have H1 : (if (l0_5.length : Int) ≤ 8 then (if (l0_6.length : Int) ≤ 8 then ((slices_ContainsFunc_int_int__impl_LinkOk_1.f k l0_6).bind fun t237 => (some (!t237))) else (some false)) else (some false)) = some r := by rw [if_pos rfl] at H; exact H
 clear H
 have H := H1
 clear H1
 by_cases c8 : (l0_5.length : Int) ≤ 8
 rotate_left
 ·rw [if_neg c8] at H
  have c8b0 : decide ((l0_5.length : Int) ≤ 8) = false := decide_eq_false c8
  have c8b1 : decide (l0_5.length ≤ 8) = false := decide_eq_false (by omega)
  clear c8
  obtain rfl := Option.some.inj H
  go_enter Try.func14, Try.ntmps14
  go_wp2_with (first | ((with_reducible refine gd_ (N := 1) rfl ?_); (try (refine gate_guard (by rfl) ?_; dsimp only)); refine by_ 1 (cs := #[.int .i64 a0_0, .slice A0_1 l0_1.length c0_1, .int .i64 a0_2, .int .i64 a0_3, .slice A0_4 l0_4.length c0_4, .slice A0_5 l0_5.length c0_5, .slice A0_6 l0_6.length c0_6]) (t := 34) ?_; intro gb233 hg w23 hbox hb; have n0_ := A_.mk (bt_ (beY HB.out) hb); have n1_ := A_.mk (hbox); have n2_ := A_.mk ((by rw [hg]; exact (bz_ (beY HB.out)) : w.heap.size ≤ gb233)); have n3_ := A_.mk ((by rw [hg]; exact (bz_ (beY HB.out)) : w.heap.size ≤ gb233)); clear HB; have HB := n0_; have BK233 := n1_; have GW233 := n2_; have GE233 := n3_; clear n0_ n1_ n2_ n3_ hb hbox hg; have hcz24_0 : w23.cell? ⟨gb233, 0, none⟩ = some (.int .i64 a0_0) := (bc_ BK233.out 0).trans rfl; have hcz24_1 : w23.cell? ⟨gb233, 1, none⟩ = some (.slice A0_1 l0_1.length c0_1) := (bc_ BK233.out 1).trans rfl; have hcz24_2 : w23.cell? ⟨gb233, 2, none⟩ = some (.int .i64 a0_2) := (bc_ BK233.out 2).trans rfl; have hcz24_3 : w23.cell? ⟨gb233, 3, none⟩ = some (.int .i64 a0_3) := (bc_ BK233.out 3).trans rfl; have hcz24_4 : w23.cell? ⟨gb233, 4, none⟩ = some (.slice A0_4 l0_4.length c0_4) := (bc_ BK233.out 4).trans rfl; have hcz24_5 : w23.cell? ⟨gb233, 5, none⟩ = some (.slice A0_5 l0_5.length c0_5) := (bc_ BK233.out 5).trans rfl; have hcz24_6 : w23.cell? ⟨gb233, 6, none⟩ = some (.slice A0_6 l0_6.length c0_6) := (bc_ BK233.out 6).trans rfl; have hfz24_0 := bf_ BK233.out 0; have hfz24_1 := bf_ BK233.out 1; have hfz24_2 := bf_ BK233.out 2; have hfz24_3 := bf_ BK233.out 3; have hfz24_4 := bf_ BK233.out 4; have hfz24_5 := bf_ BK233.out 5; have hfz24_6 := bf_ BK233.out 6) | ((with_reducible refine gc_ (f := 25) rfl ?_); refine gl_ (some 5) Try.func25 #[.agg #[.int .i64 a0_0, .slice A0_1 l0_1.length c0_1, .int .i64 a0_2]] ?_; (with_reducible refine (impl_SenderOk.calls k a0_0 _ _ l0_1 a0_2 true _ ?side1 ?side2 A2.out).mono ?_); (case side1 => exact cY ((Kd.C_below HR0_1.out HB.out))); (case side2 => exact HC0_1.out); rintro e w25 ⟨rfl, hb⟩; refine ⟨_, rfl, ?_⟩; have n0_ := A_.mk (bb_ (bY BK233.out) hb); have n1_ := A_.mk (bt_ (by repeat (first | (with_reducible first | exact HB.out | apply ba_ | apply bd_ | apply be_ | refine bs_ ?_ GE233.out) | exact HB.out)) hb); clear BK233 HB; have BK233 := n0_; have HB := n1_; clear n0_ n1_; (try clear hb); (try clear hb2); (try clear hk); (try clear hi); have hcz26_0 : w25.cell? ⟨gb233, 0, none⟩ = some (.int .i64 a0_0) := (bc_ BK233.out 0).trans rfl; have hcz26_1 : w25.cell? ⟨gb233, 1, none⟩ = some (.slice A0_1 l0_1.length c0_1) := (bc_ BK233.out 1).trans rfl; have hcz26_2 : w25.cell? ⟨gb233, 2, none⟩ = some (.int .i64 a0_2) := (bc_ BK233.out 2).trans rfl; have hcz26_3 : w25.cell? ⟨gb233, 3, none⟩ = some (.int .i64 a0_3) := (bc_ BK233.out 3).trans rfl; have hcz26_4 : w25.cell? ⟨gb233, 4, none⟩ = some (.slice A0_4 l0_4.length c0_4) := (bc_ BK233.out 4).trans rfl; have hcz26_5 : w25.cell? ⟨gb233, 5, none⟩ = some (.slice A0_5 l0_5.length c0_5) := (bc_ BK233.out 5).trans rfl; have hcz26_6 : w25.cell? ⟨gb233, 6, none⟩ = some (.slice A0_6 l0_6.length c0_6) := (bc_ BK233.out 6).trans rfl; have hfz26_0 := bf_ BK233.out 0; have hfz26_1 := bf_ BK233.out 1; have hfz26_2 := bf_ BK233.out 2; have hfz26_3 := bf_ BK233.out 3; have hfz26_4 := bf_ BK233.out 4; have hfz26_5 := bf_ BK233.out 5; have hfz26_6 := bf_ BK233.out 6) | (go_at_call 26; (with_reducible refine (impl_ReceiverOk.calls k a0_3 _ _ l0_4 true _ ?side1 ?side2 A4.out).mono ?_); (case side1 => exact cY ((Kd.C_below HR0_4.out HB.out))); (case side2 => exact HC0_4.out); rintro e w27 ⟨rfl, hb⟩; have n0_ := A_.mk (bb_ (bY BK233.out) hb); have n1_ := A_.mk (bt_ (by repeat (first | (with_reducible first | exact HB.out | apply ba_ | apply bd_ | apply be_ | refine bs_ ?_ GE233.out) | exact HB.out)) hb); clear BK233 HB; have BK233 := n0_; have HB := n1_; clear n0_ n1_; (try clear hb); (try clear hb2); (try clear hk); (try clear hi); have hcz28_0 : w27.cell? ⟨gb233, 0, none⟩ = some (.int .i64 a0_0) := (bc_ BK233.out 0).trans rfl; have hcz28_1 : w27.cell? ⟨gb233, 1, none⟩ = some (.slice A0_1 l0_1.length c0_1) := (bc_ BK233.out 1).trans rfl; have hcz28_2 : w27.cell? ⟨gb233, 2, none⟩ = some (.int .i64 a0_2) := (bc_ BK233.out 2).trans rfl; have hcz28_3 : w27.cell? ⟨gb233, 3, none⟩ = some (.int .i64 a0_3) := (bc_ BK233.out 3).trans rfl; have hcz28_4 : w27.cell? ⟨gb233, 4, none⟩ = some (.slice A0_4 l0_4.length c0_4) := (bc_ BK233.out 4).trans rfl; have hcz28_5 : w27.cell? ⟨gb233, 5, none⟩ = some (.slice A0_5 l0_5.length c0_5) := (bc_ BK233.out 5).trans rfl; have hcz28_6 : w27.cell? ⟨gb233, 6, none⟩ = some (.slice A0_6 l0_6.length c0_6) := (bc_ BK233.out 6).trans rfl; have hfz28_0 := bf_ BK233.out 0; have hfz28_1 := bf_ BK233.out 1; have hfz28_2 := bf_ BK233.out 2; have hfz28_3 := bf_ BK233.out 3; have hfz28_4 := bf_ BK233.out 4; have hfz28_5 := bf_ BK233.out 5; have hfz28_6 := bf_ BK233.out 6) | (go_at_call 27; (with_reducible refine (impl_areLists.calls k _ _ l0_5 true _ ?side1 ?side2 A6.out).mono ?_); (case side1 => exact cY ((Kd.C_below HR0_5.out HB.out))); (case side2 => exact HC0_5.out); rintro e w' ⟨rfl, ⟨nd, rfl⟩⟩))
  go_ret
  exact ⟨by first | rfl | (simp [errW_none, errW_some] <;> rfl) | (simp [*, errW_none, errW_some] <;> rfl), by repeat (first | (with_reducible first | exact HB.out | apply ba_ | apply bd_ | apply be_ | refine bs_ ?_ GE233.out) | exact HB.out)⟩
 rw [if_pos c8] at H
 have c8b0 : decide ((l0_5.length : Int) ≤ 8) = true := decide_eq_true c8
 have c8b1 : decide (l0_5.length ≤ 8) = true := decide_eq_true (by omega)
 clear c8
 by_cases c9 : (l0_6.length : Int) ≤ 8
 rotate_left
 ·rw [if_neg c9] at H
  have c9b0 : decide ((l0_6.length : Int) ≤ 8) = false := decide_eq_false c9
  have c9b1 : decide (l0_6.length ≤ 8) = false := decide_eq_false (by omega)
  clear c9
  obtain rfl := Option.some.inj H
  go_enter Try.func14, Try.ntmps14
  go_wp2_with (first | ((with_reducible refine gd_ (N := 1) rfl ?_); (try (refine gate_guard (by rfl) ?_; dsimp only)); refine by_ 1 (cs := #[.int .i64 a0_0, .slice A0_1 l0_1.length c0_1, .int .i64 a0_2, .int .i64 a0_3, .slice A0_4 l0_4.length c0_4, .slice A0_5 l0_5.length c0_5, .slice A0_6 l0_6.length c0_6]) (t := 34) ?_; intro gb233 hg w17 hbox hb; have n0_ := A_.mk (bt_ (beY HB.out) hb); have n1_ := A_.mk (hbox); have n2_ := A_.mk ((by rw [hg]; exact (bz_ (beY HB.out)) : w.heap.size ≤ gb233)); have n3_ := A_.mk ((by rw [hg]; exact (bz_ (beY HB.out)) : w.heap.size ≤ gb233)); clear HB; have HB := n0_; have BK233 := n1_; have GW233 := n2_; have GE233 := n3_; clear n0_ n1_ n2_ n3_ hb hbox hg; have hcz18_0 : w17.cell? ⟨gb233, 0, none⟩ = some (.int .i64 a0_0) := (bc_ BK233.out 0).trans rfl; have hcz18_1 : w17.cell? ⟨gb233, 1, none⟩ = some (.slice A0_1 l0_1.length c0_1) := (bc_ BK233.out 1).trans rfl; have hcz18_2 : w17.cell? ⟨gb233, 2, none⟩ = some (.int .i64 a0_2) := (bc_ BK233.out 2).trans rfl; have hcz18_3 : w17.cell? ⟨gb233, 3, none⟩ = some (.int .i64 a0_3) := (bc_ BK233.out 3).trans rfl; have hcz18_4 : w17.cell? ⟨gb233, 4, none⟩ = some (.slice A0_4 l0_4.length c0_4) := (bc_ BK233.out 4).trans rfl; have hcz18_5 : w17.cell? ⟨gb233, 5, none⟩ = some (.slice A0_5 l0_5.length c0_5) := (bc_ BK233.out 5).trans rfl; have hcz18_6 : w17.cell? ⟨gb233, 6, none⟩ = some (.slice A0_6 l0_6.length c0_6) := (bc_ BK233.out 6).trans rfl; have hfz18_0 := bf_ BK233.out 0; have hfz18_1 := bf_ BK233.out 1; have hfz18_2 := bf_ BK233.out 2; have hfz18_3 := bf_ BK233.out 3; have hfz18_4 := bf_ BK233.out 4; have hfz18_5 := bf_ BK233.out 5; have hfz18_6 := bf_ BK233.out 6) | ((with_reducible refine gc_ (f := 25) rfl ?_); refine gl_ (some 5) Try.func25 #[.agg #[.int .i64 a0_0, .slice A0_1 l0_1.length c0_1, .int .i64 a0_2]] ?_; (with_reducible refine (impl_SenderOk.calls k a0_0 _ _ l0_1 a0_2 true _ ?side1 ?side2 A2.out).mono ?_); (case side1 => exact cY ((Kd.C_below HR0_1.out HB.out))); (case side2 => exact HC0_1.out); rintro e w19 ⟨rfl, hb⟩; refine ⟨_, rfl, ?_⟩; have n0_ := A_.mk (bb_ (bY BK233.out) hb); have n1_ := A_.mk (bt_ (by repeat (first | (with_reducible first | exact HB.out | apply ba_ | apply bd_ | apply be_ | refine bs_ ?_ GE233.out) | exact HB.out)) hb); clear BK233 HB; have BK233 := n0_; have HB := n1_; clear n0_ n1_; (try clear hb); (try clear hb2); (try clear hk); (try clear hi); have hcz20_0 : w19.cell? ⟨gb233, 0, none⟩ = some (.int .i64 a0_0) := (bc_ BK233.out 0).trans rfl; have hcz20_1 : w19.cell? ⟨gb233, 1, none⟩ = some (.slice A0_1 l0_1.length c0_1) := (bc_ BK233.out 1).trans rfl; have hcz20_2 : w19.cell? ⟨gb233, 2, none⟩ = some (.int .i64 a0_2) := (bc_ BK233.out 2).trans rfl; have hcz20_3 : w19.cell? ⟨gb233, 3, none⟩ = some (.int .i64 a0_3) := (bc_ BK233.out 3).trans rfl; have hcz20_4 : w19.cell? ⟨gb233, 4, none⟩ = some (.slice A0_4 l0_4.length c0_4) := (bc_ BK233.out 4).trans rfl; have hcz20_5 : w19.cell? ⟨gb233, 5, none⟩ = some (.slice A0_5 l0_5.length c0_5) := (bc_ BK233.out 5).trans rfl; have hcz20_6 : w19.cell? ⟨gb233, 6, none⟩ = some (.slice A0_6 l0_6.length c0_6) := (bc_ BK233.out 6).trans rfl; have hfz20_0 := bf_ BK233.out 0; have hfz20_1 := bf_ BK233.out 1; have hfz20_2 := bf_ BK233.out 2; have hfz20_3 := bf_ BK233.out 3; have hfz20_4 := bf_ BK233.out 4; have hfz20_5 := bf_ BK233.out 5; have hfz20_6 := bf_ BK233.out 6) | (go_at_call 26; (with_reducible refine (impl_ReceiverOk.calls k a0_3 _ _ l0_4 true _ ?side1 ?side2 A4.out).mono ?_); (case side1 => exact cY ((Kd.C_below HR0_4.out HB.out))); (case side2 => exact HC0_4.out); rintro e w21 ⟨rfl, hb⟩; have n0_ := A_.mk (bb_ (bY BK233.out) hb); have n1_ := A_.mk (bt_ (by repeat (first | (with_reducible first | exact HB.out | apply ba_ | apply bd_ | apply be_ | refine bs_ ?_ GE233.out) | exact HB.out)) hb); clear BK233 HB; have BK233 := n0_; have HB := n1_; clear n0_ n1_; (try clear hb); (try clear hb2); (try clear hk); (try clear hi); have hcz22_0 : w21.cell? ⟨gb233, 0, none⟩ = some (.int .i64 a0_0) := (bc_ BK233.out 0).trans rfl; have hcz22_1 : w21.cell? ⟨gb233, 1, none⟩ = some (.slice A0_1 l0_1.length c0_1) := (bc_ BK233.out 1).trans rfl; have hcz22_2 : w21.cell? ⟨gb233, 2, none⟩ = some (.int .i64 a0_2) := (bc_ BK233.out 2).trans rfl; have hcz22_3 : w21.cell? ⟨gb233, 3, none⟩ = some (.int .i64 a0_3) := (bc_ BK233.out 3).trans rfl; have hcz22_4 : w21.cell? ⟨gb233, 4, none⟩ = some (.slice A0_4 l0_4.length c0_4) := (bc_ BK233.out 4).trans rfl; have hcz22_5 : w21.cell? ⟨gb233, 5, none⟩ = some (.slice A0_5 l0_5.length c0_5) := (bc_ BK233.out 5).trans rfl; have hcz22_6 : w21.cell? ⟨gb233, 6, none⟩ = some (.slice A0_6 l0_6.length c0_6) := (bc_ BK233.out 6).trans rfl; have hfz22_0 := bf_ BK233.out 0; have hfz22_1 := bf_ BK233.out 1; have hfz22_2 := bf_ BK233.out 2; have hfz22_3 := bf_ BK233.out 3; have hfz22_4 := bf_ BK233.out 4; have hfz22_5 := bf_ BK233.out 5; have hfz22_6 := bf_ BK233.out 6) | (go_at_call 27; (with_reducible refine (impl_areLists.calls k _ _ l0_5 true _ ?side1 ?side2 A6.out).mono ?_); (case side1 => exact cY ((Kd.C_below HR0_5.out HB.out))); (case side2 => exact HC0_5.out); rintro e w' ⟨rfl, ⟨nd, rfl⟩⟩))
  go_ret
  exact ⟨by first | rfl | (simp [errW_none, errW_some] <;> rfl) | (simp [*, errW_none, errW_some] <;> rfl), by repeat (first | (with_reducible first | exact HB.out | apply ba_ | apply bd_ | apply be_ | refine bs_ ?_ GE233.out) | exact HB.out)⟩
 rw [if_pos c9] at H
 have c9b0 : decide ((l0_6.length : Int) ≤ 8) = true := decide_eq_true c9
 have c9b1 : decide (l0_6.length ≤ 8) = true := decide_eq_true (by omega)
 clear c9
 replace H := ob_ H
 obtain ⟨t237, A100, H⟩ := H
 have A10 := A_.mk A100
 clear A100
 obtain rfl := Option.some.inj H
 go_enter Try.func14, Try.ntmps14
 go_wp2_with (first | ((with_reducible refine gd_ (N := 1) rfl ?_); (try (refine gate_guard (by rfl) ?_; dsimp only)); refine by_ 1 (cs := #[.int .i64 a0_0, .slice A0_1 l0_1.length c0_1, .int .i64 a0_2, .int .i64 a0_3, .slice A0_4 l0_4.length c0_4, .slice A0_5 l0_5.length c0_5, .slice A0_6 l0_6.length c0_6]) (t := 34) ?_; intro gb233 hg w11 hbox hb; have n0_ := A_.mk (bt_ (beY HB.out) hb); have n1_ := A_.mk (hbox); have n2_ := A_.mk ((by rw [hg]; exact (bz_ (beY HB.out)) : w.heap.size ≤ gb233)); have n3_ := A_.mk ((by rw [hg]; exact (bz_ (beY HB.out)) : w.heap.size ≤ gb233)); clear HB; have HB := n0_; have BK233 := n1_; have GW233 := n2_; have GE233 := n3_; clear n0_ n1_ n2_ n3_ hb hbox hg; have hcz12_0 : w11.cell? ⟨gb233, 0, none⟩ = some (.int .i64 a0_0) := (bc_ BK233.out 0).trans rfl; have hcz12_1 : w11.cell? ⟨gb233, 1, none⟩ = some (.slice A0_1 l0_1.length c0_1) := (bc_ BK233.out 1).trans rfl; have hcz12_2 : w11.cell? ⟨gb233, 2, none⟩ = some (.int .i64 a0_2) := (bc_ BK233.out 2).trans rfl; have hcz12_3 : w11.cell? ⟨gb233, 3, none⟩ = some (.int .i64 a0_3) := (bc_ BK233.out 3).trans rfl; have hcz12_4 : w11.cell? ⟨gb233, 4, none⟩ = some (.slice A0_4 l0_4.length c0_4) := (bc_ BK233.out 4).trans rfl; have hcz12_5 : w11.cell? ⟨gb233, 5, none⟩ = some (.slice A0_5 l0_5.length c0_5) := (bc_ BK233.out 5).trans rfl; have hcz12_6 : w11.cell? ⟨gb233, 6, none⟩ = some (.slice A0_6 l0_6.length c0_6) := (bc_ BK233.out 6).trans rfl; have hfz12_0 := bf_ BK233.out 0; have hfz12_1 := bf_ BK233.out 1; have hfz12_2 := bf_ BK233.out 2; have hfz12_3 := bf_ BK233.out 3; have hfz12_4 := bf_ BK233.out 4; have hfz12_5 := bf_ BK233.out 5; have hfz12_6 := bf_ BK233.out 6) | ((with_reducible refine gc_ (f := 25) rfl ?_); refine gl_ (some 5) Try.func25 #[.agg #[.int .i64 a0_0, .slice A0_1 l0_1.length c0_1, .int .i64 a0_2]] ?_; (with_reducible refine (impl_SenderOk.calls k a0_0 _ _ l0_1 a0_2 true _ ?side1 ?side2 A2.out).mono ?_); (case side1 => exact cY ((Kd.C_below HR0_1.out HB.out))); (case side2 => exact HC0_1.out); rintro e w13 ⟨rfl, hb⟩; refine ⟨_, rfl, ?_⟩; have n0_ := A_.mk (bb_ (bY BK233.out) hb); have n1_ := A_.mk (bt_ (by repeat (first | (with_reducible first | exact HB.out | apply ba_ | apply bd_ | apply be_ | refine bs_ ?_ GE233.out) | exact HB.out)) hb); clear BK233 HB; have BK233 := n0_; have HB := n1_; clear n0_ n1_; (try clear hb); (try clear hb2); (try clear hk); (try clear hi); have hcz14_0 : w13.cell? ⟨gb233, 0, none⟩ = some (.int .i64 a0_0) := (bc_ BK233.out 0).trans rfl; have hcz14_1 : w13.cell? ⟨gb233, 1, none⟩ = some (.slice A0_1 l0_1.length c0_1) := (bc_ BK233.out 1).trans rfl; have hcz14_2 : w13.cell? ⟨gb233, 2, none⟩ = some (.int .i64 a0_2) := (bc_ BK233.out 2).trans rfl; have hcz14_3 : w13.cell? ⟨gb233, 3, none⟩ = some (.int .i64 a0_3) := (bc_ BK233.out 3).trans rfl; have hcz14_4 : w13.cell? ⟨gb233, 4, none⟩ = some (.slice A0_4 l0_4.length c0_4) := (bc_ BK233.out 4).trans rfl; have hcz14_5 : w13.cell? ⟨gb233, 5, none⟩ = some (.slice A0_5 l0_5.length c0_5) := (bc_ BK233.out 5).trans rfl; have hcz14_6 : w13.cell? ⟨gb233, 6, none⟩ = some (.slice A0_6 l0_6.length c0_6) := (bc_ BK233.out 6).trans rfl; have hfz14_0 := bf_ BK233.out 0; have hfz14_1 := bf_ BK233.out 1; have hfz14_2 := bf_ BK233.out 2; have hfz14_3 := bf_ BK233.out 3; have hfz14_4 := bf_ BK233.out 4; have hfz14_5 := bf_ BK233.out 5; have hfz14_6 := bf_ BK233.out 6) | (go_at_call 26; (with_reducible refine (impl_ReceiverOk.calls k a0_3 _ _ l0_4 true _ ?side1 ?side2 A4.out).mono ?_); (case side1 => exact cY ((Kd.C_below HR0_4.out HB.out))); (case side2 => exact HC0_4.out); rintro e w15 ⟨rfl, hb⟩; have n0_ := A_.mk (bb_ (bY BK233.out) hb); have n1_ := A_.mk (bt_ (by repeat (first | (with_reducible first | exact HB.out | apply ba_ | apply bd_ | apply be_ | refine bs_ ?_ GE233.out) | exact HB.out)) hb); clear BK233 HB; have BK233 := n0_; have HB := n1_; clear n0_ n1_; (try clear hb); (try clear hb2); (try clear hk); (try clear hi); have hcz16_0 : w15.cell? ⟨gb233, 0, none⟩ = some (.int .i64 a0_0) := (bc_ BK233.out 0).trans rfl; have hcz16_1 : w15.cell? ⟨gb233, 1, none⟩ = some (.slice A0_1 l0_1.length c0_1) := (bc_ BK233.out 1).trans rfl; have hcz16_2 : w15.cell? ⟨gb233, 2, none⟩ = some (.int .i64 a0_2) := (bc_ BK233.out 2).trans rfl; have hcz16_3 : w15.cell? ⟨gb233, 3, none⟩ = some (.int .i64 a0_3) := (bc_ BK233.out 3).trans rfl; have hcz16_4 : w15.cell? ⟨gb233, 4, none⟩ = some (.slice A0_4 l0_4.length c0_4) := (bc_ BK233.out 4).trans rfl; have hcz16_5 : w15.cell? ⟨gb233, 5, none⟩ = some (.slice A0_5 l0_5.length c0_5) := (bc_ BK233.out 5).trans rfl; have hcz16_6 : w15.cell? ⟨gb233, 6, none⟩ = some (.slice A0_6 l0_6.length c0_6) := (bc_ BK233.out 6).trans rfl; have hfz16_0 := bf_ BK233.out 0; have hfz16_1 := bf_ BK233.out 1; have hfz16_2 := bf_ BK233.out 2; have hfz16_3 := bf_ BK233.out 3; have hfz16_4 := bf_ BK233.out 4; have hfz16_5 := bf_ BK233.out 5; have hfz16_6 := bf_ BK233.out 6) | (go_at_call 27; (with_reducible refine (impl_areLists.calls k _ _ l0_5 true _ ?side1 ?side2 A6.out).mono ?_); (case side1 => exact cY ((Kd.C_below HR0_5.out HB.out))); (case side2 => exact HC0_5.out); rintro e w' ⟨rfl, ⟨nd, rfl⟩⟩) | (go_at_call 28; (with_reducible refine (slices_ContainsFunc_int_int__impl_LinkOk_1.calls k _ _ l0_6  t237 _ ?side1 ?side2 A10.out).mono ?_); (case side1 => repeat (first | exact (Kd.C_below HR0_6.out (by repeat (first | (with_reducible first | exact HB.out | apply ba_ | apply bd_ | apply be_ | refine bs_ ?_ GE233.out) | exact HB.out))) | (with_reducible refine Kd.C_alloc ?_ _) | (with_reducible refine Kd.C_drewN ?_ _) | (with_reducible refine Kd.C_drew ?_))); (case side2 => exact HC0_6.out); rintro e w' ⟨rfl, ⟨nd, rfl⟩⟩))
 go_ret
 exact ⟨by first | rfl | (simp [errW_none, errW_some] <;> rfl) | (simp [*, errW_none, errW_some] <;> rfl), by repeat (first | (with_reducible first | exact HB.out | apply ba_ | apply bd_ | apply be_ | refine bs_ ?_ GE233.out) | exact HB.out)⟩
theorem R_at0 {α : Type} {d : Kd α} {e base n c : Nat} {W : World} {ok : Nat → Prop} {A : Option Addr} {xs : List α} (h : Kd.R d e W base ok (.slice A n c) xs) (hn : 0 < n) : ∃ g, A = some ⟨g, 0, none⟩ := by
 obtain ⟨_, inner, hown, _⟩ := h
 rcases hown.2 with ⟨hv, _⟩ | ⟨g', cap', cur, hv, _⟩
 ·cases hv; omega
 ·cases hv; exact ⟨_, rfl⟩
theorem rcl_ {W : World} {base e g n c : Nat} {ok : Nat → Prop} {xs : List Int} {j : Int} (h : Kd.R (Kd.int .i64) e W base ok (.slice (some ⟨g, 0, none⟩) n c) xs) (hb : 0 ≤ j ∧ j < (xs.length : Int)) : W.cell? ⟨g, j.toNat, none⟩ = some (.int .i64 (rd xs j)) := by
 obtain ⟨rfl, _⟩ := Kd.R_reads' h
 exact (Kd.R_celln 0 h j hb.1 hb.2).1
theorem rcf_ {W : World} {base e g n c : Nat} {ok : Nat → Prop} {xs : List Int} {j : Int} (h : Kd.R (Kd.int .i64) e W base ok (.slice (some ⟨g, 0, none⟩) n c) xs) (hb : 0 ≤ j ∧ j < (xs.length : Int)) : W.frozen? ⟨g, j.toNat, none⟩ = false := by
 obtain ⟨rfl, _⟩ := Kd.R_reads' h
 exact (Kd.R_celln 0 h j hb.1 hb.2).2
theorem el2_ {w W : World} {a0 a1 : Addr} {v0 v1 : Value} (hb : Below w.heap.size w W) (h : w.cell? a0 = some v0 ∧ w.cell? a1 = some v1) : W.cell? a0 = some v0 ∧ W.cell? a1 = some v1 :=
 ⟨(hb.cell (wl_ _ _ h.1)).trans h.1, (hb.cell (wl_ _ _ h.2)).trans h.2⟩
theorem results_cct {P : Program} {fn : Func} {p p' u : Tmp} {ty ty' : TypeId} (h : fn.results = #[.cell p ty, .cell p' ty', .tmp u]) (tmps : Array Value) (w : World) (g : Nat) (t : TypeId) (cs : Array Value) (fr : Nat × Nat) (d : TypeDesc)
  (hp : tmps.getD p undef = .pointer (some ⟨g, 0, none⟩)) (hg : w.heap[g]? = some (.cells cs t fr))
  (hu : P.underlying ty = some d) (hd : (match d with | .struct _ | .array _ _ => true | _ => false) = true) (hi : (P.info? ty).map (·.size) = some cs.size)
  (g' : Nat) (t' : TypeId) (cs' : Array Value) (fr' : Nat × Nat) (d' : TypeDesc) (hp' : tmps.getD p' undef = .pointer (some ⟨g', 0, none⟩)) (hg' : w.heap[g']? = some (.cells cs' t' fr'))
  (hu' : P.underlying ty' = some d') (hd' : (match d' with | .struct _ | .array _ _ => true | _ => false) = true) (hi' : (P.info? ty').map (·.size) = some cs'.size) :
  (results fn tmps).run P w = .ok (.tuple #[.agg cs, .agg cs', tmps.getD u undef]) w := by
 have h1 : tmps[p]?.getD undef = .pointer (some ⟨g, 0, none⟩) := by simpa using hp
 have h2 : tmps[p']?.getD undef = .pointer (some ⟨g', 0, none⟩) := by simpa using hp'
 simp [results, h, h1, h2, asAddr, run_loadVar_row w g t ty cs fr d hg hu hd hi, run_loadVar_row w g' t' ty' cs' fr' d' hg' hu' hd' hi']
theorem S_at0 {α : Type} {d : Kd α} {e base n c : Nat} {W : World} {ok : Nat → Prop} {A : Option Addr} {xs : List α} (h : Kd.S d e W base ok (.slice A n c) xs) (hn : 0 < n) : ∃ g, A = some ⟨g, 0, none⟩ := by
 obtain ⟨_, inner, hown, _⟩ := Kd.S_R h
 rcases hown.2 with ⟨hv, _⟩ | ⟨g', cap', cur, hv, _⟩
 ·cases hv; omega
 ·cases hv; exact ⟨_, rfl⟩
theorem S_cap {α : Type} {d : Kd α} {e base n c : Nat} {W : World} {ok : Nat → Prop} {A : Option Addr} {xs : List α} (h : Kd.S d e W base ok (.slice A n c) xs) : c ≤ 9223372036854775807 := by
 obtain ⟨_, inner, hown, _⟩ := Kd.S_R h
 rcases hown.2 with ⟨hv, _⟩ | ⟨g', cap', cur, hv, _, _, _, hcm, _⟩
 ·cases hv; decide
 ·cases hv; exact hcm
/-! ### impl_TakeReady: function 37, its calls in a row -/
def impl_TakeReady.f (k : Nat) (a0_0 : Int) (l0_1 : List (S68)) (a0_2 : Int) : Option ((Int) × (List (S68)) × (Int) × (Int) × (List Int) × (Bool)) := ((impl_copySender.f k a0_0 l0_1 a0_2).bind fun ⟨t1, t2, t3⟩ => ((impl_SenderOk.f k a0_0 l0_1 a0_2).bind fun t4 => (if t4 = true then (if a0_2 = (l0_1.length : Int) then (some (t1, t2, t3, 0, [], false)) else (if 0 ≤ a0_2 then (if a0_2 < (l0_1.length : Int) then ((impl_copyFrame.f ((rd_T68 l0_1 a0_2).f0) ((rd_T68 l0_1 a0_2).f1)).bind fun ⟨t5, t6⟩ => (some (t1, t2, (wrap64 (t3 + 1)), t5, t6, true))) else none) else none)) else (some (t1, t2, t3, 0, [], false)))))
set_option maxHeartbeats 8000000 in
set_option maxRecDepth 100000 in
theorem impl_TakeReady.calls (k : Nat) (a0_0 : Int) (A0_1 : Option Addr) (c0_1 : Nat) (l0_1 : List (S68)) (a0_2 : Int) (r1 : Int) (r2 : List (S68)) (r3 : Int) (r4 : Int) (r5 : List Int) (r6 : Bool) (w : World) (hr0_1 : Kd.C k68 w A0_1 l0_1.length l0_1) (hc0_1 : l0_1.length ≤ c0_1) (h : impl_TakeReady.f k a0_0 l0_1 a0_2 = some (r1, r2, r3, r4, r5, r6)) :
  Calls Try.prog 37 #[.agg #[.int .i64 a0_0, .slice A0_1 l0_1.length c0_1, .int .i64 a0_2]] w fun e w' => ∃ f_ : Nat → Nat, ∃ v0_ v1_ : Value, e = .returned (.tuple #[.agg #[.int .i64 r1, v0_, .int .i64 r3], .agg #[.int .i64 r4, v1_], .bool r6]) ∧ Kd.S k68 68 w' w.heap.size (fun k_ => f_ k_ = 0) v0_ r2 ∧ Kd.R (Kd.int .i64) 3 w' w.heap.size (fun k_ => f_ k_ = 1) v1_ r5 ∧ Below w.heap.size w w' := by
 have HR0_1 := A_.mk hr0_1
 have HC0_1 := A_.mk hc0_1
 have HW0_1 := A_.mk hr0_1
 clear hr0_1 hc0_1
 have HB := A_.mk (Below.refl w.heap.size w)
 unfold impl_TakeReady.f at h
 have H := h
 clear h
 replace H := oa_ H
 obtain ⟨⟨t1, t2, t3⟩, A4, H⟩ := H
 try dsimp only at H
 replace H := oa_ H
 obtain ⟨t4, A7, H⟩ := H
 replace H := A_.mk H
 have hu28 := Try.underlying28
 have hu68 := Try.underlying68
 go_enter Try.func37, Try.ntmps37
 have HS := A_.mk (Nat.le_refl w.heap.size)
 go_wp2_with (first | ((with_reducible refine gd_ (N := 1) rfl ?_); refine by_ 1 (cs := #[.int .i64 a0_0, .slice A0_1 l0_1.length c0_1, .int .i64 a0_2]) (t := 28) ?_; intro gb1_ hg w1_ hbox hb; replace HS := A_.mk (And.intro HS.out (show gb1_ = w.heap.size ∧ gb1_ < w1_.heap.size from ⟨hg, blk_lt hbox⟩)); replace HB := aHB HB hb; have BK1 := A_.mk hbox; clear hbox hb hg; have Q1 := blk3_ BK1.out) | ((with_reducible refine gd_ (N := 2) rfl ?_); refine by_ 2 (cs := #[.int .i64 0, .slice none 0 0, .int .i64 0]) (t := 28) ?_; intro gb2_ hg w2_ hbox hb; replace HS := A_.mk (And.intro HS.out (show gb2_ = w1_.heap.size ∧ gb2_ < w2_.heap.size from ⟨hg, blk_lt hbox⟩)); replace BK1 := aBb BK1 hb; replace HB := aHB HB hb; have BK2 := A_.mk hbox; clear hbox hb hg Q1; have Q1 := blk3_ BK1.out; have Q2 := blk3_ BK2.out) | ((with_reducible refine gd_ (N := 3) rfl ?_); refine by_ 3 (cs := #[.int .i64 0, .slice none 0 0]) (t := 68) ?_; intro gb3_ hg w3_ hbox hb; replace HS := A_.mk (And.intro HS.out (show gb3_ = w2_.heap.size ∧ gb3_ < w3_.heap.size from ⟨hg, blk_lt hbox⟩)); replace BK1 := aBb BK1 hb; replace BK2 := aBb BK2 hb; replace HB := aHB HB hb; have BK3 := A_.mk hbox; clear hbox hb hg Q1 Q2; have Q1 := blk3_ BK1.out; have Q2 := blk3_ BK2.out; have Q3 := blk2_ BK3.out) | ((with_reducible refine gc_ (f := 21) rfl ?_); refine gl_ (some 7) Try.func21 #[.agg #[.int .i64 a0_0, .slice A0_1 l0_1.length c0_1, .int .i64 a0_2]] ?_; (with_reducible refine (impl_copySender.calls k a0_0 _ _ l0_1 a0_2 t1 t2 t3 _ (Kd.C_below HR0_1.out HB.out) HC0_1.out A4.out).mono ?_); rintro e w4_ ⟨v1_, rfl, ho0_, hb⟩; refine ⟨_, rfl, ?_⟩; replace HS := aHs HS hb.size; obtain ⟨Ao4_1, co4_1, ev_⟩ := Kd.S_slice ho0_; subst ev_; have HO4_1 := aSm ho0_ HB.out.size; replace BK1 := aBb BK1 hb; replace BK2 := aBb BK2 hb; replace BK3 := aBb BK3 hb; replace HB := aHB HB hb; clear hb ho0_ Q1 Q2 Q3; have Q1 := blk3_ BK1.out; have Q2 := blk3_ BK2.out; have Q3 := blk2_ BK3.out) | ((with_reducible refine gd_ (N := 5) rfl ?_); refine by_ 5 (cs := #[.int .i64 0, .slice none 0 0, .int .i64 0]) (t := 28) ?_; intro gb5_ hg w5_ hbox hb; replace HS := A_.mk (And.intro HS.out (show gb5_ = w4_.heap.size ∧ gb5_ < w5_.heap.size from ⟨hg, blk_lt hbox⟩)); replace HO4_1 := aSb HO4_1 hb; replace BK1 := aBb BK1 hb; replace BK2 := aBb BK2 hb; replace BK3 := aBb BK3 hb; replace HB := aHB HB hb; have BK5 := A_.mk hbox; clear hbox hb hg Q1 Q2 Q3; have Q1 := blk3_ BK1.out; have Q2 := blk3_ BK2.out; have Q3 := blk2_ BK3.out; have Q5 := blk3_ BK5.out) | ((with_reducible refine gate_store (t := 28) (p := 5) rfl ?_); have qf0 := bf_ BK5.out 0; have qf1 := bf_ BK5.out 1; have qf2 := bf_ BK5.out 2; refine se_ (t := 28) (p := 5) (v := ?vo_6) (w1 := (ch3_ w5_ gb5_ (.int .i64 t1) (.slice Ao4_1 t2.length co4_1) (.int .i64 t3))) ?hg ?ho ?hn ?hr ?_; (case ho => rfl); (case hg => rfl); (case hn => rfl); (case hr => first | (go_simp; done) | (go_simp; rfl)); intro w6_ hw; clear qf0 qf1 qf2; obtain ⟨hbx, hkp, hbb⟩ := st3_ hw BK5 HB (by have := HS.out; omega); clear hw; replace HO4_1 := aSk HO4_1 hkp HS; replace BK1 := aBk BK1 hkp HS; replace BK2 := aBk BK2 hkp HS; replace BK3 := aBk BK3 hkp HS; replace BK5 := A_.mk hbx; replace HB := A_.mk hbb; replace HS := aHs HS hkp.1; clear hkp hbb hbx Q1 Q2 Q3 Q5; have Q1 := blk3_ BK1.out; have Q2 := blk3_ BK2.out; have Q3 := blk2_ BK3.out; have Q5 := blk3_ BK5.out))
 (with_reducible refine (impl_SenderOk.calls k a0_0 _ _ l0_1 a0_2 t4 _ (Kd.C_below HR0_1.out HB.out) HC0_1.out A7.out).mono ?_)
 rintro e w7_ ⟨rfl, hb⟩
 replace HS := aHs HS hb.size
 replace HO4_1 := aSb HO4_1 hb
 replace BK1 := aBb BK1 hb
 replace BK2 := aBb BK2 hb
 replace BK3 := aBb BK3 hb
 replace BK5 := aBb BK5 hb
 replace HB := aHB HB hb
 clear hb  Q1 Q2 Q3 Q5
 have Q1 := blk3_ BK1.out
 have Q2 := blk3_ BK2.out
 have Q3 := blk2_ BK3.out
 have Q5 := blk3_ BK5.out
 replace H := H.out
 by_cases hc1_ : t4 = true
 case neg =>
  rw [if_neg hc1_] at H
  replace hc1_ := eq_false_of_ne_true hc1_
  subst hc1_
  simp only [Option.some.injEq, Prod.mk.injEq] at H
  obtain ⟨rfl, rfl, rfl, rfl, rfl, rfl⟩ := H
  go_wp2_with (first | ((with_reducible refine gate_store (t := 28) (p := 2) rfl ?_); have qf0 := bf_ BK2.out 0; have qf1 := bf_ BK2.out 1; have qf2 := bf_ BK2.out 2; refine se_ (t := 28) (p := 2) (v := ?vo_15) (w1 := (ch3_ w7_ gb2_ (.int .i64 t1) (.slice Ao4_1 t2.length co4_1) (.int .i64 t3))) ?hg ?ho ?hn ?hr ?_; (case ho => rfl); (case hg => rfl); (case hn => rfl); (case hr => first | (go_simp; done) | (go_simp; rfl)); intro w15_ hw; clear qf0 qf1 qf2; obtain ⟨hbx, hkp, hbb⟩ := st3_ hw BK2 HB (by have := HS.out; omega); clear hw; replace HO4_1 := aSk HO4_1 hkp HS; replace BK1 := aBk BK1 hkp HS; replace BK3 := aBk BK3 hkp HS; replace BK5 := aBk BK5 hkp HS; replace BK2 := A_.mk hbx; replace HB := A_.mk hbb; replace HS := aHs HS hkp.1; clear hkp hbb hbx Q1 Q2 Q3 Q5; have Q1 := blk3_ BK1.out; have Q2 := blk3_ BK2.out; have Q3 := blk2_ BK3.out; have Q5 := blk3_ BK5.out) | ((with_reducible refine gate_store (t := 68) (p := 3) rfl ?_); have qf0 := bf_ BK3.out 0; have qf1 := bf_ BK3.out 1; refine se_ (t := 68) (p := 3) (v := ?vo_16) (w1 := (ch2_ w15_ gb3_ (.int .i64 0) (.slice none 0 0))) ?hg ?ho ?hn ?hr ?_; (case ho => rfl); (case hg => rfl); (case hn => rfl); (case hr => first | (go_simp; done) | (go_simp; rfl)); intro w16_ hw; clear qf0 qf1; obtain ⟨hbx, hkp, hbb⟩ := st2_ hw BK3 HB (by have := HS.out; omega); clear hw; replace HO4_1 := aSk HO4_1 hkp HS; replace BK1 := aBk BK1 hkp HS; replace BK2 := aBk BK2 hkp HS; replace BK5 := aBk BK5 hkp HS; replace BK3 := A_.mk hbx; replace HB := A_.mk hbb; replace HS := aHs HS hkp.1; clear hkp hbb hbx Q1 Q2 Q3 Q5; have Q1 := blk3_ BK1.out; have Q2 := blk3_ BK2.out; have Q3 := blk2_ BK3.out; have Q5 := blk3_ BK5.out))
  refine bodyPost_ret (results_cct rfl _ _ gb2_ 28 #[.int .i64 t1, .slice Ao4_1 t2.length co4_1, .int .i64 t3] (0, 0) _ rfl BK2.out Try.underlying28 rfl (by kernel_rfl) gb3_ 68 #[.int .i64 0, .slice none 0 0] (0, 0) _ rfl BK3.out Try.underlying68 rfl (by kernel_rfl)) rfl ?_
  obtain ⟨f_, hf_⟩ : ∃ f_ : Nat → Nat, ∀ k_, f_ k_ = (if ((w3_.heap.size ≤ k_ ∧ k_ < w4_.heap.size)) then 0 else 0) := ⟨fun k_ => (if ((w3_.heap.size ≤ k_ ∧ k_ < w4_.heap.size)) then 0 else 0), fun _ => rfl⟩
  have hcol0_ : ∀ k_, (((w3_.heap.size ≤ k_ ∧ k_ < w4_.heap.size))) → f_ k_ = 0 := fun k_ hk_ => by rw [hf_]; have := HS.out; repeat' (first | omega | split)
  exact ⟨f_, _, _, rfl, Kd.S_mono HO4_1.out hcol0_, Kd.R_nil _ _ _ _ _, HB.out⟩
 rw [if_pos hc1_] at H
 subst hc1_
 by_cases hc2_ : a0_2 = (l0_1.length : Int)
 case pos =>
  rw [if_pos hc2_] at H
  have hc2_b0 : (a0_2 == (l0_1.length : Int)) = true := beq_iff_eq.mpr hc2_
  have hc2_bn : (a0_2 != (l0_1.length : Int)) = false := bne_eq_false_iff_eq.mpr hc2_
  have hc2_b1 : (a0_2 == l0_1.length) = true := by first | simpa using hc2_ | (simp at hc2_ ⊢; omega)
  replace hc2_ := A_.mk hc2_
  simp only [Option.some.injEq, Prod.mk.injEq] at H
  obtain ⟨rfl, rfl, rfl, rfl, rfl, rfl⟩ := H
  go_wp2_with (first | ((with_reducible refine gate_store (t := 28) (p := 2) rfl ?_); have qf0 := bf_ BK2.out 0; have qf1 := bf_ BK2.out 1; have qf2 := bf_ BK2.out 2; refine se_ (t := 28) (p := 2) (v := ?vo_8) (w1 := (ch3_ w7_ gb2_ (.int .i64 t1) (.slice Ao4_1 t2.length co4_1) (.int .i64 t3))) ?hg ?ho ?hn ?hr ?_; (case ho => rfl); (case hg => rfl); (case hn => rfl); (case hr => first | (go_simp; done) | (go_simp; rfl)); intro w8_ hw; clear qf0 qf1 qf2; obtain ⟨hbx, hkp, hbb⟩ := st3_ hw BK2 HB (by have := HS.out; omega); clear hw; replace HO4_1 := aSk HO4_1 hkp HS; replace BK1 := aBk BK1 hkp HS; replace BK3 := aBk BK3 hkp HS; replace BK5 := aBk BK5 hkp HS; replace BK2 := A_.mk hbx; replace HB := A_.mk hbb; replace HS := aHs HS hkp.1; clear hkp hbb hbx Q1 Q2 Q3 Q5; have Q1 := blk3_ BK1.out; have Q2 := blk3_ BK2.out; have Q3 := blk2_ BK3.out; have Q5 := blk3_ BK5.out) | ((with_reducible refine gate_store (t := 68) (p := 3) rfl ?_); have qf0 := bf_ BK3.out 0; have qf1 := bf_ BK3.out 1; refine se_ (t := 68) (p := 3) (v := ?vo_9) (w1 := (ch2_ w8_ gb3_ (.int .i64 0) (.slice none 0 0))) ?hg ?ho ?hn ?hr ?_; (case ho => rfl); (case hg => rfl); (case hn => rfl); (case hr => first | (go_simp; done) | (go_simp; rfl)); intro w9_ hw; clear qf0 qf1; obtain ⟨hbx, hkp, hbb⟩ := st2_ hw BK3 HB (by have := HS.out; omega); clear hw; replace HO4_1 := aSk HO4_1 hkp HS; replace BK1 := aBk BK1 hkp HS; replace BK2 := aBk BK2 hkp HS; replace BK5 := aBk BK5 hkp HS; replace BK3 := A_.mk hbx; replace HB := A_.mk hbb; replace HS := aHs HS hkp.1; clear hkp hbb hbx Q1 Q2 Q3 Q5; have Q1 := blk3_ BK1.out; have Q2 := blk3_ BK2.out; have Q3 := blk2_ BK3.out; have Q5 := blk3_ BK5.out))
  refine bodyPost_ret (results_cct rfl _ _ gb2_ 28 #[.int .i64 t1, .slice Ao4_1 t2.length co4_1, .int .i64 t3] (0, 0) _ rfl BK2.out Try.underlying28 rfl (by kernel_rfl) gb3_ 68 #[.int .i64 0, .slice none 0 0] (0, 0) _ rfl BK3.out Try.underlying68 rfl (by kernel_rfl)) rfl ?_
  obtain ⟨f_, hf_⟩ : ∃ f_ : Nat → Nat, ∀ k_, f_ k_ = (if ((w3_.heap.size ≤ k_ ∧ k_ < w4_.heap.size)) then 0 else 0) := ⟨fun k_ => (if ((w3_.heap.size ≤ k_ ∧ k_ < w4_.heap.size)) then 0 else 0), fun _ => rfl⟩
  have hcol0_ : ∀ k_, (((w3_.heap.size ≤ k_ ∧ k_ < w4_.heap.size))) → f_ k_ = 0 := fun k_ hk_ => by rw [hf_]; have := HS.out; repeat' (first | omega | split)
  exact ⟨f_, _, _, rfl, Kd.S_mono HO4_1.out hcol0_, Kd.R_nil _ _ _ _ _, HB.out⟩
 rw [if_neg hc2_] at H
 have hc2_b0 : (a0_2 == (l0_1.length : Int)) = false := beq_eq_false_iff_ne.mpr hc2_
 have hc2_bn : (a0_2 != (l0_1.length : Int)) = true := bne_iff_ne.mpr hc2_
 have hc2_b1 : (a0_2 == l0_1.length) = false := by first | simpa using hc2_ | (simp at hc2_ ⊢; omega)
 by_cases hp11_ : 0 ≤ a0_2
 case neg => rw [if_neg hp11_] at H; cases H
 rw [if_pos hp11_] at H
 by_cases hq11_ : a0_2 < (l0_1.length : Int)
 case neg => rw [if_neg hq11_] at H; cases H
 rw [if_pos hq11_] at H
 have EB11 := A_.mk (And.intro hp11_ hq11_)
 obtain ⟨ad11_, A11_1, c11_1, eA_, hx0_, hx1_, hl1_, hi1_⟩ := at_T68 HW0_1.out a0_2 hp11_ hq11_
 subst eA_
 have HX11 := A_.mk (And.intro hx0_ hx1_)
 have HE11_1 := A_.mk hi1_
 have HD11_1 := A_.mk hl1_
 clear hx0_ hx1_ hl1_ hi1_
 replace hp11_ := eq_true hp11_
 replace hq11_ := eq_true hq11_
 replace H := oa_ H
 obtain ⟨⟨t5, t6⟩, A12, H⟩ := H
 try dsimp only at H
 simp only [Option.some.injEq, Prod.mk.injEq] at H
 obtain ⟨rfl, rfl, rfl, rfl, rfl, rfl⟩ := H
 go_wp2_with (first | ((with_reducible refine gate_store (t := 3) (p := 24) rfl ?_); have qf0 := bf_ BK5.out 2; refine se_ (t := 3) (p := 24) (v := ?vo_10) (w1 := (w7_.setCell ⟨gb5_, 2, none⟩ (.int .i64 (wrap64 (t3 + 1))))) ?hg ?ho ?hn ?hr ?_; (case ho => rfl); (case hg => rfl); (case hn => rfl); (case hr => first | (go_simp; done) | (go_simp; rfl)); intro w10_ hw; clear qf0; have hge : w.heap.size ≤ gb5_ := (by have := HS.out; omega); have hkp : Kept w7_ w10_ (fun k_ => k_ = gb5_) := (by rw [hw]; exact (Kept.of_set (Kept.refl _ _) _ _)); have hbb : Below w.heap.size w w10_ := (by rw [hw]; exact (bs_ HB.out hge)); have hbx : w10_.heap[gb5_]? = some (.cells #[.int .i64 t1, .slice Ao4_1 t2.length co4_1, .int .i64 (wrap64 (t3 + 1))] 28 (0, 0)) := (by rw [hw]; exact (bp_ (cs := #[.int .i64 t1, .slice Ao4_1 t2.length co4_1, .int .i64 t3]) BK5.out 2 _ rfl)); clear hw; replace HO4_1 := aSk HO4_1 hkp HS; replace BK1 := aBk BK1 hkp HS; replace BK2 := aBk BK2 hkp HS; replace BK3 := aBk BK3 hkp HS; replace BK5 := A_.mk hbx; replace HB := A_.mk hbb; replace HS := aHs HS hkp.1; clear hkp hbb hbx hge Q1 Q2 Q3 Q5; have Q1 := blk3_ BK1.out; have Q2 := blk3_ BK2.out; have Q3 := blk2_ BK3.out; have Q5 := blk3_ BK5.out))
 refine start_ (n := 11) (S := fun w' => (w'.cell? ⟨gb1_, 0, none⟩ = some (.int .i64 a0_0) ∧ w'.cell? ⟨gb1_, 1, none⟩ = some (.slice (some ad11_) l0_1.length c0_1) ∧ w'.cell? ⟨gb1_, 2, none⟩ = some (.int .i64 a0_2)) ∧ (w'.cell? ⟨gb5_, 0, none⟩ = some (.int .i64 t1) ∧ w'.cell? ⟨gb5_, 1, none⟩ = some (.slice Ao4_1 t2.length co4_1) ∧ w'.cell? ⟨gb5_, 2, none⟩ = some (.int .i64 (wrap64 (t3 + 1)))) ∧ (w'.cell? (ad11_.add ((a0_2).toNat * 2)) = some (.int .i64 ((rd_T68 l0_1 a0_2).f0)) ∧ w'.cell? ⟨(ad11_.add ((a0_2).toNat * 2)).block, (ad11_.add ((a0_2).toNat * 2)).off + 1, none⟩ = some (.slice A11_1 ((rd_T68 l0_1 a0_2).f1).length c11_1))) (ds := [8, 9]) #[F, F, F, F, F, F, F, F, F, F, F] (by kernel_rfl) rfl rfl ⟨blk3_ BK1.out, blk3_ BK5.out, el2_ (below_drew HB.out) HX11.out⟩ (fun hHeld => ?_)
 clear Q1 Q2 Q3 Q5
 have hb := below_drew (Below.refl w10_.heap.size w10_)
 replace HS := aHs HS hb.size
 replace HO4_1 := aSb HO4_1 hb
 replace BK1 := aBb BK1 hb
 replace BK2 := aBb BK2 hb
 replace BK3 := aBb BK3 hb
 replace BK5 := aBb BK5 hb
 replace HB := aHB HB hb
 clear hb
 generalize w10_.drew = w17d_ at HO4_1 BK1 BK2 BK3 BK5 HB HS hHeld ⊢
 refine tl_ (i := 0) (N := some 25) #[T, F, F, F, F, F, F, F, F, F, F] rfl hHeld ?_
 refine pd_ (i := 1) (N := some 26) #[T, T, F, F, F, F, F, F, F, F, F] rfl ?_
 refine tl_ (i := 2) (N := some 27) #[T, T, T, F, F, F, F, F, F, F, F] rfl hHeld ?_
 refine pd_ (i := 3) (N := some 28) #[T, T, T, T, F, F, F, F, F, F, F] rfl ?_
 refine tl_ (i := 4) (N := some 29) #[T, T, T, T, T, F, F, F, F, F, F] rfl hHeld ?_
 refine pd_ (i := 5) (N := some 30) #[T, T, T, T, T, T, F, F, F, F, F] rfl ?_
 refine tl_ (i := 6) (N := some 31) #[T, T, T, T, T, T, T, F, F, F, F] rfl hHeld ?_
 refine on_ (i := 7) (N := some 32) #[T, T, T, T, T, T, T, T, F, F, F] rfl (fun K hK => ?_)
 refine gz_ Try.func45 #[.agg #[.int .i64 ((rd_T68 l0_1 a0_2).f0), .slice A11_1 ((rd_T68 l0_1 a0_2).f1).length c11_1]] ?_
 with_reducible refine (impl_copyFrame.calls ((rd_T68 l0_1 a0_2).f0) _ _ ((rd_T68 l0_1 a0_2).f1) t5 t6 _ (Kd.C_below HE11_1.out HB.out) HD11_1.out A12.out).mono ?_
 rintro e w12_ ⟨v1_, rfl, ho0_, hb⟩
 refine ⟨_, rfl, ?_⟩
 replace HS := aHs HS hb.size
 obtain ⟨Ao12_1, co12_1, ev_⟩ := Kd.R_slice ho0_
 subst ev_
 have HO12_1 := aRm ho0_ HB.out.size
 replace HO4_1 := aSb HO4_1 hb
 replace BK1 := aBb BK1 hb
 replace BK2 := aBb BK2 hb
 replace BK3 := aBb BK3 hb
 replace BK5 := aBb BK5 hb
 replace HB := aHB HB hb
 clear hb ho0_
 refine hK.out _ _ ⟨blk3_ BK1.out, blk3_ BK5.out, el2_ HB.out HX11.out⟩ (fun hHeld => ?_)
 clear hK K
 refine nm_ ?_
 refine last_ (i := 8) (N := none) #[T, T, T, T, T, T, T, T, T, F, F] rfl rfl (by kernel_rfl) (by decide) (fun K hK => ?_)
 have Q1 := blk3_ BK1.out
 have Q2 := blk3_ BK2.out
 have Q3 := blk2_ BK3.out
 have Q5 := blk3_ BK5.out
 have qf0 := bf_ BK2.out 0; have qf1 := bf_ BK2.out 1; have qf2 := bf_ BK2.out 2
 obtain ⟨w13_, hw⟩ : ∃ q_ : World, q_ = (ch3_ w12_ gb2_ (.int .i64 t1) (.slice Ao4_1 t2.length co4_1) (.int .i64 (wrap64 (t3 + 1)))) := ⟨_, rfl⟩
 refine skip_ (w1 := w13_) (by rfl) rfl ?_ ?_
 ·rw [hw]; go_simp; try rfl
 refine hK.out _ _ ?_
 clear hK K qf0 qf1 qf2 Q1 Q2 Q3 Q5
 obtain ⟨hbx, hkp, hbb⟩ := st3_ hw BK2 HB (by have := HS.out; omega)
 clear hw
 replace HO4_1 := aSk HO4_1 hkp HS
 replace HO12_1 := aRk HO12_1 hkp HS
 replace BK1 := aBk BK1 hkp HS
 replace BK3 := aBk BK3 hkp HS
 replace BK5 := aBk BK5 hkp HS
 replace BK2 := A_.mk hbx
 replace HB := A_.mk hbb
 replace HS := aHs HS hkp.1
 clear hkp hbb hbx
 refine last_ (i := 9) (N := none) #[T, T, T, T, T, T, T, T, T, T, F] rfl rfl (by kernel_rfl) (by decide) (fun K hK => ?_)
 have Q1 := blk3_ BK1.out
 have Q2 := blk3_ BK2.out
 have Q3 := blk2_ BK3.out
 have Q5 := blk3_ BK5.out
 have qf0 := bf_ BK3.out 0; have qf1 := bf_ BK3.out 1
 obtain ⟨w14_, hw⟩ : ∃ q_ : World, q_ = (ch2_ w13_ gb3_ (.int .i64 t5) (.slice Ao12_1 t6.length co12_1)) := ⟨_, rfl⟩
 refine skip_ (w1 := w14_) (by rfl) rfl ?_ ?_
 ·rw [hw]; go_simp; try rfl
 refine hK.out _ _ ?_
 clear hK K qf0 qf1 Q1 Q2 Q3 Q5
 obtain ⟨hbx, hkp, hbb⟩ := st2_ hw BK3 HB (by have := HS.out; omega)
 clear hw
 replace HO4_1 := aSk HO4_1 hkp HS
 replace HO12_1 := aRk HO12_1 hkp HS
 replace BK1 := aBk BK1 hkp HS
 replace BK2 := aBk BK2 hkp HS
 replace BK5 := aBk BK5 hkp HS
 replace BK3 := A_.mk hbx
 replace HB := A_.mk hbb
 replace HS := aHs HS hkp.1
 clear hkp hbb hbx
 refine pd_ (i := 10) (N := some 4) #[T, T, T, T, T, T, T, T, T, T, T] rfl ?_
 refine done_ (by kernel_rfl) ?_
 have Q1 := blk3_ BK1.out
 have Q2 := blk3_ BK2.out
 have Q3 := blk2_ BK3.out
 have Q5 := blk3_ BK5.out
 go_wp2
 refine bodyPost_ret (results_cct rfl _ _ gb2_ 28 #[.int .i64 t1, .slice Ao4_1 t2.length co4_1, .int .i64 (wrap64 (t3 + 1))] (0, 0) _ rfl BK2.out Try.underlying28 rfl (by kernel_rfl) gb3_ 68 #[.int .i64 t5, .slice Ao12_1 t6.length co12_1] (0, 0) _ rfl BK3.out Try.underlying68 rfl (by kernel_rfl)) rfl ?_
 obtain ⟨f_, hf_⟩ : ∃ f_ : Nat → Nat, ∀ k_, f_ k_ = (if ((w3_.heap.size ≤ k_ ∧ k_ < w4_.heap.size)) then 0 else (if ((w17d_.heap.size ≤ k_ ∧ k_ < w12_.heap.size)) then 1 else 0)) := ⟨fun k_ => (if ((w3_.heap.size ≤ k_ ∧ k_ < w4_.heap.size)) then 0 else (if ((w17d_.heap.size ≤ k_ ∧ k_ < w12_.heap.size)) then 1 else 0)), fun _ => rfl⟩
 have hcol0_ : ∀ k_, (((w3_.heap.size ≤ k_ ∧ k_ < w4_.heap.size))) → f_ k_ = 0 := fun k_ hk_ => by rw [hf_]; have := HS.out; repeat' (first | omega | split)
 have hcol1_ : ∀ k_, (((w17d_.heap.size ≤ k_ ∧ k_ < w12_.heap.size))) → f_ k_ = 1 := fun k_ hk_ => by rw [hf_]; have := HS.out; repeat' (first | omega | split)
 exact ⟨f_, _, _, rfl, Kd.S_mono HO4_1.out hcol0_, Kd.R_mono HO12_1.out hcol1_, HB.out⟩
/-! ### impl_isWord: function 32 -/
def impl_isWord.f (a0 : Int) : Option (Bool) := (impl_within.f a0 0 65535).bind fun t238 => (some t238)
set_option maxHeartbeats 8000000 in
set_option maxRecDepth 100000 in
theorem impl_isWord.calls (a0 : Int) (r : Bool) (w : World) (h : impl_isWord.f a0 = some r) :
  Calls Try.prog 32 #[.int .i64 a0] w fun e w' => e = .returned (.bool r) ∧ Drawn0 w w' := by
 have H : ((impl_within.f a0 0 65535).bind fun t238 => (some t238)) = some r := h
 clear h
 replace H := ob_ H
 obtain ⟨t238, A20, H⟩ := H
 have A2 := A_.mk A20
 clear A20
 obtain rfl := Option.some.inj H
 go_enter Try.func32, Try.ntmps32
 go_wp2_with (first | ((with_reducible refine gc_ (f := 31) rfl ?_); refine gl_ (some 4) Try.func31 #[.int .i64 a0, .int .i64 0, .int .i64 65535] ?_; (with_reducible refine (impl_within.calls a0 0 65535 t238 _ A2.out).mono ?_); rintro e w' ⟨rfl, ⟨nd, rfl⟩⟩; refine ⟨_, rfl, ?_⟩))
 go_ret
 exact ⟨by first | rfl | (simp; done) | (simp [*]; done), by repeat (first | exact Drawn0.refl _ | apply Drawn0.step)⟩

/-! ### impl_SplitWord: function 62 -/
def impl_SplitWord.f (a0 : Int) : Option (Int × Int) := (impl_isWord.f a0).bind fun t239 => (if t239 = true then (some (wrap64 (Int.tdiv a0 256), Int.tmod a0 256)) else (some (0, 0)))
set_option maxHeartbeats 8000000 in
set_option maxRecDepth 100000 in
theorem impl_SplitWord.calls (a0 : Int) (r1 : Int) (r2 : Int) (w : World) (h : impl_SplitWord.f a0 = some (r1, r2)) :
  Calls Try.prog 62 #[.int .i64 a0] w fun e w' => e = .returned (.tuple #[.int .i64 r1, .int .i64 r2]) ∧ Drawn0 w w' := by
 have H : ((impl_isWord.f a0).bind fun t239 => (if t239 = true then (some (wrap64 (Int.tdiv a0 256), Int.tmod a0 256)) else (some (0, 0)))) = some (r1, r2) := h
 clear h
 replace H := ob_ H
 obtain ⟨t239, A20, H⟩ := H
 have A2 := A_.mk A20
 clear A20
 by_cases c3 : t239 = true
 ·subst c3
  have H1 : (some (wrap64 (Int.tdiv a0 256), Int.tmod a0 256)) = some (r1, r2) := by rw [if_pos rfl] at H; exact H
  clear H
  have H := H1
  clear H1
  simp only [Option.some.injEq, Prod.mk.injEq] at H
  obtain ⟨rfl, rfl⟩ := H
  go_enter Try.func62, Try.ntmps62
  go_wp2_with (first | ((with_reducible refine gc_ (f := 32) rfl ?_); refine gl_ (some 5) Try.func32 #[.int .i64 a0] ?_; (with_reducible refine (impl_isWord.calls a0 true _ A2.out).mono ?_); rintro e w' ⟨rfl, ⟨nd, rfl⟩⟩; refine ⟨_, rfl, ?_⟩))
  go_ret2
  exact ⟨by first | rfl | (simp; done) | (simp [*]; done), by repeat (first | exact Drawn0.refl _ | apply Drawn0.step)⟩
 ·replace c3 := Bool.eq_false_iff.mpr c3
  subst c3
  have H1 : (some (0, 0)) = some (r1, r2) := by rw [if_neg (show ¬ (false = true) by decide)] at H; exact H
  clear H
  have H := H1
  clear H1
  simp only [Option.some.injEq, Prod.mk.injEq] at H
  obtain ⟨rfl, rfl⟩ := H
  go_enter Try.func62, Try.ntmps62
  go_wp2_with (first | ((with_reducible refine gc_ (f := 32) rfl ?_); refine gl_ (some 5) Try.func32 #[.int .i64 a0] ?_; (with_reducible refine (impl_isWord.calls a0 false _ A2.out).mono ?_); rintro e w' ⟨rfl, ⟨nd, rfl⟩⟩; refine ⟨_, rfl, ?_⟩))
  go_ret2
  exact ⟨by first | rfl | (simp; done) | (simp [*]; done), by repeat (first | exact Drawn0.refl _ | apply Drawn0.step)⟩

/-! ### impl_CheckOf: function 63 -/
mutual
def impl_CheckOf.l0 : Nat → Int → List Int → Int → Int → Option (Int)
 | 0, _, _, _, _ => none
 | k + 1, x3, x9, x10, x11 => if x11 < x10 then (if 0 ≤ x11 then (if x11 < (x9.length : Int) then (impl_CheckOf.l1 k (Go.bits .xor .i64 x3 (wrap64 ((rd x9 x11) * 256))) x9 x10 x11 0) else (none)) else (none)) else (some x3)
def impl_CheckOf.l1 : Nat → Int → List Int → Int → Int → Int → Option (Int)
 | 0, _, _, _, _, _ => none
 | k + 1, x3, x9, x10, x11, x19 => if x19 < 8 then (if (wrap64 (x3 * 2)) > 65535 then (impl_CheckOf.l1 k (Go.bits .xor .i64 (wrap64 (x3 * 2)) 69665) x9 x10 x11 (wrap64 (x19 + 1))) else (impl_CheckOf.l1 k (wrap64 (x3 * 2)) x9 x10 x11 (wrap64 (x19 + 1)))) else (impl_CheckOf.l0 k x3 x9 x10 (wrap64 (x11 + 1)))
end
def impl_CheckOf.f (k : Nat) (l0 : List Int) : Option (Int) := (impl_AreBytes.f k l0).bind fun t240 => (if t240 = true then (impl_CheckOf.l0 k 65535 l0 (l0.length : Int) 0) else (some (-1)))
set_option maxHeartbeats 8000000 in
set_option maxRecDepth 100000 in
theorem impl_CheckOf.calls (k : Nat) (A0 : Option Addr) (c0 : Nat) (l0 : List Int) (r : Int) (w : World) (hr0 : Kd.C (Kd.int .i64) w A0 l0.length l0) (hc0 : l0.length ≤ c0) (h : impl_CheckOf.f k l0 = some r) :
  Calls Try.prog 63 #[.slice A0 l0.length c0] w fun e w' => e = .returned (.int .i64 r) ∧ Drawn0 w w' := by
 have HR0 := A_.mk hr0
 have HC0 := A_.mk hc0
 clear hr0 hc0
 have H : ((impl_AreBytes.f k l0).bind fun t240 => (if t240 = true then (impl_CheckOf.l0 k 65535 l0 (l0.length : Int) 0) else (some (-1)))) = some r := h
 clear h
 replace H := ob_ H
 obtain ⟨t240, A20, H⟩ := H
 have A2 := A_.mk A20
 clear A20
 by_cases c3 : t240 = true
 rotate_left
 ·replace c3 := Bool.eq_false_iff.mpr c3
  subst c3
  have H1 : (some (-1)) = some r := by rw [if_neg (show ¬ (false = true) by decide)] at H; exact H
  clear H
  have H := H1
  clear H1
  obtain rfl := Option.some.inj H
  go_enter Try.func63, Try.ntmps63
  go_wp2_with (first | ((with_reducible refine gc_ (f := 47) rfl ?_); refine gl_ (some 7) Try.func47 #[.slice A0 l0.length c0] ?_; (with_reducible refine (impl_AreBytes.calls k _ _ l0 false _ ?side1 ?side2 A2.out).mono ?_); (case side1 => exact cY (HR0.out)); (case side2 => exact HC0.out); rintro e w' ⟨rfl, ⟨nd, rfl⟩⟩; refine ⟨_, rfl, ?_⟩))
  go_ret
  exact ⟨by first | rfl | (simp; done) | (simp [*]; done), by repeat (first | exact Drawn0.refl _ | apply Drawn0.step)⟩
 subst c3
 have H1 : (impl_CheckOf.l0 k 65535 l0 (l0.length : Int) 0) = some r := by rw [if_pos rfl] at H; exact H
 clear H
 have H := H1
 clear H1
 have H' := A_.mk H
 clear H
 go_enter Try.func63, Try.ntmps63
 go_wp2_with (first | ((with_reducible refine gc_ (f := 47) rfl ?_); refine gl_ (some 7) Try.func47 #[.slice A0 l0.length c0] ?_; (with_reducible refine (impl_AreBytes.calls k _ _ l0 true _ ?side1 ?side2 A2.out).mono ?_); (case side1 => exact cY (HR0.out)); (case side2 => exact HC0.out); rintro e w' ⟨rfl, ⟨nd, rfl⟩⟩; refine ⟨_, rfl, ?_⟩))
 go_loopg [3, 11] k (fun kq v3 v11 w' => ∃ (x3_1 : Int) (x11_1 : Int), v3 = .int .i64 x3_1 ∧ v11 = .int .i64 x11_1 ∧ A_ (impl_CheckOf.l0 kq x3_1 l0 (l0.length : Int) x11_1 = some r) ∧ A_ (kq ≤ k) ∧ Drawn0 w w')
 case atStart => exact ⟨(65535), (0), (by first | rfl | (simp; done) | (simp [*]; done)), (by first | rfl | (simp; done) | (simp [*]; done)), H', ⟨Nat.le_refl _⟩, by repeat (first | exact Drawn0.refl _ | apply Drawn0.step)⟩
 case round =>
  clear H'
  obtain ⟨x3_1, x11_1, rfl, rfl, HA, HK1, ⟨m1, rfl⟩⟩ := hrel
  cases gk with
  | zero => exact absurd HA.out (by simp [impl_CheckOf.l0])
  | succ k1 =>
   have H := HA.out
   clear HA
   simp only [impl_CheckOf.l0] at H
   by_cases c4 : x11_1 < (l0.length : Int)
   rotate_left
   ·rw [if_neg c4] at H
    have c4b0 : decide (x11_1 < (l0.length : Int)) = false := decide_eq_false c4
    clear c4
    obtain rfl := Option.some.inj H
    go_wp2
    go_ret
    exact ⟨by first | rfl | (simp; done) | (simp [*]; done), by repeat (first | exact Drawn0.refl _ | apply Drawn0.step)⟩
   rw [if_pos c4] at H
   have c4b0 : decide (x11_1 < (l0.length : Int)) = true := decide_eq_true c4
   clear c4
   by_cases c5 : 0 ≤ x11_1
   rotate_left
   ·rw [if_neg c5] at H
    exact absurd H (by simp)
   rw [if_pos c5] at H
   have c5b0 : decide (0 ≤ x11_1) = true := decide_eq_true c5
   clear c5
   by_cases c6 : x11_1 < (l0.length : Int)
   rotate_left
   ·rw [if_neg c6] at H
    exact absurd H (by simp)
   rw [if_pos c6] at H
   have c6b0 : decide (x11_1 < (l0.length : Int)) = true := decide_eq_true c6
   clear c6
   have H' := A_.mk H
   clear H
   have p241 : 0 ≤ (x11_1 : Int) := od_
   have q241 : x11_1 < (l0.length : Int) := od_
   obtain ⟨ad241, e241, hx241_0⟩ := Kd.at_int HR0.out x11_1 p241 q241
   cases e241
   replace p241 := eq_true p241
   replace q241 := eq_true q241
   go_wp2
   go_loopg [3, 19] k1 (fun kq v3 v19 w' => ∃ (x3_2 : Int) (x19_2 : Int), v3 = .int .i64 x3_2 ∧ v19 = .int .i64 x19_2 ∧ A_ (impl_CheckOf.l1 kq x3_2 l0 (l0.length : Int) x11_1 x19_2 = some r) ∧ A_ (kq ≤ k1) ∧ Drawn0 w w')
   case atStart => exact ⟨(Go.bits .xor .i64 x3_1 (wrap64 ((rd l0 x11_1) * 256))), (0), (by first | rfl | (simp; done) | (simp [*]; done)), (by first | rfl | (simp; done) | (simp [*]; done)), H', ⟨Nat.le_refl _⟩, by repeat (first | exact Drawn0.refl _ | apply Drawn0.step)⟩
   case round =>
    clear H'
    obtain ⟨x3_2, x19_2, rfl, rfl, HA, HK2, ⟨m2, rfl⟩⟩ := hrel
    cases gk with
    | zero => exact absurd HA.out (by simp [impl_CheckOf.l1])
    | succ k2 =>
     have H := HA.out
     clear HA
     simp only [impl_CheckOf.l1] at H
     by_cases c7 : x19_2 < 8
     rotate_left
     ·rw [if_neg c7] at H
      have c7b0 : decide (x19_2 < 8) = false := decide_eq_false c7
      clear c7
      have H' := A_.mk H
      clear H
      go_wp2
      go_roundg k2
      case measure => have := HK1.out; have := HK2.out; omega
      case rel => exact ⟨(x3_2), (wrap64 (x11_1 + 1)), (by first | rfl | (simp; done) | (simp [*]; done)), (by first | rfl | (simp; done) | (simp [*]; done)), H', ⟨by have := HK1.out; have := HK2.out; omega⟩, by repeat (first | exact Drawn0.refl _ | apply Drawn0.step)⟩
     rw [if_pos c7] at H
     have c7b0 : decide (x19_2 < 8) = true := decide_eq_true c7
     clear c7
     by_cases c8 : (wrap64 (x3_2 * 2)) > 65535
     rotate_left
     ·rw [if_neg c8] at H
      have c8b0 : decide (65535 < (wrap64 (x3_2 * 2))) = false := decide_eq_false c8
      clear c8
      have H' := A_.mk H
      clear H
      go_wp2
      go_roundg k2
      case measure => have := HK1.out; have := HK2.out; omega
      case rel => exact ⟨(wrap64 (x3_2 * 2)), (wrap64 (x19_2 + 1)), (by first | rfl | (simp; done) | (simp [*]; done)), (by first | rfl | (simp; done) | (simp [*]; done)), H', ⟨by have := HK1.out; have := HK2.out; omega⟩, by repeat (first | exact Drawn0.refl _ | apply Drawn0.step)⟩
     rw [if_pos c8] at H
     have c8b0 : decide (65535 < (wrap64 (x3_2 * 2))) = true := decide_eq_true c8
     clear c8
     have H' := A_.mk H
     clear H
     go_wp2
     go_roundg k2
     case measure => have := HK1.out; have := HK2.out; omega
     case rel => exact ⟨(Go.bits .xor .i64 (wrap64 (x3_2 * 2)) 69665), (wrap64 (x19_2 + 1)), (by first | rfl | (simp; done) | (simp [*]; done)), (by first | rfl | (simp; done) | (simp [*]; done)), H', ⟨by have := HK1.out; have := HK2.out; omega⟩, by repeat (first | exact Drawn0.refl _ | apply Drawn0.step)⟩
/-! ### impl_AddCheck: function 53 -/
def impl_AddCheck.j0 : Nat → List Int → Bool → Option (List Int)
 | 0, _, _ => none
 | k + 1, x0, x12 => if x12 = true then (some ([] : List Int)) else ((impl_CheckOf.f k x0).bind fun t243 => ((impl_SplitWord.f t243).bind fun bt244 => ((slices_Clone_int_int.f x0).bind fun t246 => ((some (([bt244.1, bt244.2] : List Int) : List Int)).bind fun y249 => (if t246.length + y249.length < 17592186044416 then (some (t246 ++ y249)) else (none))))))
def impl_AddCheck.f (k : Nat) (l0 : List Int) : Option (List Int) := (impl_AreBytes.f k l0).bind fun t242 => (if t242 = true then (impl_AddCheck.j0 k l0 (decide ((l0.length : Int) > 38))) else (impl_AddCheck.j0 k l0 true))
set_option maxHeartbeats 8000000 in
set_option maxRecDepth 100000 in
theorem impl_AddCheck.calls (k : Nat) (A0 : Option Addr) (c0 : Nat) (l0 : List Int) (r : List Int) (w : World) (hr0 : Kd.C (Kd.int .i64) w A0 l0.length l0) (hc0 : l0.length ≤ c0) (h : impl_AddCheck.f k l0 = some r) :
  Calls Try.prog 53 #[.slice A0 l0.length c0] w fun e w' => ∃ v0_ : Value, e = .returned (v0_) ∧ Kd.R (Kd.int .i64) 3 w' w.heap.size (fun _ => True) v0_ r ∧ Below w.heap.size w w' := by
 have HR0 := A_.mk hr0
 have HC0 := A_.mk hc0
 clear hr0 hc0
 have HB := A_.mk (Below.refl w.heap.size w)
 have H : ((impl_AreBytes.f k l0).bind fun t242 => (if t242 = true then (impl_AddCheck.j0 k l0 (decide ((l0.length : Int) > 38))) else (impl_AddCheck.j0 k l0 true))) = some r := h
 clear h
 have HC2 := A_.mk H
 clear H
 go_enter Try.func53, Try.ntmps53
 go_upto_region 1 with (fail)
 go_cut [12] (fun v12 wc => ∃ (kq : Nat) (x12_1 : Bool), v12 = .bool x12_1 ∧ A_ (impl_AddCheck.j0 kq l0 x12_1 = some r) ∧ A_ (kq ≤ k) ∧ A_ (Below w.heap.size w wc))
 case first =>
  have H := HC2.out
  clear HC2
  replace H := ob_ H
  obtain ⟨t242, A30, H⟩ := H
  have A3 := A_.mk A30
  clear A30
  by_cases c4 : t242 = true
  rotate_left
  ·replace c4 := Bool.eq_false_iff.mpr c4
   subst c4
   have H1 : (impl_AddCheck.j0 k l0 true) = some r := by rw [if_neg (show ¬ (false = true) by decide)] at H; exact H
   clear H
   have H := H1
   clear H1
   have H' := A_.mk H
   clear H
   go_wp2_with (first | ((with_reducible refine gc_ (f := 47) rfl ?_); refine gl_ (some 6) Try.func47 #[.slice A0 l0.length c0] ?_; (with_reducible refine (impl_AreBytes.calls k _ _ l0 false _ ?side1 ?side2 A3.out).mono ?_); (case side1 => exact cY ((Kd.C_below HR0.out HB.out))); (case side2 => exact HC0.out); rintro e w' ⟨rfl, ⟨nd, rfl⟩⟩; refine ⟨_, rfl, ?_⟩))
   go_meet
   case rel => exact ⟨_, (true), (by first | rfl | (simp; done) | (simp [*]; done)), H', ⟨by first | omega | exact Nat.le_refl _⟩, ⟨beY HB.out⟩⟩
  subst c4
  have H1 : (impl_AddCheck.j0 k l0 (decide ((l0.length : Int) > 38))) = some r := by rw [if_pos rfl] at H; exact H
  clear H
  have H := H1
  clear H1
  have H' := A_.mk H
  clear H
  go_wp2_with (first | ((with_reducible refine gc_ (f := 47) rfl ?_); refine gl_ (some 6) Try.func47 #[.slice A0 l0.length c0] ?_; (with_reducible refine (impl_AreBytes.calls k _ _ l0 true _ ?side1 ?side2 A3.out).mono ?_); (case side1 => exact cY ((Kd.C_below HR0.out HB.out))); (case side2 => exact HC0.out); rintro e w' ⟨rfl, ⟨nd, rfl⟩⟩; refine ⟨_, rfl, ?_⟩))
  go_meet
  case rel => exact ⟨_, (decide ((l0.length : Int) > 38)), (by first | rfl | (simp; done) | (simp [*]; done)), H', ⟨by first | omega | exact Nat.le_refl _⟩, ⟨beY HB.out⟩⟩
 case rest =>
  clear HC2
  obtain ⟨kq, x12_1, rfl, HA, HJ1, HB⟩ := hcut
  cases kq with
  | zero => exact absurd HA.out (by simp [impl_AddCheck.j0])
  | succ kj1 =>
   have H := HA.out
   clear HA
   simp only [impl_AddCheck.j0] at H
   by_cases c5 : x12_1 = true
   ·subst c5
    have H1 : (some ([] : List Int)) = some r := by rw [if_pos rfl] at H; exact H
    clear H
    have H := H1
    clear H1
    obtain rfl := Option.some.inj H
    go_wp2
    go_ret
    exact ⟨_, by first | rfl | (simp [errW_none, errW_some] <;> rfl) | (simp [*, errW_none, errW_some] <;> rfl), by first | exact Kd.R_nil _ _ _ _ _ | exact Kd.N_nil _ _ _ _ _ | exact Kd.V_nil _ _ _ _ _ | exact Kd.Q_nil _ _ _ _ _ | exact Kd.S_nil _ _ _ _ _, beY HB.out⟩
   replace c5 := Bool.eq_false_iff.mpr c5
   subst c5
   have H1 : ((impl_CheckOf.f kj1 l0).bind fun t243 => ((impl_SplitWord.f t243).bind fun bt244 => ((slices_Clone_int_int.f l0).bind fun t246 => ((some (([bt244.1, bt244.2] : List Int) : List Int)).bind fun y249 => (if t246.length + y249.length < 17592186044416 then (some (t246 ++ y249)) else (none)))))) = some r := by rw [if_neg (show ¬ (false = true) by decide)] at H; exact H
   clear H
   have H := H1
   clear H1
   replace H := ob_ H
   obtain ⟨t243, A60, H⟩ := H
   have A6 := A_.mk A60
   clear A60
   replace H := ob_ H
   obtain ⟨⟨t244, t245⟩, A70, H⟩ := H
   replace H : ((slices_Clone_int_int.f l0).bind fun t246 => ((some (([t244, t245] : List Int) : List Int)).bind fun y249 => (if t246.length + y249.length < 17592186044416 then (some (t246 ++ y249)) else (none)))) = some r := H
   have A7 := A_.mk A70
   clear A70
   replace H := ob_ H
   obtain ⟨t246, A80, H⟩ := H
   have A8 := A_.mk A80
   clear A80
   obtain ⟨y249, hy249⟩ : ∃ y_ : List Int, y_ = (([t244, t245] : List Int)) := ⟨_, rfl⟩
   replace H : (if t246.length + y249.length < 17592186044416 then (some (t246 ++ y249)) else (none)) = some r := by first | (rw [hy249]; with_reducible exact H) | (have H2_ := (Option.bind_some _ _).symm.trans H; rw [hy249]; with_reducible exact H2_) | (have H2_ := (Option.bind_some _ _).symm.trans H; with_reducible exact H2_) | with_reducible exact H | (rw [hy249]; exact H) | exact H
   have Ny249 := A_.mk hy249
   clear hy249
   by_cases c9 : t246.length + y249.length < 17592186044416
   rotate_left
   ·rw [if_neg c9] at H
    exact absurd H (by simp)
   rw [if_pos c9] at H
   have LMc9 := A_.mk c9
   clear c9
   obtain ⟨y252, hy252⟩ : ∃ y_ : List Int, y_ = (t246 ++ y249) := ⟨_, rfl⟩
   replace H : (some y252) = some r := by first | (rw [hy252]; with_reducible exact H) | (have H2_ := (Option.bind_some _ _).symm.trans H; rw [hy252]; with_reducible exact H2_) | (have H2_ := (Option.bind_some _ _).symm.trans H; with_reducible exact H2_) | with_reducible exact H | (rw [hy252]; exact H) | exact H
   have Ny252 := A_.mk hy252
   clear hy252
   obtain rfl := Option.some.inj H
   go_wp2_with (first | ((with_reducible refine gc_ (f := 63) rfl ?_); refine gl_ (some 15) Try.func63 #[.slice A0 l0.length c0] ?_; (with_reducible refine (impl_CheckOf.calls kj1 _ _ l0 t243 _ ?side1 ?side2 A6.out).mono ?_); (case side1 => exact cY ((Kd.C_below HR0.out HB.out))); (case side2 => exact HC0.out); rintro e w' ⟨rfl, ⟨nd, rfl⟩⟩; refine ⟨_, rfl, ?_⟩) | ((with_reducible refine gc_ (f := 62) rfl ?_); refine gl_ (some 16) Try.func62 #[.int .i64 t243] ?_; (with_reducible refine (impl_SplitWord.calls t243 t244 t245 _ A7.out).mono ?_); rintro e w' ⟨rfl, ⟨nd, rfl⟩⟩; refine ⟨_, rfl, ?_⟩) | ((with_reducible refine gc_ (f := 24) rfl ?_); refine gl_ (some 20) Try.func24 #[.slice A0 l0.length c0] ?_; (with_reducible refine (slices_Clone_int_int.calls _ _ l0 t246 _ ?side1 ?side2 A8.out).mono ?_); (case side1 => exact cY ((Kd.C_below HR0.out HB.out))); (case side2 => exact HC0.out); rintro e w10 ⟨v247, rfl, ho0, hb⟩; refine ⟨_, rfl, ?_⟩; have n0_ := A_.mk (Kd.R_lower ho0 (bz_ (beY HB.out))); have n1_ := A_.mk (bt_ (beY HB.out) hb); clear HB; have HO248 := n0_; have HB := n1_; clear n0_ n1_; (try clear hb); (try clear hb2); (try clear hk); (try clear hi); (try clear ho0)) | ((with_reducible refine gd_ (N := 23) rfl ?_); (try (refine gate_guard (by rfl) ?_; dsimp only)); refine Kd.R_lit (Kd.int .i64) _ 3 ?hg (N := 23) ?hd (xs := ([t244, t245] : List Int)) (inner := [.int .i64 t244, .int .i64 t245]) (ok := fun _ => True) (okp := fun _ => True) ?hr ?hp (fun _ hk => hk) trivial (Below.refl _ _) (Nat.le_refl _) (by simp) ?_; (case hd => rfl); (case hg => rfl); (case hr => first | (go_simp; done) | (go_simp; rfl)); (case hp => exact (Reps.one (show Kd.M (Kd.int .i64) _ _ _ t244 [.int .i64 t244] from rfl) (Reps.one (show Kd.M (Kd.int .i64) _ _ _ t245 [.int .i64 t245] from rfl) (Reps.none _ _)))); intro v250 w11 ho12 hb hg_ hnew_; clear hg_ hnew_; (first | rw [← Ny249.out] at ho12 | (simp only [Int.reduceToNat] at ho12; rw [← Ny249.out] at ho12)); have n0_ := A_.mk (Kd.R_elder' (rY HO248.out) (Kd.R_base ho12) hb); have n1_ := A_.mk (Kd.R_lower (Kd.R_new' ho12 (Kd.R_lt (rY HO248.out))) (bz_ (beY HB.out))); have n2_ := A_.mk (bt_ (beY HB.out) hb); clear HO248 HB; have HO248 := n0_; have HO251 := n1_; have HB := n2_; clear n0_ n1_ n2_ hb ho12; obtain ⟨Ao14, co14, eo14⟩ := Kd.R_slice HO251.out; subst eo14) | ((with_reducible refine gate_builtin (b := .append) (xs := #[.tmp 20, .tmp 23]) rfl ?_); (try (refine gate_guard (by rfl) ?_; dsimp only)); at_builtin; refine Kd.R_append_rows (Kd.int .i64) (w0 := w) w.heap.size rfl (.tmp 20) (.tmp 23) 32 3 (.int .i64 0) 8 rfl Try.underlying32 info3 rfl (by decide) (by omega) v247 t246 y249 _ _ _ (fun k_ => some k_ ≠ (.slice Ao14 y249.length co14 : Value).ownBlock) (fun _ => False) rfl rfl ?aO ?aR (fun _ _ h => h) (fun _ h => h.elim) ?aF ?aB ?aS ?aL ?_; (case aR => repeat (first | exact (Kd.R_reads' HO251.out).2.2 | (with_reducible refine Kd.C_alloc ?_ _) | (with_reducible refine Kd.C_drewN ?_ _) | (with_reducible refine Kd.C_drew ?_))); (case aB => exact (beY HB.out)); (case aF => exact (fun k_ hk => Kd.fresh' (Kd.R_lt (rY HO251.out)) k_ hk)); (case aO => exact (by (repeat apply rX); exact Kd.R_mono HO248.out (fun _ hk => hk.2))); (case aS => exact (bz_ (beY HB.out))); (case aL => have := LMc9.out; omega); intro v253 w13 ho hb hg hat; rw [← Ny252.out] at ho; have n0_ := A_.mk (Kd.R_after (ok := (fun _ => True)) (rY HO251.out) hg hat); have n1_ := A_.mk (hb); have n2_ := A_.mk (ho); clear HO251 HB HO248; have HO251 := n0_; have HB := n1_; have HO254 := n2_; clear n0_ n1_ n2_ ho hb hg hat))
   go_ret
   exact ⟨_, by first | rfl | (simp [errW_none, errW_some] <;> rfl) | (simp [*, errW_none, errW_some] <;> rfl), by (repeat apply rX); exact Kd.R_mono HO254.out (fun _ hk => trivial), beY HB.out⟩
end Go.Proofs.Ytflopendlbciaaa.PFnLinkOnce
