-- Written by a program of this session (wip/xp): not trusted, Lean checks it.
import Derived.Test.YtbdehpmfemgooaaPFnQueuesx0
import Derived.Test.YtbdehpmfemgooaaPFnQueuesx3
namespace Go.Proofs.Ytbdehpmfemgooaa.PFnQueues
open Go.RowKit Go.Proofs.YtbdehpmfemgooaaW.PrintWords Go.Proofs.YtbdehpmfemgooaaW.PrintLast Go.Proofs.YtbdehpmfemgooaaW.PrintMore
attribute [local go_sem] max2_int min2_int max_two min_two max_three min_three max_four min_four   -- for this text's walks alone
set_option linter.unusedVariables false
set_option linter.unusedSimpArgs false

/-! ### impl_classOf: function 96 -/
def impl_classOf.j0 : Nat → Int → Bool → Option (Int)
 | 0, _, _ => none
 | k + 1, x3, x4 => if x4 = true then (some 0) else (if x3 = 6 then (some 2) else (some 1))
def impl_classOf.f (k : Nat) (a0 : Int) : Option (Int) := if a0 = 1 then (impl_classOf.j0 k a0 (a0 == 1)) else (impl_classOf.j0 k a0 (a0 == 2))
set_option maxHeartbeats 8000000 in
set_option maxRecDepth 100000 in
theorem impl_classOf.calls (k : Nat) (a0 : Int) (r : Int) (w : World) (h : impl_classOf.f k a0 = some r) :
  Calls Try.prog 96 #[.int .i64 a0] w fun e w' => e = .returned (.int .i64 r) ∧ Drawn0 w w' := by
 have H : (if a0 = 1 then (impl_classOf.j0 k a0 (a0 == 1)) else (impl_classOf.j0 k a0 (a0 == 2))) = some r := h
 clear h
 have HC2 := A_.mk H
 clear H
 go_enter Try.func96, Try.ntmps96
 go_upto_if 4 with (fail)
 go_cut [4] (fun v4 wc => ∃ (kq : Nat) (x4_1 : Bool), v4 = .bool x4_1 ∧ A_ (impl_classOf.j0 kq a0 x4_1 = some r) ∧ A_ (kq ≤ k) ∧ Drawn0 w wc)
 case first =>
  have H := HC2.out
  clear HC2
  by_cases c3 : a0 = 1
  ·rw [if_pos c3] at H
   have c3b0 : (a0 == 1) = true := beq_iff_eq.mpr c3
   have c3b1 : (a0 != 1) = false := bne_eq_false_iff_eq.mpr c3
   clear c3
   (first | rw [c3b0] | (simp only [i64_w, i32_w]; rw [c3b0]) | skip)
   have H' := A_.mk H
   clear H
   go_wp2
   go_meet
   case rel => exact ⟨_, ((a0 == 1)), (by first | rfl | (simp; done) | (simp [*]; done)), H', ⟨by first | omega | exact Nat.le_refl _⟩, by repeat (first | exact Drawn0.refl _ | apply Drawn0.step)⟩
  ·rw [if_neg c3] at H
   have c3b0 : (a0 == 1) = false := beq_eq_false_iff_ne.mpr c3
   have c3b1 : (a0 != 1) = true := bne_iff_ne.mpr c3
   (first | rw [c3b0] | (simp only [i64_w, i32_w]; rw [c3b0]) | skip)
   have H' := A_.mk H
   clear H
   go_wp2
   go_meet
   case rel => exact ⟨_, ((a0 == 2)), (by first | rfl | (simp; done) | (simp [*]; done)), H', ⟨by first | omega | exact Nat.le_refl _⟩, by repeat (first | exact Drawn0.refl _ | apply Drawn0.step)⟩
 case rest =>
  clear HC2
  obtain ⟨kq, x4_1, rfl, HA, HJ1, ⟨mc1, rfl⟩⟩ := hcut
  cases kq with
  | zero => exact absurd HA.out (by simp [impl_classOf.j0])
  | succ kj1 =>
   have H := HA.out
   clear HA
   simp only [impl_classOf.j0] at H
   by_cases c4 : x4_1 = true
   ·subst c4
    have H1 : (some 0) = some r := by rw [if_pos rfl] at H; exact H
    clear H
    have H := H1
    clear H1
    obtain rfl := Option.some.inj H
    go_wp2
    go_ret
    exact ⟨by first | rfl | (simp; done) | (simp [*]; done), by repeat (first | exact Drawn0.refl _ | apply Drawn0.step)⟩
   ·replace c4 := Bool.eq_false_iff.mpr c4
    subst c4
    have H1 : (if a0 = 6 then (some 2) else (some 1)) = some r := by rw [if_neg (show ¬ (false = true) by decide)] at H; exact H
    clear H
    have H := H1
    clear H1
    by_cases c5 : a0 = 6
    ·rw [if_pos c5] at H
     have c5b0 : (a0 == 6) = true := beq_iff_eq.mpr c5
     have c5b1 : (a0 != 6) = false := bne_eq_false_iff_eq.mpr c5
     clear c5
     obtain rfl := Option.some.inj H
     go_wp2
     go_ret
     exact ⟨by first | rfl | (simp; done) | (simp [*]; done), by repeat (first | exact Drawn0.refl _ | apply Drawn0.step)⟩
    ·rw [if_neg c5] at H
     have c5b0 : (a0 == 6) = false := beq_eq_false_iff_ne.mpr c5
     have c5b1 : (a0 != 6) = true := bne_iff_ne.mpr c5
     obtain rfl := Option.some.inj H
     go_wp2
     go_ret
     exact ⟨by first | rfl | (simp; done) | (simp [*]; done), by repeat (first | exact Drawn0.refl _ | apply Drawn0.step)⟩

/-! ### impl_ClassOf: function 79 -/
def impl_ClassOf.f (k : Nat) (a0_0 : Int) (a0_1 : Int) (a0_2 : Int) (a0_3 : Int) (a0_4 : Int) (a0_5 : Int) (a0_6 : Int) (l0_7 : List Int) : Option (Int) := (impl_IsPacket.f k a0_0 a0_1 a0_2 a0_3 a0_4 a0_5 a0_6 l0_7).bind fun t134 => (if t134 = true then ((impl_classOf.f k a0_0).bind fun t135 => (some t135)) else (some (-1)))
set_option maxHeartbeats 8000000 in
set_option maxRecDepth 100000 in
theorem impl_ClassOf.calls (k : Nat) (a0_0 : Int) (a0_1 : Int) (a0_2 : Int) (a0_3 : Int) (a0_4 : Int) (a0_5 : Int) (a0_6 : Int) (A0_7 : Option Addr) (c0_7 : Nat) (l0_7 : List Int) (r : Int) (w : World) (hr0_7 : Kd.C (Kd.int .i64) w A0_7 l0_7.length l0_7) (hc0_7 : l0_7.length ≤ c0_7) (h : impl_ClassOf.f k a0_0 a0_1 a0_2 a0_3 a0_4 a0_5 a0_6 l0_7 = some r) :
  Calls Try.prog 79 #[.agg #[.int .i64 a0_0, .int .i64 a0_1, .int .i64 a0_2, .int .i64 a0_3, .int .i64 a0_4, .int .i64 a0_5, .int .i64 a0_6, .slice A0_7 l0_7.length c0_7]] w fun e w' => e = .returned (.int .i64 r) ∧ Below w.heap.size w w' := by
 have hu60 := Try.underlying60
 have HR0_7 := A_.mk hr0_7
 have HC0_7 := A_.mk hc0_7
 clear hr0_7 hc0_7
 have HB := A_.mk (Below.refl w.heap.size w)
 have H : ((impl_IsPacket.f k a0_0 a0_1 a0_2 a0_3 a0_4 a0_5 a0_6 l0_7).bind fun t134 => (if t134 = true then ((impl_classOf.f k a0_0).bind fun t135 => (some t135)) else (some (-1)))) = some r := h
 clear h
 replace H := ob_ H
 obtain ⟨t134, A20, H⟩ := H
 have A2 := A_.mk A20
 clear A20
 by_cases c3 : t134 = true
 rotate_left
 ·replace c3 := Bool.eq_false_iff.mpr c3
  subst c3
  have H1 : (some (-1)) = some r := by rw [if_neg (show ¬ (false = true) by decide)] at H; exact H
  clear H
  have H := H1
  clear H1
  obtain rfl := Option.some.inj H
  go_enter Try.func79, Try.ntmps79
  go_wp2_with (first | ((with_reducible refine gd_ (N := 1) rfl ?_); refine by_ 1 (cs := #[.int .i64 a0_0, .int .i64 a0_1, .int .i64 a0_2, .int .i64 a0_3, .int .i64 a0_4, .int .i64 a0_5, .int .i64 a0_6, .slice A0_7 l0_7.length c0_7]) (t := 60) ?_; intro gb133 hg w9 hbox hb; have n0_ := A_.mk (bt_ (beY HB.out) hb); have n1_ := A_.mk (hbox); have n2_ := A_.mk ((by rw [hg]; exact (bz_ (beY HB.out)) : w.heap.size ≤ gb133)); have n3_ := A_.mk ((by rw [hg]; exact (bz_ (beY HB.out)) : w.heap.size ≤ gb133)); clear HB; have HB := n0_; have BK133 := n1_; have GW133 := n2_; have GE133 := n3_; clear n0_ n1_ n2_ n3_ hb hbox hg; have hcz10_0 : w9.cell? ⟨gb133, 0, none⟩ = some (.int .i64 a0_0) := (bc_ BK133.out 0).trans rfl; have hcz10_1 : w9.cell? ⟨gb133, 1, none⟩ = some (.int .i64 a0_1) := (bc_ BK133.out 1).trans rfl; have hcz10_2 : w9.cell? ⟨gb133, 2, none⟩ = some (.int .i64 a0_2) := (bc_ BK133.out 2).trans rfl; have hcz10_3 : w9.cell? ⟨gb133, 3, none⟩ = some (.int .i64 a0_3) := (bc_ BK133.out 3).trans rfl; have hcz10_4 : w9.cell? ⟨gb133, 4, none⟩ = some (.int .i64 a0_4) := (bc_ BK133.out 4).trans rfl; have hcz10_5 : w9.cell? ⟨gb133, 5, none⟩ = some (.int .i64 a0_5) := (bc_ BK133.out 5).trans rfl; have hcz10_6 : w9.cell? ⟨gb133, 6, none⟩ = some (.int .i64 a0_6) := (bc_ BK133.out 6).trans rfl; have hcz10_7 : w9.cell? ⟨gb133, 7, none⟩ = some (.slice A0_7 l0_7.length c0_7) := (bc_ BK133.out 7).trans rfl; have hfz10_0 := bf_ BK133.out 0; have hfz10_1 := bf_ BK133.out 1; have hfz10_2 := bf_ BK133.out 2; have hfz10_3 := bf_ BK133.out 3; have hfz10_4 := bf_ BK133.out 4; have hfz10_5 := bf_ BK133.out 5; have hfz10_6 := bf_ BK133.out 6; have hfz10_7 := bf_ BK133.out 7) | ((with_reducible refine gc_ (f := 65) rfl ?_); refine gl_ (some 4) Try.func65 #[.agg #[.int .i64 a0_0, .int .i64 a0_1, .int .i64 a0_2, .int .i64 a0_3, .int .i64 a0_4, .int .i64 a0_5, .int .i64 a0_6, .slice A0_7 l0_7.length c0_7]] ?_; (with_reducible refine (impl_IsPacket.calls k a0_0 a0_1 a0_2 a0_3 a0_4 a0_5 a0_6 _ _ l0_7 false _ ?side1 ?side2 A2.out).mono ?_); (case side1 => exact cY ((Kd.C_below HR0_7.out HB.out))); (case side2 => exact HC0_7.out); rintro e w11 ⟨rfl, hb⟩; refine ⟨_, rfl, ?_⟩; have n0_ := A_.mk (bb_ (bY BK133.out) hb); have n1_ := A_.mk (bt_ (by repeat (first | (with_reducible first | exact HB.out | apply ba_ | apply bd_ | apply be_ | refine bs_ ?_ GE133.out) | exact HB.out)) hb); clear BK133 HB; have BK133 := n0_; have HB := n1_; clear n0_ n1_; (try clear hb); (try clear hb2); (try clear hk); (try clear hi)))
  go_ret
  exact ⟨by first | rfl | (simp [errW_none, errW_some] <;> rfl) | (simp [*, errW_none, errW_some] <;> rfl), by repeat (first | (with_reducible first | exact HB.out | apply ba_ | apply bd_ | apply be_ | refine bs_ ?_ GE133.out) | exact HB.out)⟩
 subst c3
 have H1 : ((impl_classOf.f k a0_0).bind fun t135 => (some t135)) = some r := by rw [if_pos rfl] at H; exact H
 clear H
 have H := H1
 clear H1
 replace H := ob_ H
 obtain ⟨t135, A40, H⟩ := H
 have A4 := A_.mk A40
 clear A40
 obtain rfl := Option.some.inj H
 go_enter Try.func79, Try.ntmps79
 go_wp2_with (first | ((with_reducible refine gd_ (N := 1) rfl ?_); refine by_ 1 (cs := #[.int .i64 a0_0, .int .i64 a0_1, .int .i64 a0_2, .int .i64 a0_3, .int .i64 a0_4, .int .i64 a0_5, .int .i64 a0_6, .slice A0_7 l0_7.length c0_7]) (t := 60) ?_; intro gb133 hg w5 hbox hb; have n0_ := A_.mk (bt_ (beY HB.out) hb); have n1_ := A_.mk (hbox); have n2_ := A_.mk ((by rw [hg]; exact (bz_ (beY HB.out)) : w.heap.size ≤ gb133)); have n3_ := A_.mk ((by rw [hg]; exact (bz_ (beY HB.out)) : w.heap.size ≤ gb133)); clear HB; have HB := n0_; have BK133 := n1_; have GW133 := n2_; have GE133 := n3_; clear n0_ n1_ n2_ n3_ hb hbox hg; have hcz6_0 : w5.cell? ⟨gb133, 0, none⟩ = some (.int .i64 a0_0) := (bc_ BK133.out 0).trans rfl; have hcz6_1 : w5.cell? ⟨gb133, 1, none⟩ = some (.int .i64 a0_1) := (bc_ BK133.out 1).trans rfl; have hcz6_2 : w5.cell? ⟨gb133, 2, none⟩ = some (.int .i64 a0_2) := (bc_ BK133.out 2).trans rfl; have hcz6_3 : w5.cell? ⟨gb133, 3, none⟩ = some (.int .i64 a0_3) := (bc_ BK133.out 3).trans rfl; have hcz6_4 : w5.cell? ⟨gb133, 4, none⟩ = some (.int .i64 a0_4) := (bc_ BK133.out 4).trans rfl; have hcz6_5 : w5.cell? ⟨gb133, 5, none⟩ = some (.int .i64 a0_5) := (bc_ BK133.out 5).trans rfl; have hcz6_6 : w5.cell? ⟨gb133, 6, none⟩ = some (.int .i64 a0_6) := (bc_ BK133.out 6).trans rfl; have hcz6_7 : w5.cell? ⟨gb133, 7, none⟩ = some (.slice A0_7 l0_7.length c0_7) := (bc_ BK133.out 7).trans rfl; have hfz6_0 := bf_ BK133.out 0; have hfz6_1 := bf_ BK133.out 1; have hfz6_2 := bf_ BK133.out 2; have hfz6_3 := bf_ BK133.out 3; have hfz6_4 := bf_ BK133.out 4; have hfz6_5 := bf_ BK133.out 5; have hfz6_6 := bf_ BK133.out 6; have hfz6_7 := bf_ BK133.out 7) | ((with_reducible refine gc_ (f := 65) rfl ?_); refine gl_ (some 4) Try.func65 #[.agg #[.int .i64 a0_0, .int .i64 a0_1, .int .i64 a0_2, .int .i64 a0_3, .int .i64 a0_4, .int .i64 a0_5, .int .i64 a0_6, .slice A0_7 l0_7.length c0_7]] ?_; (with_reducible refine (impl_IsPacket.calls k a0_0 a0_1 a0_2 a0_3 a0_4 a0_5 a0_6 _ _ l0_7 true _ ?side1 ?side2 A2.out).mono ?_); (case side1 => exact cY ((Kd.C_below HR0_7.out HB.out))); (case side2 => exact HC0_7.out); rintro e w7 ⟨rfl, hb⟩; refine ⟨_, rfl, ?_⟩; have n0_ := A_.mk (bb_ (bY BK133.out) hb); have n1_ := A_.mk (bt_ (by repeat (first | (with_reducible first | exact HB.out | apply ba_ | apply bd_ | apply be_ | refine bs_ ?_ GE133.out) | exact HB.out)) hb); clear BK133 HB; have BK133 := n0_; have HB := n1_; clear n0_ n1_; (try clear hb); (try clear hb2); (try clear hk); (try clear hi); have hcz8_0 : w7.cell? ⟨gb133, 0, none⟩ = some (.int .i64 a0_0) := (bc_ BK133.out 0).trans rfl; have hcz8_1 : w7.cell? ⟨gb133, 1, none⟩ = some (.int .i64 a0_1) := (bc_ BK133.out 1).trans rfl; have hcz8_2 : w7.cell? ⟨gb133, 2, none⟩ = some (.int .i64 a0_2) := (bc_ BK133.out 2).trans rfl; have hcz8_3 : w7.cell? ⟨gb133, 3, none⟩ = some (.int .i64 a0_3) := (bc_ BK133.out 3).trans rfl; have hcz8_4 : w7.cell? ⟨gb133, 4, none⟩ = some (.int .i64 a0_4) := (bc_ BK133.out 4).trans rfl; have hcz8_5 : w7.cell? ⟨gb133, 5, none⟩ = some (.int .i64 a0_5) := (bc_ BK133.out 5).trans rfl; have hcz8_6 : w7.cell? ⟨gb133, 6, none⟩ = some (.int .i64 a0_6) := (bc_ BK133.out 6).trans rfl; have hcz8_7 : w7.cell? ⟨gb133, 7, none⟩ = some (.slice A0_7 l0_7.length c0_7) := (bc_ BK133.out 7).trans rfl; have hfz8_0 := bf_ BK133.out 0; have hfz8_1 := bf_ BK133.out 1; have hfz8_2 := bf_ BK133.out 2; have hfz8_3 := bf_ BK133.out 3; have hfz8_4 := bf_ BK133.out 4; have hfz8_5 := bf_ BK133.out 5; have hfz8_6 := bf_ BK133.out 6; have hfz8_7 := bf_ BK133.out 7) | ((with_reducible refine gc_ (f := 96) rfl ?_); refine gl_ (some 8) Try.func96 #[.int .i64 a0_0] ?_; (with_reducible refine (impl_classOf.calls k a0_0 t135 _ A4.out).mono ?_); rintro e w' ⟨rfl, ⟨nd, rfl⟩⟩; refine ⟨_, rfl, ?_⟩))
 go_ret
 exact ⟨by first | rfl | (simp [errW_none, errW_some] <;> rfl) | (simp [*, errW_none, errW_some] <;> rfl), by repeat (first | (with_reducible first | exact HB.out | apply ba_ | apply bd_ | apply be_ | refine bs_ ?_ GE133.out) | exact HB.out)⟩
/-! ### impl_MayPass: function 57 -/
def impl_MayPass.j0 : Nat → Bool → Int → Int → Int → Int → Int → Int → Int → List Int → Int → Int → Int → Int → Int → Int → Int → List Int → Option (Bool)
 | 0, _, _, _, _, _, _, _, _, _, _, _, _, _, _, _, _, _ => none
 | k + 1, x17, x137000, x137001, x137002, x137003, x137004, x137005, x137006, x137007, x138000, x138001, x138002, x138003, x138004, x138005, x138006, x138007 => if x17 = true then (some false) else ((impl_ClassOf.f k x137000 x137001 x137002 x137003 x137004 x137005 x137006 x137007).bind fun t141 => (if t141 = 2 then ((impl_ClassOf.f k x138000 x138001 x138002 x138003 x138004 x138005 x138006 x138007).bind fun t142 => (if t142 = 2 then (if x137002 = x138002 then (some (x137005 != x138005)) else (some true)) else (some true))) else (some true)))
def impl_MayPass.f (k : Nat) (a0_0 : Int) (a0_1 : Int) (a0_2 : Int) (a0_3 : Int) (a0_4 : Int) (a0_5 : Int) (a0_6 : Int) (l0_7 : List Int) (a1_0 : Int) (a1_1 : Int) (a1_2 : Int) (a1_3 : Int) (a1_4 : Int) (a1_5 : Int) (a1_6 : Int) (l1_7 : List Int) : Option (Bool) := (impl_IsPacket.f k a0_0 a0_1 a0_2 a0_3 a0_4 a0_5 a0_6 l0_7).bind fun t138 => (if t138 = true then ((impl_IsPacket.f k a1_0 a1_1 a1_2 a1_3 a1_4 a1_5 a1_6 l1_7).bind fun t139 => (if t139 = true then ((impl_ClassOf.f k a1_0 a1_1 a1_2 a1_3 a1_4 a1_5 a1_6 l1_7).bind fun t140 => (impl_MayPass.j0 k (t140 == 0) a0_0 a0_1 a0_2 a0_3 a0_4 a0_5 a0_6 l0_7 a1_0 a1_1 a1_2 a1_3 a1_4 a1_5 a1_6 l1_7)) else (impl_MayPass.j0 k true a0_0 a0_1 a0_2 a0_3 a0_4 a0_5 a0_6 l0_7 a1_0 a1_1 a1_2 a1_3 a1_4 a1_5 a1_6 l1_7))) else (impl_MayPass.j0 k true a0_0 a0_1 a0_2 a0_3 a0_4 a0_5 a0_6 l0_7 a1_0 a1_1 a1_2 a1_3 a1_4 a1_5 a1_6 l1_7))
set_option maxHeartbeats 8000000 in
set_option maxRecDepth 100000 in
theorem impl_MayPass.calls (k : Nat) (a0_0 : Int) (a0_1 : Int) (a0_2 : Int) (a0_3 : Int) (a0_4 : Int) (a0_5 : Int) (a0_6 : Int) (A0_7 : Option Addr) (c0_7 : Nat) (l0_7 : List Int) (a1_0 : Int) (a1_1 : Int) (a1_2 : Int) (a1_3 : Int) (a1_4 : Int) (a1_5 : Int) (a1_6 : Int) (A1_7 : Option Addr) (c1_7 : Nat) (l1_7 : List Int) (r : Bool) (w : World) (hr0_7 : Kd.C (Kd.int .i64) w A0_7 l0_7.length l0_7) (hc0_7 : l0_7.length ≤ c0_7) (hr1_7 : Kd.C (Kd.int .i64) w A1_7 l1_7.length l1_7) (hc1_7 : l1_7.length ≤ c1_7) (h : impl_MayPass.f k a0_0 a0_1 a0_2 a0_3 a0_4 a0_5 a0_6 l0_7 a1_0 a1_1 a1_2 a1_3 a1_4 a1_5 a1_6 l1_7 = some r) :
  Calls Try.prog 57 #[.agg #[.int .i64 a0_0, .int .i64 a0_1, .int .i64 a0_2, .int .i64 a0_3, .int .i64 a0_4, .int .i64 a0_5, .int .i64 a0_6, .slice A0_7 l0_7.length c0_7], .agg #[.int .i64 a1_0, .int .i64 a1_1, .int .i64 a1_2, .int .i64 a1_3, .int .i64 a1_4, .int .i64 a1_5, .int .i64 a1_6, .slice A1_7 l1_7.length c1_7]] w fun e w' => e = .returned (.bool r) ∧ Below w.heap.size w w' := by
 have hu60 := Try.underlying60
 have HR0_7 := A_.mk hr0_7
 have HC0_7 := A_.mk hc0_7
 clear hr0_7 hc0_7
 have HR1_7 := A_.mk hr1_7
 have HC1_7 := A_.mk hc1_7
 clear hr1_7 hc1_7
 have HB := A_.mk (Below.refl w.heap.size w)
 have H : ((impl_IsPacket.f k a0_0 a0_1 a0_2 a0_3 a0_4 a0_5 a0_6 l0_7).bind fun t138 => (if t138 = true then ((impl_IsPacket.f k a1_0 a1_1 a1_2 a1_3 a1_4 a1_5 a1_6 l1_7).bind fun t139 => (if t139 = true then ((impl_ClassOf.f k a1_0 a1_1 a1_2 a1_3 a1_4 a1_5 a1_6 l1_7).bind fun t140 => (impl_MayPass.j0 k (t140 == 0) a0_0 a0_1 a0_2 a0_3 a0_4 a0_5 a0_6 l0_7 a1_0 a1_1 a1_2 a1_3 a1_4 a1_5 a1_6 l1_7)) else (impl_MayPass.j0 k true a0_0 a0_1 a0_2 a0_3 a0_4 a0_5 a0_6 l0_7 a1_0 a1_1 a1_2 a1_3 a1_4 a1_5 a1_6 l1_7))) else (impl_MayPass.j0 k true a0_0 a0_1 a0_2 a0_3 a0_4 a0_5 a0_6 l0_7 a1_0 a1_1 a1_2 a1_3 a1_4 a1_5 a1_6 l1_7))) = some r := h
 clear h
 have HC3 := A_.mk H
 clear H
 go_enter Try.func57, Try.ntmps57
 go_upto_region 1 with (first | ((with_reducible refine gd_ (N := 2) rfl ?_); refine by_ 2 (cs := #[.int .i64 a0_0, .int .i64 a0_1, .int .i64 a0_2, .int .i64 a0_3, .int .i64 a0_4, .int .i64 a0_5, .int .i64 a0_6, .slice A0_7 l0_7.length c0_7]) (t := 60) ?_; intro gb136 hg w4 hbox hb; have n0_ := A_.mk (bt_ (beY HB.out) hb); have n1_ := A_.mk (hbox); have n2_ := A_.mk ((by rw [hg]; exact (bz_ (beY HB.out)) : w.heap.size ≤ gb136)); have n3_ := A_.mk ((by rw [hg]; exact (bz_ (beY HB.out)) : w.heap.size ≤ gb136)); clear HB; have HB := n0_; have BK136 := n1_; have GW136 := n2_; have GE136 := n3_; clear n0_ n1_ n2_ n3_ hb hbox hg) | ((with_reducible refine gd_ (N := 3) rfl ?_); refine by_ 3 (cs := #[.int .i64 a1_0, .int .i64 a1_1, .int .i64 a1_2, .int .i64 a1_3, .int .i64 a1_4, .int .i64 a1_5, .int .i64 a1_6, .slice A1_7 l1_7.length c1_7]) (t := 60) ?_; intro gb137 hg w5 hbox hb; have n0_ := A_.mk (bb_ (bY BK136.out) hb); have n1_ := A_.mk (bt_ (by repeat (first | (with_reducible first | exact HB.out | apply ba_ | apply bd_ | apply be_ | refine bs_ ?_ GE136.out) | exact HB.out)) hb); have n2_ := A_.mk (hbox); have n3_ := A_.mk ((by rw [hg]; exact (bz_ (by repeat (first | (with_reducible first | exact HB.out | apply ba_ | apply bd_ | apply be_ | refine bs_ ?_ GE136.out) | exact HB.out))) : w.heap.size ≤ gb137)); have n4_ := A_.mk ((by rw [hg]; exact (bz_ (by repeat (first | (with_reducible first | exact HB.out | apply ba_ | apply bd_ | apply be_ | refine bs_ ?_ GE136.out) | exact HB.out))) : w.heap.size ≤ gb137)); have n5_ := A_.mk ((by rw [hg]; exact Nat.ne_of_lt (blk_lt (bY BK136.out)) : gb136 ≠ gb137)); have n6_ := A_.mk ((by rw [hg]; exact Nat.ne_of_gt (blk_lt (bY BK136.out)) : gb137 ≠ gb136)); clear BK136 HB; have BK136 := n0_; have HB := n1_; have BK137 := n2_; have GW137 := n3_; have GE137 := n4_; have NB136_137 := n5_; have NB137_136 := n6_; clear n0_ n1_ n2_ n3_ n4_ n5_ n6_ hb hbox hg))
 (try simp only [Act.put, List.setIfInBounds_toArray, List.set_cons_zero, List.set_cons_succ])
 go_cut [17] (fun v17 wc => ∃ (kq : Nat) (x17_2 : Bool), v17 = .bool x17_2 ∧ A_ (impl_MayPass.j0 kq x17_2 a0_0 a0_1 a0_2 a0_3 a0_4 a0_5 a0_6 l0_7 a1_0 a1_1 a1_2 a1_3 a1_4 a1_5 a1_6 l1_7 = some r) ∧ A_ (kq ≤ k) ∧ A_ (wc.heap[gb136]? = some (.cells #[.int .i64 a0_0, .int .i64 a0_1, .int .i64 a0_2, .int .i64 a0_3, .int .i64 a0_4, .int .i64 a0_5, .int .i64 a0_6, (.slice A0_7 l0_7.length c0_7)] 60 (0, 0))) ∧ A_ (wc.heap[gb137]? = some (.cells #[.int .i64 a1_0, .int .i64 a1_1, .int .i64 a1_2, .int .i64 a1_3, .int .i64 a1_4, .int .i64 a1_5, .int .i64 a1_6, (.slice A1_7 l1_7.length c1_7)] 60 (0, 0))) ∧ A_ (Below w.heap.size w wc))
 case first =>
  have H := HC3.out
  clear HC3
  replace H := ob_ H
  obtain ⟨t138, A60, H⟩ := H
  have A6 := A_.mk A60
  clear A60
  by_cases c7 : t138 = true
  rotate_left
  ·replace c7 := Bool.eq_false_iff.mpr c7
   subst c7
   have H1 : (impl_MayPass.j0 k true a0_0 a0_1 a0_2 a0_3 a0_4 a0_5 a0_6 l0_7 a1_0 a1_1 a1_2 a1_3 a1_4 a1_5 a1_6 l1_7) = some r := by rw [if_neg (show ¬ (false = true) by decide)] at H; exact H
   clear H
   have H := H1
   clear H1
   have H' := A_.mk H
   clear H
   have hnb23 := NB136_137.out
   have hnc23 := NB137_136.out
   obtain ⟨hcz24_0, hcz24_1, hcz24_2, hcz24_3, hcz24_4, hcz24_5, hcz24_6, hcz24_7, hfz24_0, hfz24_1, hfz24_2, hfz24_3, hfz24_4, hfz24_5, hfz24_6, hfz24_7⟩ := b8 BK136.out
   go_wp2_with (first | ((with_reducible refine gc_ (f := 65) rfl ?_); refine gl_ (some 6) Try.func65 #[.agg #[.int .i64 a0_0, .int .i64 a0_1, .int .i64 a0_2, .int .i64 a0_3, .int .i64 a0_4, .int .i64 a0_5, .int .i64 a0_6, .slice A0_7 l0_7.length c0_7]] ?_; (with_reducible refine (impl_IsPacket.calls k a0_0 a0_1 a0_2 a0_3 a0_4 a0_5 a0_6 _ _ l0_7 false _ ?side1 ?side2 A6.out).mono ?_); (case side1 => exact cY ((Kd.C_below HR0_7.out HB.out))); (case side2 => exact HC0_7.out); rintro e w25 ⟨rfl, hb⟩; refine ⟨_, rfl, ?_⟩; have n0_ := A_.mk (bb_ (bY BK136.out) hb); have n1_ := A_.mk (bb_ (bY BK137.out) hb); have n2_ := A_.mk (bt_ (by repeat (first | (with_reducible first | exact HB.out | apply ba_ | apply bd_ | apply be_ | refine bs_ ?_ GE136.out | refine bs_ ?_ GE137.out) | exact HB.out)) hb); clear BK136 BK137 HB; have BK136 := n0_; have BK137 := n1_; have HB := n2_; clear n0_ n1_ n2_; (try clear hb); (try clear hb2); (try clear hk); (try clear hi)))
   go_meet
   case rel => exact ⟨_, (true), (by first | rfl | (simp; done) | (simp [*]; done)), H', ⟨by first | omega | exact Nat.le_refl _⟩, ⟨by (repeat apply bX); exact BK136.out⟩, ⟨by (repeat apply bX); exact BK137.out⟩, ⟨by repeat (first | (with_reducible first | exact HB.out | apply ba_ | apply bd_ | apply be_ | refine bs_ ?_ GE136.out | refine bs_ ?_ GE137.out) | exact HB.out)⟩⟩
  subst c7
  have H1 : ((impl_IsPacket.f k a1_0 a1_1 a1_2 a1_3 a1_4 a1_5 a1_6 l1_7).bind fun t139 => (if t139 = true then ((impl_ClassOf.f k a1_0 a1_1 a1_2 a1_3 a1_4 a1_5 a1_6 l1_7).bind fun t140 => (impl_MayPass.j0 k (t140 == 0) a0_0 a0_1 a0_2 a0_3 a0_4 a0_5 a0_6 l0_7 a1_0 a1_1 a1_2 a1_3 a1_4 a1_5 a1_6 l1_7)) else (impl_MayPass.j0 k true a0_0 a0_1 a0_2 a0_3 a0_4 a0_5 a0_6 l0_7 a1_0 a1_1 a1_2 a1_3 a1_4 a1_5 a1_6 l1_7))) = some r := by rw [if_pos rfl] at H; exact H
  clear H
  have H := H1
  clear H1
  replace H := ob_ H
  obtain ⟨t139, A80, H⟩ := H
  have A8 := A_.mk A80
  clear A80
  by_cases c9 : t139 = true
  rotate_left
  ·replace c9 := Bool.eq_false_iff.mpr c9
   subst c9
   have H1 : (impl_MayPass.j0 k true a0_0 a0_1 a0_2 a0_3 a0_4 a0_5 a0_6 l0_7 a1_0 a1_1 a1_2 a1_3 a1_4 a1_5 a1_6 l1_7) = some r := by rw [if_neg (show ¬ (false = true) by decide)] at H; exact H
   clear H
   have H := H1
   clear H1
   have H' := A_.mk H
   clear H
   have hnb18 := NB136_137.out
   have hnc18 := NB137_136.out
   obtain ⟨hcz19_0, hcz19_1, hcz19_2, hcz19_3, hcz19_4, hcz19_5, hcz19_6, hcz19_7, hfz19_0, hfz19_1, hfz19_2, hfz19_3, hfz19_4, hfz19_5, hfz19_6, hfz19_7⟩ := b8 BK136.out
   go_wp2_with (first | ((with_reducible refine gc_ (f := 65) rfl ?_); refine gl_ (some 6) Try.func65 #[.agg #[.int .i64 a0_0, .int .i64 a0_1, .int .i64 a0_2, .int .i64 a0_3, .int .i64 a0_4, .int .i64 a0_5, .int .i64 a0_6, .slice A0_7 l0_7.length c0_7]] ?_; (with_reducible refine (impl_IsPacket.calls k a0_0 a0_1 a0_2 a0_3 a0_4 a0_5 a0_6 _ _ l0_7 true _ ?side1 ?side2 A6.out).mono ?_); (case side1 => exact cY ((Kd.C_below HR0_7.out HB.out))); (case side2 => exact HC0_7.out); rintro e w20 ⟨rfl, hb⟩; refine ⟨_, rfl, ?_⟩; have n0_ := A_.mk (bb_ (bY BK136.out) hb); have n1_ := A_.mk (bb_ (bY BK137.out) hb); have n2_ := A_.mk (bt_ (by repeat (first | (with_reducible first | exact HB.out | apply ba_ | apply bd_ | apply be_ | refine bs_ ?_ GE136.out | refine bs_ ?_ GE137.out) | exact HB.out)) hb); clear BK136 BK137 HB; have BK136 := n0_; have BK137 := n1_; have HB := n2_; clear n0_ n1_ n2_; (try clear hb); (try clear hb2); (try clear hk); (try clear hi); have hcz21_0 : w20.cell? ⟨gb137, 0, none⟩ = some (.int .i64 a1_0) := (bc_ BK137.out 0).trans rfl; have hcz21_1 : w20.cell? ⟨gb137, 1, none⟩ = some (.int .i64 a1_1) := (bc_ BK137.out 1).trans rfl; have hcz21_2 : w20.cell? ⟨gb137, 2, none⟩ = some (.int .i64 a1_2) := (bc_ BK137.out 2).trans rfl; have hcz21_3 : w20.cell? ⟨gb137, 3, none⟩ = some (.int .i64 a1_3) := (bc_ BK137.out 3).trans rfl; have hcz21_4 : w20.cell? ⟨gb137, 4, none⟩ = some (.int .i64 a1_4) := (bc_ BK137.out 4).trans rfl; have hcz21_5 : w20.cell? ⟨gb137, 5, none⟩ = some (.int .i64 a1_5) := (bc_ BK137.out 5).trans rfl; have hcz21_6 : w20.cell? ⟨gb137, 6, none⟩ = some (.int .i64 a1_6) := (bc_ BK137.out 6).trans rfl; have hcz21_7 : w20.cell? ⟨gb137, 7, none⟩ = some (.slice A1_7 l1_7.length c1_7) := (bc_ BK137.out 7).trans rfl; have hfz21_0 := bf_ BK137.out 0; have hfz21_1 := bf_ BK137.out 1; have hfz21_2 := bf_ BK137.out 2; have hfz21_3 := bf_ BK137.out 3; have hfz21_4 := bf_ BK137.out 4; have hfz21_5 := bf_ BK137.out 5; have hfz21_6 := bf_ BK137.out 6; have hfz21_7 := bf_ BK137.out 7) | (go_at_call 65; (with_reducible refine (impl_IsPacket.calls k a1_0 a1_1 a1_2 a1_3 a1_4 a1_5 a1_6 _ _ l1_7 false _ ?side1 ?side2 A8.out).mono ?_); (case side1 => exact cY ((Kd.C_below HR1_7.out HB.out))); (case side2 => exact HC1_7.out); rintro e w22 ⟨rfl, hb⟩; have n0_ := A_.mk (bb_ (bY BK136.out) hb); have n1_ := A_.mk (bb_ (bY BK137.out) hb); have n2_ := A_.mk (bt_ (by repeat (first | (with_reducible first | exact HB.out | apply ba_ | apply bd_ | apply be_ | refine bs_ ?_ GE136.out | refine bs_ ?_ GE137.out) | exact HB.out)) hb); clear BK136 BK137 HB; have BK136 := n0_; have BK137 := n1_; have HB := n2_; clear n0_ n1_ n2_; (try clear hb); (try clear hb2); (try clear hk); (try clear hi)))
   go_meet
   case rel => exact ⟨_, (true), (by first | rfl | (simp; done) | (simp [*]; done)), H', ⟨by first | omega | exact Nat.le_refl _⟩, ⟨by (repeat apply bX); exact BK136.out⟩, ⟨by (repeat apply bX); exact BK137.out⟩, ⟨by repeat (first | (with_reducible first | exact HB.out | apply ba_ | apply bd_ | apply be_ | refine bs_ ?_ GE136.out | refine bs_ ?_ GE137.out) | exact HB.out)⟩⟩
  subst c9
  have H1 : ((impl_ClassOf.f k a1_0 a1_1 a1_2 a1_3 a1_4 a1_5 a1_6 l1_7).bind fun t140 => (impl_MayPass.j0 k (t140 == 0) a0_0 a0_1 a0_2 a0_3 a0_4 a0_5 a0_6 l0_7 a1_0 a1_1 a1_2 a1_3 a1_4 a1_5 a1_6 l1_7)) = some r := by rw [if_pos rfl] at H; exact H
  clear H
  have H := H1
  clear H1
  replace H := ob_ H
  obtain ⟨t140, A100, H⟩ := H
  have A10 := A_.mk A100
  clear A100
  have H' := A_.mk H
  clear H
  have hnb11 := NB136_137.out
  have hnc11 := NB137_136.out
  obtain ⟨hcz12_0, hcz12_1, hcz12_2, hcz12_3, hcz12_4, hcz12_5, hcz12_6, hcz12_7, hfz12_0, hfz12_1, hfz12_2, hfz12_3, hfz12_4, hfz12_5, hfz12_6, hfz12_7⟩ := b8 BK136.out
  go_wp2_with (first | ((with_reducible refine gc_ (f := 65) rfl ?_); refine gl_ (some 6) Try.func65 #[.agg #[.int .i64 a0_0, .int .i64 a0_1, .int .i64 a0_2, .int .i64 a0_3, .int .i64 a0_4, .int .i64 a0_5, .int .i64 a0_6, .slice A0_7 l0_7.length c0_7]] ?_; (with_reducible refine (impl_IsPacket.calls k a0_0 a0_1 a0_2 a0_3 a0_4 a0_5 a0_6 _ _ l0_7 true _ ?side1 ?side2 A6.out).mono ?_); (case side1 => exact cY ((Kd.C_below HR0_7.out HB.out))); (case side2 => exact HC0_7.out); rintro e w13 ⟨rfl, hb⟩; refine ⟨_, rfl, ?_⟩; have n0_ := A_.mk (bb_ (bY BK136.out) hb); have n1_ := A_.mk (bb_ (bY BK137.out) hb); have n2_ := A_.mk (bt_ (by repeat (first | (with_reducible first | exact HB.out | apply ba_ | apply bd_ | apply be_ | refine bs_ ?_ GE136.out | refine bs_ ?_ GE137.out) | exact HB.out)) hb); clear BK136 BK137 HB; have BK136 := n0_; have BK137 := n1_; have HB := n2_; clear n0_ n1_ n2_; (try clear hb); (try clear hb2); (try clear hk); (try clear hi); have hcz14_0 : w13.cell? ⟨gb137, 0, none⟩ = some (.int .i64 a1_0) := (bc_ BK137.out 0).trans rfl; have hcz14_1 : w13.cell? ⟨gb137, 1, none⟩ = some (.int .i64 a1_1) := (bc_ BK137.out 1).trans rfl; have hcz14_2 : w13.cell? ⟨gb137, 2, none⟩ = some (.int .i64 a1_2) := (bc_ BK137.out 2).trans rfl; have hcz14_3 : w13.cell? ⟨gb137, 3, none⟩ = some (.int .i64 a1_3) := (bc_ BK137.out 3).trans rfl; have hcz14_4 : w13.cell? ⟨gb137, 4, none⟩ = some (.int .i64 a1_4) := (bc_ BK137.out 4).trans rfl; have hcz14_5 : w13.cell? ⟨gb137, 5, none⟩ = some (.int .i64 a1_5) := (bc_ BK137.out 5).trans rfl; have hcz14_6 : w13.cell? ⟨gb137, 6, none⟩ = some (.int .i64 a1_6) := (bc_ BK137.out 6).trans rfl; have hcz14_7 : w13.cell? ⟨gb137, 7, none⟩ = some (.slice A1_7 l1_7.length c1_7) := (bc_ BK137.out 7).trans rfl; have hfz14_0 := bf_ BK137.out 0; have hfz14_1 := bf_ BK137.out 1; have hfz14_2 := bf_ BK137.out 2; have hfz14_3 := bf_ BK137.out 3; have hfz14_4 := bf_ BK137.out 4; have hfz14_5 := bf_ BK137.out 5; have hfz14_6 := bf_ BK137.out 6; have hfz14_7 := bf_ BK137.out 7) | (go_at_call 65; (with_reducible refine (impl_IsPacket.calls k a1_0 a1_1 a1_2 a1_3 a1_4 a1_5 a1_6 _ _ l1_7 true _ ?side1 ?side2 A8.out).mono ?_); (case side1 => exact cY ((Kd.C_below HR1_7.out HB.out))); (case side2 => exact HC1_7.out); rintro e w15 ⟨rfl, hb⟩; have n0_ := A_.mk (bb_ (bY BK136.out) hb); have n1_ := A_.mk (bb_ (bY BK137.out) hb); have n2_ := A_.mk (bt_ (by repeat (first | (with_reducible first | exact HB.out | apply ba_ | apply bd_ | apply be_ | refine bs_ ?_ GE136.out | refine bs_ ?_ GE137.out) | exact HB.out)) hb); clear BK136 BK137 HB; have BK136 := n0_; have BK137 := n1_; have HB := n2_; clear n0_ n1_ n2_; (try clear hb); (try clear hb2); (try clear hk); (try clear hi); have hcz16_0 : w15.cell? ⟨gb137, 0, none⟩ = some (.int .i64 a1_0) := (bc_ BK137.out 0).trans rfl; have hcz16_1 : w15.cell? ⟨gb137, 1, none⟩ = some (.int .i64 a1_1) := (bc_ BK137.out 1).trans rfl; have hcz16_2 : w15.cell? ⟨gb137, 2, none⟩ = some (.int .i64 a1_2) := (bc_ BK137.out 2).trans rfl; have hcz16_3 : w15.cell? ⟨gb137, 3, none⟩ = some (.int .i64 a1_3) := (bc_ BK137.out 3).trans rfl; have hcz16_4 : w15.cell? ⟨gb137, 4, none⟩ = some (.int .i64 a1_4) := (bc_ BK137.out 4).trans rfl; have hcz16_5 : w15.cell? ⟨gb137, 5, none⟩ = some (.int .i64 a1_5) := (bc_ BK137.out 5).trans rfl; have hcz16_6 : w15.cell? ⟨gb137, 6, none⟩ = some (.int .i64 a1_6) := (bc_ BK137.out 6).trans rfl; have hcz16_7 : w15.cell? ⟨gb137, 7, none⟩ = some (.slice A1_7 l1_7.length c1_7) := (bc_ BK137.out 7).trans rfl; have hfz16_0 := bf_ BK137.out 0; have hfz16_1 := bf_ BK137.out 1; have hfz16_2 := bf_ BK137.out 2; have hfz16_3 := bf_ BK137.out 3; have hfz16_4 := bf_ BK137.out 4; have hfz16_5 := bf_ BK137.out 5; have hfz16_6 := bf_ BK137.out 6; have hfz16_7 := bf_ BK137.out 7) | (go_at_call 79; (with_reducible refine (impl_ClassOf.calls k a1_0 a1_1 a1_2 a1_3 a1_4 a1_5 a1_6 _ _ l1_7 t140 _ ?side1 ?side2 A10.out).mono ?_); (case side1 => exact cY ((Kd.C_below HR1_7.out HB.out))); (case side2 => exact HC1_7.out); rintro e w17 ⟨rfl, hb⟩; have n0_ := A_.mk (bb_ (bY BK136.out) hb); have n1_ := A_.mk (bb_ (bY BK137.out) hb); have n2_ := A_.mk (bt_ (by repeat (first | (with_reducible first | exact HB.out | apply ba_ | apply bd_ | apply be_ | refine bs_ ?_ GE136.out | refine bs_ ?_ GE137.out) | exact HB.out)) hb); clear BK136 BK137 HB; have BK136 := n0_; have BK137 := n1_; have HB := n2_; clear n0_ n1_ n2_; (try clear hb); (try clear hb2); (try clear hk); (try clear hi)))
  go_meet
  case rel => exact ⟨_, ((t140 == 0)), (by first | rfl | (simp; done) | (simp [*]; done)), H', ⟨by first | omega | exact Nat.le_refl _⟩, ⟨by (repeat apply bX); exact BK136.out⟩, ⟨by (repeat apply bX); exact BK137.out⟩, ⟨by repeat (first | (with_reducible first | exact HB.out | apply ba_ | apply bd_ | apply be_ | refine bs_ ?_ GE136.out | refine bs_ ?_ GE137.out) | exact HB.out)⟩⟩
 case rest =>
  clear HC3
  obtain ⟨kq, x17_2, rfl, HA, HJ2, BK136, BK137, HB⟩ := hcut
  cases kq with
  | zero => exact absurd HA.out (by simp [impl_MayPass.j0])
  | succ kj2 =>
   have H := HA.out
   clear HA
   simp only [impl_MayPass.j0] at H
   by_cases c26 : x17_2 = true
   ·subst c26
    have H1 : (some false) = some r := by rw [if_pos rfl] at H; exact H
    clear H
    have H := H1
    clear H1
    obtain rfl := Option.some.inj H
    go_wp2
    go_ret
    exact ⟨by first | rfl | (simp [errW_none, errW_some] <;> rfl) | (simp [*, errW_none, errW_some] <;> rfl), by repeat (first | (with_reducible first | exact HB.out | apply ba_ | apply bd_ | apply be_ | refine bs_ ?_ GE136.out | refine bs_ ?_ GE137.out) | exact HB.out)⟩
   replace c26 := Bool.eq_false_iff.mpr c26
   subst c26
   have H1 : ((impl_ClassOf.f kj2 a0_0 a0_1 a0_2 a0_3 a0_4 a0_5 a0_6 l0_7).bind fun t141 => (if t141 = 2 then ((impl_ClassOf.f kj2 a1_0 a1_1 a1_2 a1_3 a1_4 a1_5 a1_6 l1_7).bind fun t142 => (if t142 = 2 then (if a0_2 = a1_2 then (some (a0_5 != a1_5)) else (some true)) else (some true))) else (some true))) = some r := by rw [if_neg (show ¬ (false = true) by decide)] at H; exact H
   clear H
   have H := H1
   clear H1
   replace H := ob_ H
   obtain ⟨t141, A270, H⟩ := H
   have A27 := A_.mk A270
   clear A270
   by_cases c28 : t141 = 2
   rotate_left
   ·rw [if_neg c28] at H
    have c28b0 : (t141 == 2) = false := beq_eq_false_iff_ne.mpr c28
    have c28b1 : (t141 != 2) = true := bne_iff_ne.mpr c28
    obtain rfl := Option.some.inj H
    have hnb51 := NB136_137.out
    have hnc51 := NB137_136.out
    obtain ⟨hcz52_0, hcz52_1, hcz52_2, hcz52_3, hcz52_4, hcz52_5, hcz52_6, hcz52_7, hfz52_0, hfz52_1, hfz52_2, hfz52_3, hfz52_4, hfz52_5, hfz52_6, hfz52_7⟩ := b8 BK136.out
    go_wp2_with (first | ((with_reducible refine gc_ (f := 79) rfl ?_); refine gl_ (some 19) Try.func79 #[.agg #[.int .i64 a0_0, .int .i64 a0_1, .int .i64 a0_2, .int .i64 a0_3, .int .i64 a0_4, .int .i64 a0_5, .int .i64 a0_6, .slice A0_7 l0_7.length c0_7]] ?_; (with_reducible refine (impl_ClassOf.calls kj2 a0_0 a0_1 a0_2 a0_3 a0_4 a0_5 a0_6 _ _ l0_7 t141 _ ?side1 ?side2 A27.out).mono ?_); (case side1 => exact cY ((Kd.C_below HR0_7.out HB.out))); (case side2 => exact HC0_7.out); rintro e w53 ⟨rfl, hb⟩; refine ⟨_, rfl, ?_⟩; have n0_ := A_.mk (bb_ (bY BK136.out) hb); have n1_ := A_.mk (bb_ (bY BK137.out) hb); have n2_ := A_.mk (bt_ (by repeat (first | (with_reducible first | exact HB.out | apply ba_ | apply bd_ | apply be_ | refine bs_ ?_ GE136.out | refine bs_ ?_ GE137.out) | exact HB.out)) hb); clear BK136 BK137 HB; have BK136 := n0_; have BK137 := n1_; have HB := n2_; clear n0_ n1_ n2_; (try clear hb); (try clear hb2); (try clear hk); (try clear hi)))
    go_ret
    exact ⟨by first | rfl | (simp [errW_none, errW_some] <;> rfl) | (simp [*, errW_none, errW_some] <;> rfl), by repeat (first | (with_reducible first | exact HB.out | apply ba_ | apply bd_ | apply be_ | refine bs_ ?_ GE136.out | refine bs_ ?_ GE137.out) | exact HB.out)⟩
   rw [if_pos c28] at H
   have c28b0 : (t141 == 2) = true := beq_iff_eq.mpr c28
   have c28b1 : (t141 != 2) = false := bne_eq_false_iff_eq.mpr c28
   clear c28
   replace H := ob_ H
   obtain ⟨t142, A290, H⟩ := H
   have A29 := A_.mk A290
   clear A290
   by_cases c30 : t142 = 2
   rotate_left
   ·rw [if_neg c30] at H
    have c30b0 : (t142 == 2) = false := beq_eq_false_iff_ne.mpr c30
    have c30b1 : (t142 != 2) = true := bne_iff_ne.mpr c30
    obtain rfl := Option.some.inj H
    have hnb46 := NB136_137.out
    have hnc46 := NB137_136.out
    obtain ⟨hcz47_0, hcz47_1, hcz47_2, hcz47_3, hcz47_4, hcz47_5, hcz47_6, hcz47_7, hfz47_0, hfz47_1, hfz47_2, hfz47_3, hfz47_4, hfz47_5, hfz47_6, hfz47_7⟩ := b8 BK136.out
    go_wp2_with (first | ((with_reducible refine gc_ (f := 79) rfl ?_); refine gl_ (some 19) Try.func79 #[.agg #[.int .i64 a0_0, .int .i64 a0_1, .int .i64 a0_2, .int .i64 a0_3, .int .i64 a0_4, .int .i64 a0_5, .int .i64 a0_6, .slice A0_7 l0_7.length c0_7]] ?_; (with_reducible refine (impl_ClassOf.calls kj2 a0_0 a0_1 a0_2 a0_3 a0_4 a0_5 a0_6 _ _ l0_7 t141 _ ?side1 ?side2 A27.out).mono ?_); (case side1 => exact cY ((Kd.C_below HR0_7.out HB.out))); (case side2 => exact HC0_7.out); rintro e w48 ⟨rfl, hb⟩; refine ⟨_, rfl, ?_⟩; have n0_ := A_.mk (bb_ (bY BK136.out) hb); have n1_ := A_.mk (bb_ (bY BK137.out) hb); have n2_ := A_.mk (bt_ (by repeat (first | (with_reducible first | exact HB.out | apply ba_ | apply bd_ | apply be_ | refine bs_ ?_ GE136.out | refine bs_ ?_ GE137.out) | exact HB.out)) hb); clear BK136 BK137 HB; have BK136 := n0_; have BK137 := n1_; have HB := n2_; clear n0_ n1_ n2_; (try clear hb); (try clear hb2); (try clear hk); (try clear hi); have hcz49_0 : w48.cell? ⟨gb137, 0, none⟩ = some (.int .i64 a1_0) := (bc_ BK137.out 0).trans rfl; have hcz49_1 : w48.cell? ⟨gb137, 1, none⟩ = some (.int .i64 a1_1) := (bc_ BK137.out 1).trans rfl; have hcz49_2 : w48.cell? ⟨gb137, 2, none⟩ = some (.int .i64 a1_2) := (bc_ BK137.out 2).trans rfl; have hcz49_3 : w48.cell? ⟨gb137, 3, none⟩ = some (.int .i64 a1_3) := (bc_ BK137.out 3).trans rfl; have hcz49_4 : w48.cell? ⟨gb137, 4, none⟩ = some (.int .i64 a1_4) := (bc_ BK137.out 4).trans rfl; have hcz49_5 : w48.cell? ⟨gb137, 5, none⟩ = some (.int .i64 a1_5) := (bc_ BK137.out 5).trans rfl; have hcz49_6 : w48.cell? ⟨gb137, 6, none⟩ = some (.int .i64 a1_6) := (bc_ BK137.out 6).trans rfl; have hcz49_7 : w48.cell? ⟨gb137, 7, none⟩ = some (.slice A1_7 l1_7.length c1_7) := (bc_ BK137.out 7).trans rfl; have hfz49_0 := bf_ BK137.out 0; have hfz49_1 := bf_ BK137.out 1; have hfz49_2 := bf_ BK137.out 2; have hfz49_3 := bf_ BK137.out 3; have hfz49_4 := bf_ BK137.out 4; have hfz49_5 := bf_ BK137.out 5; have hfz49_6 := bf_ BK137.out 6; have hfz49_7 := bf_ BK137.out 7) | (go_at_call 79; (with_reducible refine (impl_ClassOf.calls kj2 a1_0 a1_1 a1_2 a1_3 a1_4 a1_5 a1_6 _ _ l1_7 t142 _ ?side1 ?side2 A29.out).mono ?_); (case side1 => exact cY ((Kd.C_below HR1_7.out HB.out))); (case side2 => exact HC1_7.out); rintro e w50 ⟨rfl, hb⟩; have n0_ := A_.mk (bb_ (bY BK136.out) hb); have n1_ := A_.mk (bb_ (bY BK137.out) hb); have n2_ := A_.mk (bt_ (by repeat (first | (with_reducible first | exact HB.out | apply ba_ | apply bd_ | apply be_ | refine bs_ ?_ GE136.out | refine bs_ ?_ GE137.out) | exact HB.out)) hb); clear BK136 BK137 HB; have BK136 := n0_; have BK137 := n1_; have HB := n2_; clear n0_ n1_ n2_; (try clear hb); (try clear hb2); (try clear hk); (try clear hi)))
    go_ret
    exact ⟨by first | rfl | (simp [errW_none, errW_some] <;> rfl) | (simp [*, errW_none, errW_some] <;> rfl), by repeat (first | (with_reducible first | exact HB.out | apply ba_ | apply bd_ | apply be_ | refine bs_ ?_ GE136.out | refine bs_ ?_ GE137.out) | exact HB.out)⟩
   rw [if_pos c30] at H
   have c30b0 : (t142 == 2) = true := beq_iff_eq.mpr c30
   have c30b1 : (t142 != 2) = false := bne_eq_false_iff_eq.mpr c30
   clear c30
   by_cases c31 : a0_2 = a1_2
   rotate_left
   ·rw [if_neg c31] at H
    have c31b0 : (a0_2 == a1_2) = false := beq_eq_false_iff_ne.mpr c31
    have c31b1 : (a0_2 != a1_2) = true := bne_iff_ne.mpr c31
    obtain rfl := Option.some.inj H
    have hnb39 := NB136_137.out
    have hnc39 := NB137_136.out
    obtain ⟨hcz40_0, hcz40_1, hcz40_2, hcz40_3, hcz40_4, hcz40_5, hcz40_6, hcz40_7, hfz40_0, hfz40_1, hfz40_2, hfz40_3, hfz40_4, hfz40_5, hfz40_6, hfz40_7⟩ := b8 BK136.out
    go_wp2_with (first | ((with_reducible refine gc_ (f := 79) rfl ?_); refine gl_ (some 19) Try.func79 #[.agg #[.int .i64 a0_0, .int .i64 a0_1, .int .i64 a0_2, .int .i64 a0_3, .int .i64 a0_4, .int .i64 a0_5, .int .i64 a0_6, .slice A0_7 l0_7.length c0_7]] ?_; (with_reducible refine (impl_ClassOf.calls kj2 a0_0 a0_1 a0_2 a0_3 a0_4 a0_5 a0_6 _ _ l0_7 t141 _ ?side1 ?side2 A27.out).mono ?_); (case side1 => exact cY ((Kd.C_below HR0_7.out HB.out))); (case side2 => exact HC0_7.out); rintro e w41 ⟨rfl, hb⟩; refine ⟨_, rfl, ?_⟩; have n0_ := A_.mk (bb_ (bY BK136.out) hb); have n1_ := A_.mk (bb_ (bY BK137.out) hb); have n2_ := A_.mk (bt_ (by repeat (first | (with_reducible first | exact HB.out | apply ba_ | apply bd_ | apply be_ | refine bs_ ?_ GE136.out | refine bs_ ?_ GE137.out) | exact HB.out)) hb); clear BK136 BK137 HB; have BK136 := n0_; have BK137 := n1_; have HB := n2_; clear n0_ n1_ n2_; (try clear hb); (try clear hb2); (try clear hk); (try clear hi); have hcz42_0 : w41.cell? ⟨gb137, 0, none⟩ = some (.int .i64 a1_0) := (bc_ BK137.out 0).trans rfl; have hcz42_1 : w41.cell? ⟨gb137, 1, none⟩ = some (.int .i64 a1_1) := (bc_ BK137.out 1).trans rfl; have hcz42_2 : w41.cell? ⟨gb137, 2, none⟩ = some (.int .i64 a1_2) := (bc_ BK137.out 2).trans rfl; have hcz42_3 : w41.cell? ⟨gb137, 3, none⟩ = some (.int .i64 a1_3) := (bc_ BK137.out 3).trans rfl; have hcz42_4 : w41.cell? ⟨gb137, 4, none⟩ = some (.int .i64 a1_4) := (bc_ BK137.out 4).trans rfl; have hcz42_5 : w41.cell? ⟨gb137, 5, none⟩ = some (.int .i64 a1_5) := (bc_ BK137.out 5).trans rfl; have hcz42_6 : w41.cell? ⟨gb137, 6, none⟩ = some (.int .i64 a1_6) := (bc_ BK137.out 6).trans rfl; have hcz42_7 : w41.cell? ⟨gb137, 7, none⟩ = some (.slice A1_7 l1_7.length c1_7) := (bc_ BK137.out 7).trans rfl; have hfz42_0 := bf_ BK137.out 0; have hfz42_1 := bf_ BK137.out 1; have hfz42_2 := bf_ BK137.out 2; have hfz42_3 := bf_ BK137.out 3; have hfz42_4 := bf_ BK137.out 4; have hfz42_5 := bf_ BK137.out 5; have hfz42_6 := bf_ BK137.out 6; have hfz42_7 := bf_ BK137.out 7) | (go_at_call 79; (with_reducible refine (impl_ClassOf.calls kj2 a1_0 a1_1 a1_2 a1_3 a1_4 a1_5 a1_6 _ _ l1_7 t142 _ ?side1 ?side2 A29.out).mono ?_); (case side1 => exact cY ((Kd.C_below HR1_7.out HB.out))); (case side2 => exact HC1_7.out); rintro e w43 ⟨rfl, hb⟩; have n0_ := A_.mk (bb_ (bY BK136.out) hb); have n1_ := A_.mk (bb_ (bY BK137.out) hb); have n2_ := A_.mk (bt_ (by repeat (first | (with_reducible first | exact HB.out | apply ba_ | apply bd_ | apply be_ | refine bs_ ?_ GE136.out | refine bs_ ?_ GE137.out) | exact HB.out)) hb); clear BK136 BK137 HB; have BK136 := n0_; have BK137 := n1_; have HB := n2_; clear n0_ n1_ n2_; (try clear hb); (try clear hb2); (try clear hk); (try clear hi); have hcz44_0 : w43.cell? ⟨gb136, 0, none⟩ = some (.int .i64 a0_0) := (bc_ BK136.out 0).trans rfl; have hcz44_1 : w43.cell? ⟨gb136, 1, none⟩ = some (.int .i64 a0_1) := (bc_ BK136.out 1).trans rfl; have hcz44_2 : w43.cell? ⟨gb136, 2, none⟩ = some (.int .i64 a0_2) := (bc_ BK136.out 2).trans rfl; have hcz44_3 : w43.cell? ⟨gb136, 3, none⟩ = some (.int .i64 a0_3) := (bc_ BK136.out 3).trans rfl; have hcz44_4 : w43.cell? ⟨gb136, 4, none⟩ = some (.int .i64 a0_4) := (bc_ BK136.out 4).trans rfl; have hcz44_5 : w43.cell? ⟨gb136, 5, none⟩ = some (.int .i64 a0_5) := (bc_ BK136.out 5).trans rfl; have hcz44_6 : w43.cell? ⟨gb136, 6, none⟩ = some (.int .i64 a0_6) := (bc_ BK136.out 6).trans rfl; have hcz44_7 : w43.cell? ⟨gb136, 7, none⟩ = some (.slice A0_7 l0_7.length c0_7) := (bc_ BK136.out 7).trans rfl; have hfz44_0 := bf_ BK136.out 0; have hfz44_1 := bf_ BK136.out 1; have hfz44_2 := bf_ BK136.out 2; have hfz44_3 := bf_ BK136.out 3; have hfz44_4 := bf_ BK136.out 4; have hfz44_5 := bf_ BK136.out 5; have hfz44_6 := bf_ BK136.out 6; have hfz44_7 := bf_ BK136.out 7; have hcz45_0 : w43.cell? ⟨gb137, 0, none⟩ = some (.int .i64 a1_0) := (bc_ BK137.out 0).trans rfl; have hcz45_1 : w43.cell? ⟨gb137, 1, none⟩ = some (.int .i64 a1_1) := (bc_ BK137.out 1).trans rfl; have hcz45_2 : w43.cell? ⟨gb137, 2, none⟩ = some (.int .i64 a1_2) := (bc_ BK137.out 2).trans rfl; have hcz45_3 : w43.cell? ⟨gb137, 3, none⟩ = some (.int .i64 a1_3) := (bc_ BK137.out 3).trans rfl; have hcz45_4 : w43.cell? ⟨gb137, 4, none⟩ = some (.int .i64 a1_4) := (bc_ BK137.out 4).trans rfl; have hcz45_5 : w43.cell? ⟨gb137, 5, none⟩ = some (.int .i64 a1_5) := (bc_ BK137.out 5).trans rfl; have hcz45_6 : w43.cell? ⟨gb137, 6, none⟩ = some (.int .i64 a1_6) := (bc_ BK137.out 6).trans rfl; have hcz45_7 : w43.cell? ⟨gb137, 7, none⟩ = some (.slice A1_7 l1_7.length c1_7) := (bc_ BK137.out 7).trans rfl; have hfz45_0 := bf_ BK137.out 0; have hfz45_1 := bf_ BK137.out 1; have hfz45_2 := bf_ BK137.out 2; have hfz45_3 := bf_ BK137.out 3; have hfz45_4 := bf_ BK137.out 4; have hfz45_5 := bf_ BK137.out 5; have hfz45_6 := bf_ BK137.out 6; have hfz45_7 := bf_ BK137.out 7))
    go_ret
    exact ⟨by first | rfl | (simp [errW_none, errW_some] <;> rfl) | (simp [*, errW_none, errW_some] <;> rfl), by repeat (first | (with_reducible first | exact HB.out | apply ba_ | apply bd_ | apply be_ | refine bs_ ?_ GE136.out | refine bs_ ?_ GE137.out) | exact HB.out)⟩
   rw [if_pos c31] at H
   have c31b0 : (a0_2 == a1_2) = true := beq_iff_eq.mpr c31
   have c31b1 : (a0_2 != a1_2) = false := bne_eq_false_iff_eq.mpr c31
   clear c31
   obtain rfl := Option.some.inj H
   have hnb32 := NB136_137.out
   have hnc32 := NB137_136.out
   obtain ⟨hcz33_0, hcz33_1, hcz33_2, hcz33_3, hcz33_4, hcz33_5, hcz33_6, hcz33_7, hfz33_0, hfz33_1, hfz33_2, hfz33_3, hfz33_4, hfz33_5, hfz33_6, hfz33_7⟩ := b8 BK136.out
   go_wp2_with (first | ((with_reducible refine gc_ (f := 79) rfl ?_); refine gl_ (some 19) Try.func79 #[.agg #[.int .i64 a0_0, .int .i64 a0_1, .int .i64 a0_2, .int .i64 a0_3, .int .i64 a0_4, .int .i64 a0_5, .int .i64 a0_6, .slice A0_7 l0_7.length c0_7]] ?_; (with_reducible refine (impl_ClassOf.calls kj2 a0_0 a0_1 a0_2 a0_3 a0_4 a0_5 a0_6 _ _ l0_7 t141 _ ?side1 ?side2 A27.out).mono ?_); (case side1 => exact cY ((Kd.C_below HR0_7.out HB.out))); (case side2 => exact HC0_7.out); rintro e w34 ⟨rfl, hb⟩; refine ⟨_, rfl, ?_⟩; have n0_ := A_.mk (bb_ (bY BK136.out) hb); have n1_ := A_.mk (bb_ (bY BK137.out) hb); have n2_ := A_.mk (bt_ (by repeat (first | (with_reducible first | exact HB.out | apply ba_ | apply bd_ | apply be_ | refine bs_ ?_ GE136.out | refine bs_ ?_ GE137.out) | exact HB.out)) hb); clear BK136 BK137 HB; have BK136 := n0_; have BK137 := n1_; have HB := n2_; clear n0_ n1_ n2_; (try clear hb); (try clear hb2); (try clear hk); (try clear hi); have hcz35_0 : w34.cell? ⟨gb137, 0, none⟩ = some (.int .i64 a1_0) := (bc_ BK137.out 0).trans rfl; have hcz35_1 : w34.cell? ⟨gb137, 1, none⟩ = some (.int .i64 a1_1) := (bc_ BK137.out 1).trans rfl; have hcz35_2 : w34.cell? ⟨gb137, 2, none⟩ = some (.int .i64 a1_2) := (bc_ BK137.out 2).trans rfl; have hcz35_3 : w34.cell? ⟨gb137, 3, none⟩ = some (.int .i64 a1_3) := (bc_ BK137.out 3).trans rfl; have hcz35_4 : w34.cell? ⟨gb137, 4, none⟩ = some (.int .i64 a1_4) := (bc_ BK137.out 4).trans rfl; have hcz35_5 : w34.cell? ⟨gb137, 5, none⟩ = some (.int .i64 a1_5) := (bc_ BK137.out 5).trans rfl; have hcz35_6 : w34.cell? ⟨gb137, 6, none⟩ = some (.int .i64 a1_6) := (bc_ BK137.out 6).trans rfl; have hcz35_7 : w34.cell? ⟨gb137, 7, none⟩ = some (.slice A1_7 l1_7.length c1_7) := (bc_ BK137.out 7).trans rfl; have hfz35_0 := bf_ BK137.out 0; have hfz35_1 := bf_ BK137.out 1; have hfz35_2 := bf_ BK137.out 2; have hfz35_3 := bf_ BK137.out 3; have hfz35_4 := bf_ BK137.out 4; have hfz35_5 := bf_ BK137.out 5; have hfz35_6 := bf_ BK137.out 6; have hfz35_7 := bf_ BK137.out 7) | (go_at_call 79; (with_reducible refine (impl_ClassOf.calls kj2 a1_0 a1_1 a1_2 a1_3 a1_4 a1_5 a1_6 _ _ l1_7 t142 _ ?side1 ?side2 A29.out).mono ?_); (case side1 => exact cY ((Kd.C_below HR1_7.out HB.out))); (case side2 => exact HC1_7.out); rintro e w36 ⟨rfl, hb⟩; have n0_ := A_.mk (bb_ (bY BK136.out) hb); have n1_ := A_.mk (bb_ (bY BK137.out) hb); have n2_ := A_.mk (bt_ (by repeat (first | (with_reducible first | exact HB.out | apply ba_ | apply bd_ | apply be_ | refine bs_ ?_ GE136.out | refine bs_ ?_ GE137.out) | exact HB.out)) hb); clear BK136 BK137 HB; have BK136 := n0_; have BK137 := n1_; have HB := n2_; clear n0_ n1_ n2_; (try clear hb); (try clear hb2); (try clear hk); (try clear hi); have hcz37_0 : w36.cell? ⟨gb136, 0, none⟩ = some (.int .i64 a0_0) := (bc_ BK136.out 0).trans rfl; have hcz37_1 : w36.cell? ⟨gb136, 1, none⟩ = some (.int .i64 a0_1) := (bc_ BK136.out 1).trans rfl; have hcz37_2 : w36.cell? ⟨gb136, 2, none⟩ = some (.int .i64 a0_2) := (bc_ BK136.out 2).trans rfl; have hcz37_3 : w36.cell? ⟨gb136, 3, none⟩ = some (.int .i64 a0_3) := (bc_ BK136.out 3).trans rfl; have hcz37_4 : w36.cell? ⟨gb136, 4, none⟩ = some (.int .i64 a0_4) := (bc_ BK136.out 4).trans rfl; have hcz37_5 : w36.cell? ⟨gb136, 5, none⟩ = some (.int .i64 a0_5) := (bc_ BK136.out 5).trans rfl; have hcz37_6 : w36.cell? ⟨gb136, 6, none⟩ = some (.int .i64 a0_6) := (bc_ BK136.out 6).trans rfl; have hcz37_7 : w36.cell? ⟨gb136, 7, none⟩ = some (.slice A0_7 l0_7.length c0_7) := (bc_ BK136.out 7).trans rfl; have hfz37_0 := bf_ BK136.out 0; have hfz37_1 := bf_ BK136.out 1; have hfz37_2 := bf_ BK136.out 2; have hfz37_3 := bf_ BK136.out 3; have hfz37_4 := bf_ BK136.out 4; have hfz37_5 := bf_ BK136.out 5; have hfz37_6 := bf_ BK136.out 6; have hfz37_7 := bf_ BK136.out 7; have hcz38_0 : w36.cell? ⟨gb137, 0, none⟩ = some (.int .i64 a1_0) := (bc_ BK137.out 0).trans rfl; have hcz38_1 : w36.cell? ⟨gb137, 1, none⟩ = some (.int .i64 a1_1) := (bc_ BK137.out 1).trans rfl; have hcz38_2 : w36.cell? ⟨gb137, 2, none⟩ = some (.int .i64 a1_2) := (bc_ BK137.out 2).trans rfl; have hcz38_3 : w36.cell? ⟨gb137, 3, none⟩ = some (.int .i64 a1_3) := (bc_ BK137.out 3).trans rfl; have hcz38_4 : w36.cell? ⟨gb137, 4, none⟩ = some (.int .i64 a1_4) := (bc_ BK137.out 4).trans rfl; have hcz38_5 : w36.cell? ⟨gb137, 5, none⟩ = some (.int .i64 a1_5) := (bc_ BK137.out 5).trans rfl; have hcz38_6 : w36.cell? ⟨gb137, 6, none⟩ = some (.int .i64 a1_6) := (bc_ BK137.out 6).trans rfl; have hcz38_7 : w36.cell? ⟨gb137, 7, none⟩ = some (.slice A1_7 l1_7.length c1_7) := (bc_ BK137.out 7).trans rfl; have hfz38_0 := bf_ BK137.out 0; have hfz38_1 := bf_ BK137.out 1; have hfz38_2 := bf_ BK137.out 2; have hfz38_3 := bf_ BK137.out 3; have hfz38_4 := bf_ BK137.out 4; have hfz38_5 := bf_ BK137.out 5; have hfz38_6 := bf_ BK137.out 6; have hfz38_7 := bf_ BK137.out 7))
   go_ret
   exact ⟨by first | rfl | (simp [errW_none, errW_some] <;> rfl) | (simp [*, errW_none, errW_some] <;> rfl), by repeat (first | (with_reducible first | exact HB.out | apply ba_ | apply bd_ | apply be_ | refine bs_ ?_ GE136.out | refine bs_ ?_ GE137.out) | exact HB.out)⟩
end Go.Proofs.Ytbdehpmfemgooaa.PFnQueues
