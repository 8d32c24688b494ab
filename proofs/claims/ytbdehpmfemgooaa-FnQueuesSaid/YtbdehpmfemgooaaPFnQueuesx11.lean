-- Written by a program of this session (wip/xp): not trusted, Lean checks it.
import Derived.Test.YtbdehpmfemgooaaPFnQueuesx0
import Derived.Test.YtbdehpmfemgooaaPFnQueuesx3
import Derived.Test.YtbdehpmfemgooaaPFnQueuesx4
import Derived.Test.YtbdehpmfemgooaaPFnQueuesx9
import Derived.Test.YtbdehpmfemgooaaPFnQueuesx10
namespace Go.Proofs.Ytbdehpmfemgooaa.PFnQueues
open Go.RowKit Go.Proofs.YtbdehpmfemgooaaW.PrintWords Go.Proofs.YtbdehpmfemgooaaW.PrintLast Go.Proofs.YtbdehpmfemgooaaW.PrintMore
attribute [local go_sem] max2_int min2_int max_two min_two max_three min_three max_four min_four   -- for this text's walks alone
set_option linter.unusedVariables false
set_option linter.unusedSimpArgs false

/-! ### impl_CanSend: function 64 -/
def impl_CanSend.j0 : Nat → Bool → List Int → List Int → Int → Int → Int → Int → Int → Int → Int → List Int → Option (Bool)
 | 0, _, _, _, _, _, _, _, _, _, _, _ => none
 | k + 1, x13, x387000, x387001, x388000, x388001, x388002, x388003, x388004, x388005, x388006, x388007 => if x13 = true then (some false) else ((impl_ClassOf.f k x388000 x388001 x388002 x388003 x388004 x388005 x388006 x388007).bind fun t390 => (if 0 ≤ t390 then (if t390 < (x387000.length : Int) then (if (rd x387000 t390) ≥ 1 then (if t390 < (x387001.length : Int) then ((impl_PacketUnits.f k x388000 x388001 x388002 x388003 x388004 x388005 x388006 x388007).bind fun t393 => (some (decide ((rd x387001 t390) ≥ t393)))) else (none)) else (some false)) else (none)) else (none)))
def impl_CanSend.f (k : Nat) (l0_0 : List Int) (l0_1 : List Int) (a1_0 : Int) (a1_1 : Int) (a1_2 : Int) (a1_3 : Int) (a1_4 : Int) (a1_5 : Int) (a1_6 : Int) (l1_7 : List Int) : Option (Bool) := (impl_CreditsOk.f k l0_0 l0_1).bind fun t388 => (if t388 = true then ((impl_IsPacket.f k a1_0 a1_1 a1_2 a1_3 a1_4 a1_5 a1_6 l1_7).bind fun t389 => (impl_CanSend.j0 k (!t389) l0_0 l0_1 a1_0 a1_1 a1_2 a1_3 a1_4 a1_5 a1_6 l1_7)) else (impl_CanSend.j0 k true l0_0 l0_1 a1_0 a1_1 a1_2 a1_3 a1_4 a1_5 a1_6 l1_7))
def impl_CanSend.T4 : Bool × List (List Nat × List Nat) := (true, [([], []), ([0], [0]), ([], []), ([1, 2], [1, 2]), ([3], [3]), ([4], [4]), ([5], [5]), ([6], [6]), ([7, 6], [6, 7]), ([6], [6]), ([8, 9, 6], [6, 8, 9]), ([10, 6], [6, 10]), ([6], [6]), ([12, 6, 6], [6, 12]), ([11, 13, 6], [6, 11, 13]), ([6, 14], [6, 14]), ([15, 13, 0, 1, 2, 3, 4, 5, 6, 7, 8, 9, 10, 11, 12, 13, 14, 15], [15])])
def impl_CanSend.B4 : List Nat := [0, 1, 0, 7, 15, 31, 63, 127, 255, 127, 1023, 2047, 127, 4223, 16383, 32767, 65535]
theorem impl_CanSend.tab4 : rtab .any (opsOf Try.f64 4) = impl_CanSend.T4 := by kernel_rfl
theorem impl_CanSend.bits4 : waitsOk impl_CanSend.T4.2 impl_CanSend.B4 = true := by kernel_rfl
set_option maxHeartbeats 8000000 in
set_option maxRecDepth 100000 in
theorem impl_CanSend.calls (k : Nat) (A0_0 : Option Addr) (c0_0 : Nat) (l0_0 : List Int) (A0_1 : Option Addr) (c0_1 : Nat) (l0_1 : List Int) (a1_0 : Int) (a1_1 : Int) (a1_2 : Int) (a1_3 : Int) (a1_4 : Int) (a1_5 : Int) (a1_6 : Int) (A1_7 : Option Addr) (c1_7 : Nat) (l1_7 : List Int) (r : Bool) (w : World) (hr0_0 : Kd.C (Kd.int .i64) w A0_0 l0_0.length l0_0) (hc0_0 : l0_0.length ≤ c0_0) (hr0_1 : Kd.C (Kd.int .i64) w A0_1 l0_1.length l0_1) (hc0_1 : l0_1.length ≤ c0_1) (hr1_7 : Kd.C (Kd.int .i64) w A1_7 l1_7.length l1_7) (hc1_7 : l1_7.length ≤ c1_7) (h : impl_CanSend.f k l0_0 l0_1 a1_0 a1_1 a1_2 a1_3 a1_4 a1_5 a1_6 l1_7 = some r) :
  Calls Try.prog 64 #[.agg #[.slice A0_0 l0_0.length c0_0, .slice A0_1 l0_1.length c0_1], .agg #[.int .i64 a1_0, .int .i64 a1_1, .int .i64 a1_2, .int .i64 a1_3, .int .i64 a1_4, .int .i64 a1_5, .int .i64 a1_6, .slice A1_7 l1_7.length c1_7]] w fun e w' => e = .returned (.bool r) ∧ Below w.heap.size w w' := by
 have hu26 := Try.underlying26
 have hu60 := Try.underlying60
 have HR0_0 := A_.mk hr0_0
 have HC0_0 := A_.mk hc0_0
 clear hr0_0 hc0_0
 have HR0_1 := A_.mk hr0_1
 have HC0_1 := A_.mk hc0_1
 clear hr0_1 hc0_1
 have HR1_7 := A_.mk hr1_7
 have HC1_7 := A_.mk hc1_7
 clear hr1_7 hc1_7
 have HB := A_.mk (Below.refl w.heap.size w)
 have H : ((impl_CreditsOk.f k l0_0 l0_1).bind fun t388 => (if t388 = true then ((impl_IsPacket.f k a1_0 a1_1 a1_2 a1_3 a1_4 a1_5 a1_6 l1_7).bind fun t389 => (impl_CanSend.j0 k (!t389) l0_0 l0_1 a1_0 a1_1 a1_2 a1_3 a1_4 a1_5 a1_6 l1_7)) else (impl_CanSend.j0 k true l0_0 l0_1 a1_0 a1_1 a1_2 a1_3 a1_4 a1_5 a1_6 l1_7))) = some r := h
 clear h
 have HC3 := A_.mk H
 clear H
 go_enter Try.func64, Try.ntmps64
 go_upto_region 1 with (first | ((with_reducible refine gd_ (N := 2) rfl ?_); refine by_ 2 (cs := #[.slice A0_0 l0_0.length c0_0, .slice A0_1 l0_1.length c0_1]) (t := 26) ?_; intro gb386 hg w4 hbox hb; have n0_ := A_.mk (bt_ (beY HB.out) hb); have n1_ := A_.mk (hbox); have n2_ := A_.mk ((by rw [hg]; exact (bz_ (beY HB.out)) : w.heap.size ≤ gb386)); have n3_ := A_.mk ((by rw [hg]; exact (bz_ (beY HB.out)) : w.heap.size ≤ gb386)); clear HB; have HB := n0_; have BK386 := n1_; have GW386 := n2_; have GE386 := n3_; clear n0_ n1_ n2_ n3_ hb hbox hg) | ((with_reducible refine gd_ (N := 3) rfl ?_); refine by_ 3 (cs := #[.int .i64 a1_0, .int .i64 a1_1, .int .i64 a1_2, .int .i64 a1_3, .int .i64 a1_4, .int .i64 a1_5, .int .i64 a1_6, .slice A1_7 l1_7.length c1_7]) (t := 60) ?_; intro gb387 hg w5 hbox hb; have n0_ := A_.mk (bb_ (bY BK386.out) hb); have n1_ := A_.mk (bt_ (by repeat (first | (with_reducible first | exact HB.out | apply ba_ | apply bd_ | apply be_ | refine bs_ ?_ GE386.out) | exact HB.out)) hb); have n2_ := A_.mk (hbox); have n3_ := A_.mk ((by rw [hg]; exact (bz_ (by repeat (first | (with_reducible first | exact HB.out | apply ba_ | apply bd_ | apply be_ | refine bs_ ?_ GE386.out) | exact HB.out))) : w.heap.size ≤ gb387)); have n4_ := A_.mk ((by rw [hg]; exact (bz_ (by repeat (first | (with_reducible first | exact HB.out | apply ba_ | apply bd_ | apply be_ | refine bs_ ?_ GE386.out) | exact HB.out))) : w.heap.size ≤ gb387)); have n5_ := A_.mk ((by rw [hg]; exact Nat.ne_of_lt (blk_lt (bY BK386.out)) : gb386 ≠ gb387)); have n6_ := A_.mk ((by rw [hg]; exact Nat.ne_of_gt (blk_lt (bY BK386.out)) : gb387 ≠ gb386)); clear BK386 HB; have BK386 := n0_; have HB := n1_; have BK387 := n2_; have GW387 := n3_; have GE387 := n4_; have NB386_387 := n5_; have NB387_386 := n6_; clear n0_ n1_ n2_ n3_ n4_ n5_ n6_ hb hbox hg))
 (try simp only [Act.put, List.setIfInBounds_toArray, List.set_cons_zero, List.set_cons_succ])
 go_cut [13] (fun v13 wc => ∃ (kq : Nat) (x13_2 : Bool), v13 = .bool x13_2 ∧ A_ (impl_CanSend.j0 kq x13_2 l0_0 l0_1 a1_0 a1_1 a1_2 a1_3 a1_4 a1_5 a1_6 l1_7 = some r) ∧ A_ (kq ≤ k) ∧ A_ (wc.heap[gb386]? = some (.cells #[(.slice A0_0 l0_0.length c0_0), (.slice A0_1 l0_1.length c0_1)] 26 (0, 0))) ∧ A_ (wc.heap[gb387]? = some (.cells #[.int .i64 a1_0, .int .i64 a1_1, .int .i64 a1_2, .int .i64 a1_3, .int .i64 a1_4, .int .i64 a1_5, .int .i64 a1_6, (.slice A1_7 l1_7.length c1_7)] 60 (0, 0))) ∧ A_ (Below w.heap.size w wc))
 case first =>
  have H := HC3.out
  clear HC3
  replace H := ob_ H
  obtain ⟨t388, A60, H⟩ := H
  have A6 := A_.mk A60
  clear A60
  by_cases c7 : t388 = true
  rotate_left
  ·replace c7 := Bool.eq_false_iff.mpr c7
   subst c7
   have H1 : (impl_CanSend.j0 k true l0_0 l0_1 a1_0 a1_1 a1_2 a1_3 a1_4 a1_5 a1_6 l1_7) = some r := by rw [if_neg (show ¬ (false = true) by decide)] at H; exact H
   clear H
   have H := H1
   clear H1
   have H' := A_.mk H
   clear H
   have hnb14 := NB386_387.out
   have hnc14 := NB387_386.out
   obtain ⟨hcz15_0, hcz15_1, hfz15_0, hfz15_1⟩ := b2 BK386.out
   go_wp2_with (first | ((with_reducible refine gc_ (f := 43) rfl ?_); refine gl_ (some 7) Try.func43 #[.agg #[.slice A0_0 l0_0.length c0_0, .slice A0_1 l0_1.length c0_1]] ?_; (with_reducible refine (impl_CreditsOk.calls k _ _ l0_0 _ _ l0_1 false _ ?side1 ?side2 ?side3 ?side4 A6.out).mono ?_); (case side1 => exact cY ((Kd.C_below HR0_0.out HB.out))); (case side2 => exact HC0_0.out); (case side3 => exact cY ((Kd.C_below HR0_1.out HB.out))); (case side4 => exact HC0_1.out); rintro e w16 ⟨rfl, hb⟩; refine ⟨_, rfl, ?_⟩; have n0_ := A_.mk (bb_ (bY BK386.out) hb); have n1_ := A_.mk (bb_ (bY BK387.out) hb); have n2_ := A_.mk (bt_ (by repeat (first | (with_reducible first | exact HB.out | apply ba_ | apply bd_ | apply be_ | refine bs_ ?_ GE386.out | refine bs_ ?_ GE387.out) | exact HB.out)) hb); clear BK386 BK387 HB; have BK386 := n0_; have BK387 := n1_; have HB := n2_; clear n0_ n1_ n2_; (try clear hb); (try clear hb2); (try clear hk); (try clear hi)))
   go_meet
   case rel => exact ⟨_, (true), (by first | rfl | (simp; done) | (simp [*]; done)), H', ⟨by first | omega | exact Nat.le_refl _⟩, ⟨by (repeat apply bX); exact BK386.out⟩, ⟨by (repeat apply bX); exact BK387.out⟩, ⟨by repeat (first | (with_reducible first | exact HB.out | apply ba_ | apply bd_ | apply be_ | refine bs_ ?_ GE386.out | refine bs_ ?_ GE387.out) | exact HB.out)⟩⟩
  subst c7
  have H1 : ((impl_IsPacket.f k a1_0 a1_1 a1_2 a1_3 a1_4 a1_5 a1_6 l1_7).bind fun t389 => (impl_CanSend.j0 k (!t389) l0_0 l0_1 a1_0 a1_1 a1_2 a1_3 a1_4 a1_5 a1_6 l1_7)) = some r := by rw [if_pos rfl] at H; exact H
  clear H
  have H := H1
  clear H1
  replace H := ob_ H
  obtain ⟨t389, A80, H⟩ := H
  have A8 := A_.mk A80
  clear A80
  have H' := A_.mk H
  clear H
  have hnb9 := NB386_387.out
  have hnc9 := NB387_386.out
  obtain ⟨hcz10_0, hcz10_1, hfz10_0, hfz10_1⟩ := b2 BK386.out
  go_wp2_with (first | ((with_reducible refine gc_ (f := 43) rfl ?_); refine gl_ (some 7) Try.func43 #[.agg #[.slice A0_0 l0_0.length c0_0, .slice A0_1 l0_1.length c0_1]] ?_; (with_reducible refine (impl_CreditsOk.calls k _ _ l0_0 _ _ l0_1 true _ ?side1 ?side2 ?side3 ?side4 A6.out).mono ?_); (case side1 => exact cY ((Kd.C_below HR0_0.out HB.out))); (case side2 => exact HC0_0.out); (case side3 => exact cY ((Kd.C_below HR0_1.out HB.out))); (case side4 => exact HC0_1.out); rintro e w11 ⟨rfl, hb⟩; refine ⟨_, rfl, ?_⟩; have n0_ := A_.mk (bb_ (bY BK386.out) hb); have n1_ := A_.mk (bb_ (bY BK387.out) hb); have n2_ := A_.mk (bt_ (by repeat (first | (with_reducible first | exact HB.out | apply ba_ | apply bd_ | apply be_ | refine bs_ ?_ GE386.out | refine bs_ ?_ GE387.out) | exact HB.out)) hb); clear BK386 BK387 HB; have BK386 := n0_; have BK387 := n1_; have HB := n2_; clear n0_ n1_ n2_; (try clear hb); (try clear hb2); (try clear hk); (try clear hi); have hcz12_0 : w11.cell? ⟨gb387, 0, none⟩ = some (.int .i64 a1_0) := (bc_ BK387.out 0).trans rfl; have hcz12_1 : w11.cell? ⟨gb387, 1, none⟩ = some (.int .i64 a1_1) := (bc_ BK387.out 1).trans rfl; have hcz12_2 : w11.cell? ⟨gb387, 2, none⟩ = some (.int .i64 a1_2) := (bc_ BK387.out 2).trans rfl; have hcz12_3 : w11.cell? ⟨gb387, 3, none⟩ = some (.int .i64 a1_3) := (bc_ BK387.out 3).trans rfl; have hcz12_4 : w11.cell? ⟨gb387, 4, none⟩ = some (.int .i64 a1_4) := (bc_ BK387.out 4).trans rfl; have hcz12_5 : w11.cell? ⟨gb387, 5, none⟩ = some (.int .i64 a1_5) := (bc_ BK387.out 5).trans rfl; have hcz12_6 : w11.cell? ⟨gb387, 6, none⟩ = some (.int .i64 a1_6) := (bc_ BK387.out 6).trans rfl; have hcz12_7 : w11.cell? ⟨gb387, 7, none⟩ = some (.slice A1_7 l1_7.length c1_7) := (bc_ BK387.out 7).trans rfl; have hfz12_0 := bf_ BK387.out 0; have hfz12_1 := bf_ BK387.out 1; have hfz12_2 := bf_ BK387.out 2; have hfz12_3 := bf_ BK387.out 3; have hfz12_4 := bf_ BK387.out 4; have hfz12_5 := bf_ BK387.out 5; have hfz12_6 := bf_ BK387.out 6; have hfz12_7 := bf_ BK387.out 7) | (go_at_call 65; (with_reducible refine (impl_IsPacket.calls k a1_0 a1_1 a1_2 a1_3 a1_4 a1_5 a1_6 _ _ l1_7 t389 _ ?side1 ?side2 A8.out).mono ?_); (case side1 => exact cY ((Kd.C_below HR1_7.out HB.out))); (case side2 => exact HC1_7.out); rintro e w13 ⟨rfl, hb⟩; have n0_ := A_.mk (bb_ (bY BK386.out) hb); have n1_ := A_.mk (bb_ (bY BK387.out) hb); have n2_ := A_.mk (bt_ (by repeat (first | (with_reducible first | exact HB.out | apply ba_ | apply bd_ | apply be_ | refine bs_ ?_ GE386.out | refine bs_ ?_ GE387.out) | exact HB.out)) hb); clear BK386 BK387 HB; have BK386 := n0_; have BK387 := n1_; have HB := n2_; clear n0_ n1_ n2_; (try clear hb); (try clear hb2); (try clear hk); (try clear hi)))
  go_meet
  case rel => exact ⟨_, (!t389), (by first | rfl | (simp; done) | (simp [*]; done)), H', ⟨by first | omega | exact Nat.le_refl _⟩, ⟨by (repeat apply bX); exact BK386.out⟩, ⟨by (repeat apply bX); exact BK387.out⟩, ⟨by repeat (first | (with_reducible first | exact HB.out | apply ba_ | apply bd_ | apply be_ | refine bs_ ?_ GE386.out | refine bs_ ?_ GE387.out) | exact HB.out)⟩⟩
 case rest =>
  clear HC3
  obtain ⟨kq, x13_2, rfl, HA, HJ2, BK386, BK387, HB⟩ := hcut
  cases kq with
  | zero => exact absurd HA.out (by simp [impl_CanSend.j0])
  | succ kj2 =>
   have H := HA.out
   clear HA
   simp only [impl_CanSend.j0] at H
   by_cases c17 : x13_2 = true
   ·subst c17
    have H1 : (some false) = some r := by rw [if_pos rfl] at H; exact H
    clear H
    have H := H1
    clear H1
    obtain rfl := Option.some.inj H
    go_wp2
    go_ret
    exact ⟨by first | rfl | (simp [errW_none, errW_some] <;> rfl) | (simp [*, errW_none, errW_some] <;> rfl), by repeat (first | (with_reducible first | exact HB.out | apply ba_ | apply bd_ | apply be_ | refine bs_ ?_ GE386.out | refine bs_ ?_ GE387.out) | exact HB.out)⟩
   replace c17 := Bool.eq_false_iff.mpr c17
   subst c17
   have H1 : ((impl_ClassOf.f kj2 a1_0 a1_1 a1_2 a1_3 a1_4 a1_5 a1_6 l1_7).bind fun t390 => (if 0 ≤ t390 then (if t390 < (l0_0.length : Int) then (if (rd l0_0 t390) ≥ 1 then (if t390 < (l0_1.length : Int) then ((impl_PacketUnits.f kj2 a1_0 a1_1 a1_2 a1_3 a1_4 a1_5 a1_6 l1_7).bind fun t393 => (some (decide ((rd l0_1 t390) ≥ t393)))) else (none)) else (some false)) else (none)) else (none))) = some r := by rw [if_neg (show ¬ (false = true) by decide)] at H; exact H
   clear H
   have H := H1
   clear H1
   replace H := ob_ H
   obtain ⟨t390, A180, H⟩ := H
   have A18 := A_.mk A180
   clear A180
   by_cases c19 : 0 ≤ t390
   rotate_left
   ·rw [if_neg c19] at H
    exact absurd H (by simp)
   rw [if_pos c19] at H
   have c19b0 : decide (0 ≤ t390) = true := decide_eq_true c19
   clear c19
   by_cases c20 : t390 < (l0_0.length : Int)
   rotate_left
   ·rw [if_neg c20] at H
    exact absurd H (by simp)
   rw [if_pos c20] at H
   have c20b0 : decide (t390 < (l0_0.length : Int)) = true := decide_eq_true c20
   clear c20
   by_cases c21 : (rd l0_0 t390) ≥ 1
   rotate_left
   ·rw [if_neg c21] at H
    have c21b0 : decide (1 ≤ (rd l0_0 t390)) = false := decide_eq_false c21
    clear c21
    obtain rfl := Option.some.inj H
    have hnb29 := NB387_386.out
    have hnc29 := NB386_387.out
    obtain ⟨hcz30_0, hcz30_1, hcz30_2, hcz30_3, hcz30_4, hcz30_5, hcz30_6, hcz30_7, hfz30_0, hfz30_1, hfz30_2, hfz30_3, hfz30_4, hfz30_5, hfz30_6, hfz30_7⟩ := b8 BK387.out
    try go_wp2_with (first | ((with_reducible refine gc_ (f := 79) rfl ?_); refine gl_ (some 15) Try.func79 #[.agg #[.int .i64 a1_0, .int .i64 a1_1, .int .i64 a1_2, .int .i64 a1_3, .int .i64 a1_4, .int .i64 a1_5, .int .i64 a1_6, .slice A1_7 l1_7.length c1_7]] ?_; (with_reducible refine (impl_ClassOf.calls kj2 a1_0 a1_1 a1_2 a1_3 a1_4 a1_5 a1_6 _ _ l1_7 t390 _ ?side1 ?side2 A18.out).mono ?_); (case side1 => exact cY ((Kd.C_below HR1_7.out HB.out))); (case side2 => exact HC1_7.out); rintro e w31 ⟨rfl, hb⟩; refine ⟨_, rfl, ?_⟩; have n0_ := A_.mk (bb_ (bY BK386.out) hb); have n1_ := A_.mk (bb_ (bY BK387.out) hb); have n2_ := A_.mk (bt_ (by repeat (first | (with_reducible first | exact HB.out | apply ba_ | apply bd_ | apply be_ | refine bs_ ?_ GE386.out | refine bs_ ?_ GE387.out) | exact HB.out)) hb); clear BK386 BK387 HB; have BK386 := n0_; have BK387 := n1_; have HB := n2_; clear n0_ n1_ n2_; (try clear hb); (try clear hb2); (try clear hk); (try clear hi)))
    have n0_ := A_.mk (bw_ BK386.out)
    have n1_ := A_.mk (bw_ BK387.out)
    have n2_ := A_.mk (be_ HB.out)
    clear BK386 BK387 HB
    have BK386 := n0_
    have BK387 := n1_
    have HB := n2_
    clear n0_ n1_ n2_
    have p391 : 0 ≤ (t390 : Int) := od_
    have q391 : t390 < (l0_0.length : Int) := od_
    obtain ⟨ad391, e391, hx391_0⟩ := Kd.at_int HR0_0.out t390 p391 q391
    have hw391_0 := hx391_0
    cases e391
    replace hx391_0 := (HB.out.cell (wl_ w _ hx391_0)).trans hx391_0
    replace p391 := eq_true p391
    replace q391 := eq_true q391
    refine start_ (n := 17) (S := fun w' => w'.cell? ⟨gb386, 0, none⟩ = some (.slice (some ad391) l0_0.length c0_0) ∧ w'.cell? ⟨gb386, 1, none⟩ = some (.slice A0_1 l0_1.length c0_1) ∧ w'.cell? (ad391.add (t390).toNat) = some (.int .i64 (rd l0_0 t390))) (ds := []) #[F, F, F, F, F, F, F, F, F, F, F, F, F, F, F, F, F] (by kernel_rfl) rfl rfl ⟨(bc_ BK386.out 0).trans rfl, (bc_ BK386.out 1).trans rfl, ((HB.out.cell (wl_ w _ hw391_0)).trans hw391_0)⟩ (fun hHeld => ?_); refine with_tabW impl_CanSend.tab4 impl_CanSend.bits4 (fun HT_ HW_ => ?_)
    generalize w31.drew = w32 at BK386 BK387 HB hx391_0 hHeld ⊢
    refine pr_ (i := 0) (N := some 16) #[T, F, F, F, F, F, F, F, F, F, F, F, F, F, F, F, F] rfl HT_.out ?_
    refine pr_ (i := 2) (N := some 18) #[T, F, T, F, F, F, F, F, F, F, F, F, F, F, F, F, F] rfl HT_.out ?_
    refine take_ (i := 1) (N := some 17) (v := ?_) (a' := ?_) #[T, T, T, F, F, F, F, F, F, F, F, F, F, F, F, F, F] rfl rfl (take_ofW HT_.out HW_.out (by kernel_rfl)) (fun _ _ _ h => h) (Or.inl ⟨by rfl, ?_⟩) hHeld ?_ ?_
    rotate_left
    ·rintro w' ⟨s0, s1, s2⟩
     go_simp
     with_reducible rfl
    rotate_left
    ·simp only [pS]
     rfl
    refine pr_ (i := 3) (N := some 19) #[T, T, T, T, F, F, F, F, F, F, F, F, F, F, F, F, F] rfl HT_.out ?_
    refine take_ (i := 4) (N := some 20) (v := ?_) (a' := ?_) #[T, T, T, T, T, F, F, F, F, F, F, F, F, F, F, F, F] rfl rfl (take_ofW HT_.out HW_.out (by kernel_rfl)) (fun _ _ _ h => h) (Or.inl ⟨by rfl, ?_⟩) hHeld ?_ ?_
    rotate_left
    ·rintro w' ⟨s0, s1, s2⟩
     go_simp
     with_reducible rfl
    rotate_left
    ·simp only [pS]
     rfl
    refine pr_ (i := 5) (N := some 21) #[T, T, T, T, T, T, F, F, F, F, F, F, F, F, F, F, F] rfl HT_.out ?_
    refine pr_ (i := 6) (N := some 22) #[T, T, T, T, T, T, T, F, F, F, F, F, F, F, F, F, F] rfl HT_.out ?_
    refine pu_ (i := 7) (N := some 23) #[T, T, T, T, T, T, T, T, F, F, F, F, F, F, F, F, F] rfl HT_.out ?_
    refine pu_ (i := 8) (N := some 24) #[T, T, T, T, T, T, T, T, T, F, F, F, F, F, F, F, F] rfl HT_.out ?_
    refine pu_ (i := 9) (N := some 25) #[T, T, T, T, T, T, T, T, T, T, F, F, F, F, F, F, F] rfl HT_.out ?_
    refine pu_ (i := 10) (N := some 26) #[T, T, T, T, T, T, T, T, T, T, T, F, F, F, F, F, F] rfl HT_.out ?_
    refine pu_ (i := 11) (N := some 27) #[T, T, T, T, T, T, T, T, T, T, T, T, F, F, F, F, F] rfl HT_.out ?_
    refine pu_ (i := 12) (N := some 28) #[T, T, T, T, T, T, T, T, T, T, T, T, T, F, F, F, F] rfl HT_.out ?_
    refine pu_ (i := 13) (N := some 29) #[T, T, T, T, T, T, T, T, T, T, T, T, T, T, F, F, F] rfl HT_.out ?_
    refine pu_ (i := 14) (N := some 30) #[T, T, T, T, T, T, T, T, T, T, T, T, T, T, T, F, F] rfl HT_.out ?_
    refine pr_ (i := 15) (N := some 31) #[T, T, T, T, T, T, T, T, T, T, T, T, T, T, T, T, F] rfl HT_.out ?_
    refine pr_ (i := 16) (N := some 4) #[T, T, T, T, T, T, T, T, T, T, T, T, T, T, T, T, T] rfl HT_.out ?_
    refine done_ (done_of HT_.out (by kernel_rfl)) ?_
    try go_wp2
    go_ret
    exact ⟨by first | rfl | (simp [errW_none, errW_some] <;> rfl) | (simp [*, errW_none, errW_some] <;> rfl), by repeat (first | (with_reducible first | exact HB.out | apply ba_ | apply bd_ | apply be_ | refine bs_ ?_ GE386.out | refine bs_ ?_ GE387.out) | exact HB.out)⟩
   rw [if_pos c21] at H
   have c21b0 : decide (1 ≤ (rd l0_0 t390)) = true := decide_eq_true c21
   clear c21
   by_cases c22 : t390 < (l0_1.length : Int)
   rotate_left
   ·rw [if_neg c22] at H
    exact absurd H (by simp)
   rw [if_pos c22] at H
   have c22b0 : decide (t390 < (l0_1.length : Int)) = true := decide_eq_true c22
   clear c22
   replace H := ob_ H
   obtain ⟨t393, A230, H⟩ := H
   have A23 := A_.mk A230
   clear A230
   obtain rfl := Option.some.inj H
   have hnb24 := NB387_386.out
   have hnc24 := NB386_387.out
   obtain ⟨hcz25_0, hcz25_1, hcz25_2, hcz25_3, hcz25_4, hcz25_5, hcz25_6, hcz25_7, hfz25_0, hfz25_1, hfz25_2, hfz25_3, hfz25_4, hfz25_5, hfz25_6, hfz25_7⟩ := b8 BK387.out
   try go_wp2_with (first | ((with_reducible refine gc_ (f := 79) rfl ?_); refine gl_ (some 15) Try.func79 #[.agg #[.int .i64 a1_0, .int .i64 a1_1, .int .i64 a1_2, .int .i64 a1_3, .int .i64 a1_4, .int .i64 a1_5, .int .i64 a1_6, .slice A1_7 l1_7.length c1_7]] ?_; (with_reducible refine (impl_ClassOf.calls kj2 a1_0 a1_1 a1_2 a1_3 a1_4 a1_5 a1_6 _ _ l1_7 t390 _ ?side1 ?side2 A18.out).mono ?_); (case side1 => exact cY ((Kd.C_below HR1_7.out HB.out))); (case side2 => exact HC1_7.out); rintro e w26 ⟨rfl, hb⟩; refine ⟨_, rfl, ?_⟩; have n0_ := A_.mk (bb_ (bY BK386.out) hb); have n1_ := A_.mk (bb_ (bY BK387.out) hb); have n2_ := A_.mk (bt_ (by repeat (first | (with_reducible first | exact HB.out | apply ba_ | apply bd_ | apply be_ | refine bs_ ?_ GE386.out | refine bs_ ?_ GE387.out) | exact HB.out)) hb); clear BK386 BK387 HB; have BK386 := n0_; have BK387 := n1_; have HB := n2_; clear n0_ n1_ n2_; (try clear hb); (try clear hb2); (try clear hk); (try clear hi)))
   have n0_ := A_.mk (bw_ BK386.out)
   have n1_ := A_.mk (bw_ BK387.out)
   have n2_ := A_.mk (be_ HB.out)
   clear BK386 BK387 HB
   have BK386 := n0_
   have BK387 := n1_
   have HB := n2_
   clear n0_ n1_ n2_
   have p391 : 0 ≤ (t390 : Int) := od_
   have q391 : t390 < (l0_0.length : Int) := od_
   obtain ⟨ad391, e391, hx391_0⟩ := Kd.at_int HR0_0.out t390 p391 q391
   have hw391_0 := hx391_0
   cases e391
   replace hx391_0 := (HB.out.cell (wl_ w _ hx391_0)).trans hx391_0
   replace p391 := eq_true p391
   replace q391 := eq_true q391
   have p392 : 0 ≤ (t390 : Int) := od_
   have q392 : t390 < (l0_1.length : Int) := od_
   obtain ⟨ad392, e392, hx392_0⟩ := Kd.at_int HR0_1.out t390 p392 q392
   have hw392_0 := hx392_0
   cases e392
   replace hx392_0 := (HB.out.cell (wl_ w _ hx392_0)).trans hx392_0
   replace p392 := eq_true p392
   replace q392 := eq_true q392
   refine start_ (n := 17) (S := fun w' => w'.cell? ⟨gb386, 0, none⟩ = some (.slice (some ad391) l0_0.length c0_0) ∧ w'.cell? ⟨gb386, 1, none⟩ = some (.slice (some ad392) l0_1.length c0_1) ∧ w'.cell? ⟨gb387, 0, none⟩ = some (.int .i64 a1_0) ∧ w'.cell? ⟨gb387, 1, none⟩ = some (.int .i64 a1_1) ∧ w'.cell? ⟨gb387, 2, none⟩ = some (.int .i64 a1_2) ∧ w'.cell? ⟨gb387, 3, none⟩ = some (.int .i64 a1_3) ∧ w'.cell? ⟨gb387, 4, none⟩ = some (.int .i64 a1_4) ∧ w'.cell? ⟨gb387, 5, none⟩ = some (.int .i64 a1_5) ∧ w'.cell? ⟨gb387, 6, none⟩ = some (.int .i64 a1_6) ∧ w'.cell? ⟨gb387, 7, none⟩ = some (.slice A1_7 l1_7.length c1_7) ∧ w'.cell? (ad391.add (t390).toNat) = some (.int .i64 (rd l0_0 t390)) ∧ w'.cell? (ad392.add (t390).toNat) = some (.int .i64 (rd l0_1 t390))) (ds := []) #[F, F, F, F, F, F, F, F, F, F, F, F, F, F, F, F, F] (by kernel_rfl) rfl rfl ⟨(bc_ BK386.out 0).trans rfl, (bc_ BK386.out 1).trans rfl, (bc_ BK387.out 0).trans rfl, (bc_ BK387.out 1).trans rfl, (bc_ BK387.out 2).trans rfl, (bc_ BK387.out 3).trans rfl, (bc_ BK387.out 4).trans rfl, (bc_ BK387.out 5).trans rfl, (bc_ BK387.out 6).trans rfl, (bc_ BK387.out 7).trans rfl, ((HB.out.cell (wl_ w _ hw391_0)).trans hw391_0), ((HB.out.cell (wl_ w _ hw392_0)).trans hw392_0)⟩ (fun hHeld => ?_); refine with_tabW impl_CanSend.tab4 impl_CanSend.bits4 (fun HT_ HW_ => ?_)
   generalize w26.drew = w27 at BK386 BK387 HB hx391_0 hx392_0 hHeld ⊢
   refine pr_ (i := 0) (N := some 16) #[T, F, F, F, F, F, F, F, F, F, F, F, F, F, F, F, F] rfl HT_.out ?_
   refine pr_ (i := 2) (N := some 18) #[T, F, T, F, F, F, F, F, F, F, F, F, F, F, F, F, F] rfl HT_.out ?_
   refine take_ (i := 1) (N := some 17) (v := ?_) (a' := ?_) #[T, T, T, F, F, F, F, F, F, F, F, F, F, F, F, F, F] rfl rfl (take_ofW HT_.out HW_.out (by kernel_rfl)) (fun _ _ _ h => h) (Or.inl ⟨by rfl, ?_⟩) hHeld ?_ ?_
   rotate_left
   ·rintro w' ⟨s0, s1, s2, s3, s4, s5, s6, s7, s8, s9, s10, s11⟩
    go_simp
    with_reducible rfl
   rotate_left
   ·simp only [pS]
    rfl
   refine pr_ (i := 3) (N := some 19) #[T, T, T, T, F, F, F, F, F, F, F, F, F, F, F, F, F] rfl HT_.out ?_
   refine take_ (i := 4) (N := some 20) (v := ?_) (a' := ?_) #[T, T, T, T, T, F, F, F, F, F, F, F, F, F, F, F, F] rfl rfl (take_ofW HT_.out HW_.out (by kernel_rfl)) (fun _ _ _ h => h) (Or.inl ⟨by rfl, ?_⟩) hHeld ?_ ?_
   rotate_left
   ·rintro w' ⟨s0, s1, s2, s3, s4, s5, s6, s7, s8, s9, s10, s11⟩
    go_simp
    with_reducible rfl
   rotate_left
   ·simp only [pS]
    rfl
   refine pr_ (i := 5) (N := some 21) #[T, T, T, T, T, T, F, F, F, F, F, F, F, F, F, F, F] rfl HT_.out ?_
   refine pr_ (i := 6) (N := some 22) #[T, T, T, T, T, T, T, F, F, F, F, F, F, F, F, F, F] rfl HT_.out ?_
   refine pr_ (i := 7) (N := some 23) #[T, T, T, T, T, T, T, T, F, F, F, F, F, F, F, F, F] rfl HT_.out ?_
   refine pr_ (i := 9) (N := some 25) #[T, T, T, T, T, T, T, T, F, T, F, F, F, F, F, F, F] rfl HT_.out ?_
   refine take_ (i := 8) (N := some 24) (v := ?_) (a' := ?_) #[T, T, T, T, T, T, T, T, T, T, F, F, F, F, F, F, F] rfl rfl (take_ofW HT_.out HW_.out (by kernel_rfl)) (fun _ _ _ h => h) (Or.inl ⟨by rfl, ?_⟩) hHeld ?_ ?_
   rotate_left
   ·rintro w' ⟨s0, s1, s2, s3, s4, s5, s6, s7, s8, s9, s10, s11⟩
    go_simp
    with_reducible rfl
   rotate_left
   ·simp only [pS]
    rfl
   refine pr_ (i := 10) (N := some 26) #[T, T, T, T, T, T, T, T, T, T, T, F, F, F, F, F, F] rfl HT_.out ?_
   refine take_ (i := 11) (N := some 27) (v := ?_) (a' := ?_) #[T, T, T, T, T, T, T, T, T, T, T, T, F, F, F, F, F] rfl rfl (take_ofW HT_.out HW_.out (by kernel_rfl)) (fun _ _ _ h => h) (Or.inl ⟨by rfl, ?_⟩) hHeld ?_ ?_
   rotate_left
   ·rintro w' ⟨s0, s1, s2, s3, s4, s5, s6, s7, s8, s9, s10, s11⟩
    go_simp
    with_reducible rfl
   rotate_left
   ·simp only [pS]
    rfl
   refine take_ (i := 12) (N := some 28) (v := ?_) (a' := ?_) #[T, T, T, T, T, T, T, T, T, T, T, T, T, F, F, F, F] rfl rfl (take_ofW HT_.out HW_.out (by kernel_rfl)) (fun _ _ _ h => h) (Or.inl ⟨by rfl, ?_⟩) hHeld ?_ ?_
   rotate_left
   ·rintro w' ⟨s0, s1, s2, s3, s4, s5, s6, s7, s8, s9, s10, s11⟩
    go_simp
    with_reducible rfl
   rotate_left
   ·simp only [pS]
    rfl
   refine one_ (i := 13) (N := some 29) #[T, T, T, T, T, T, T, T, T, T, T, T, T, T, F, F, F] rfl rfl (one_of HT_.out (by kernel_rfl)) (by decide) (fun K hK => ?_)
   refine goes_ Try.func85 (by kernel_rfl) rfl #[.agg #[.int .i64 a1_0, .int .i64 a1_1, .int .i64 a1_2, .int .i64 a1_3, .int .i64 a1_4, .int .i64 a1_5, .int .i64 a1_6, .slice A1_7 l1_7.length c1_7]] (by rfl) rfl rfl (by (try simp only [List.map_toArray, List.map_cons, List.map_nil]); first | done | rfl) ?_
   with_reducible refine (impl_PacketUnits.calls kj2 a1_0 a1_1 a1_2 a1_3 a1_4 a1_5 a1_6 _ _ l1_7 t393 _ ?side1 ?side2 A23.out).mono ?_
   (case side1 => exact cY ((Kd.C_below HR1_7.out HB.out)))
   (case side2 => exact HC1_7.out)
   rintro e w28 ⟨rfl, hb⟩
   refine ⟨_, rfl, ?_⟩
   have n0_ := A_.mk (bb_ (bY BK386.out) hb)
   have n1_ := A_.mk (bb_ (bY BK387.out) hb)
   have n2_ := A_.mk (bt_ (by repeat (first | (with_reducible first | exact HB.out | apply ba_ | apply bd_ | apply be_ | refine bs_ ?_ GE386.out | refine bs_ ?_ GE387.out) | exact HB.out)) hb)
   clear BK386 BK387 HB
   have BK386 := n0_
   have BK387 := n1_
   have HB := n2_
   clear n0_ n1_ n2_
   refine hK.out _ _ ⟨(bc_ BK386.out 0).trans rfl, (bc_ BK386.out 1).trans rfl, (bc_ BK387.out 0).trans rfl, (bc_ BK387.out 1).trans rfl, (bc_ BK387.out 2).trans rfl, (bc_ BK387.out 3).trans rfl, (bc_ BK387.out 4).trans rfl, (bc_ BK387.out 5).trans rfl, (bc_ BK387.out 6).trans rfl, (bc_ BK387.out 7).trans rfl, ((HB.out.cell (wl_ w _ hw391_0)).trans hw391_0), ((HB.out.cell (wl_ w _ hw392_0)).trans hw392_0)⟩ (fun hHeld => ?_)
   clear hK K
   refine norm_ (a' := ?_) ?_ ?_
   rotate_left
   ·show Act.put _ (some 29) _ = _
    simp only [pS]
    rfl
   refine pr_ (i := 14) (N := some 30) #[T, T, T, T, T, T, T, T, T, T, T, T, T, T, T, F, F] rfl HT_.out ?_
   refine pr_ (i := 15) (N := some 31) #[T, T, T, T, T, T, T, T, T, T, T, T, T, T, T, T, F] rfl HT_.out ?_
   refine pr_ (i := 16) (N := some 4) #[T, T, T, T, T, T, T, T, T, T, T, T, T, T, T, T, T] rfl HT_.out ?_
   refine done_ (done_of HT_.out (by kernel_rfl)) ?_
   try go_wp2
   go_ret
   exact ⟨by first | rfl | (simp [errW_none, errW_some] <;> rfl) | (simp [*, errW_none, errW_some] <;> rfl), by repeat (first | (with_reducible first | exact HB.out | apply ba_ | apply bd_ | apply be_ | refine bs_ ?_ GE386.out | refine bs_ ?_ GE387.out) | exact HB.out)⟩
end Go.Proofs.Ytbdehpmfemgooaa.PFnQueues
