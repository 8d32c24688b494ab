-- Written by a program of this session (wip/xp): not trusted, Lean checks it.
import Derived.Test.YtbdehpmfemgooaaPFnQueuesx0
import Derived.Test.YtbdehpmfemgooaaPFnQueuesx1
import Derived.Test.YtbdehpmfemgooaaPFnQueuesx2
namespace Go.Proofs.Ytbdehpmfemgooaa.PFnQueues
open Go.RowKit Go.Proofs.YtbdehpmfemgooaaW.PrintWords Go.Proofs.YtbdehpmfemgooaaW.PrintLast Go.Proofs.YtbdehpmfemgooaaW.PrintMore
attribute [local go_sem] max2_int min2_int max_two min_two max_three min_three max_four min_four   -- for this text's walks alone
set_option linter.unusedVariables false
set_option linter.unusedSimpArgs false

/-! ### impl_IsPacket: function 65 -/
mutual
def impl_IsPacket.j0 : Nat → Bool → Int → Int → Int → Int → Int → Int → Int → List Int → Option (Bool)
 | 0, _, _, _, _, _, _, _, _, _ => none
 | k + 1, x24, x122000, x122001, x122002, x122003, x122004, x122005, x122006, x122007 => if x24 = true then (some false) else ((impl_within.f x122000 4 6).bind fun t126 => (if t126 = true then ((impl_IsId.f x122002).bind fun t127 => (if t127 = true then (impl_IsPacket.j1 k false x122000 x122001 x122002 x122003 x122004 x122005 x122006 x122007) else (impl_IsPacket.j1 k true x122000 x122001 x122002 x122003 x122004 x122005 x122006 x122007))) else (impl_IsPacket.j1 k (x122002 != 0) x122000 x122001 x122002 x122003 x122004 x122005 x122006 x122007)))
def impl_IsPacket.j1 : Nat → Bool → Int → Int → Int → Int → Int → Int → Int → List Int → Option (Bool)
 | 0, _, _, _, _, _, _, _, _, _ => none
 | k + 1, x43, x122000, x122001, x122002, x122003, x122004, x122005, x122006, x122007 => if x43 = true then (some false) else ((impl_within.f x122000 3 6).bind fun t128 => (if t128 = true then ((impl_within.f x122005 0 7).bind fun t129 => (if t129 = true then (impl_IsPacket.j2 k false x122000 x122001 x122002 x122003 x122004 x122005 x122006 x122007) else (impl_IsPacket.j2 k true x122000 x122001 x122002 x122003 x122004 x122005 x122006 x122007))) else (impl_IsPacket.j2 k (x122005 != 0) x122000 x122001 x122002 x122003 x122004 x122005 x122006 x122007)))
def impl_IsPacket.j2 : Nat → Bool → Int → Int → Int → Int → Int → Int → Int → List Int → Option (Bool)
 | 0, _, _, _, _, _, _, _, _, _ => none
 | k + 1, x62, x122000, x122001, x122002, x122003, x122004, x122005, x122006, x122007 => if x62 = true then (some false) else (if x122000 = 6 then ((impl_within.f x122006 0 2).bind fun t130 => (if t130 = true then ((impl_Packet_dataOk.f k x122000 x122001 x122002 x122003 x122004 x122005 x122006 x122007).bind fun t131 => (some t131)) else (some false))) else (if x122006 = 0 then ((impl_Packet_dataOk.f k x122000 x122001 x122002 x122003 x122004 x122005 x122006 x122007).bind fun t132 => (some t132)) else (some false)))
end
def impl_IsPacket.f (k : Nat) (a0_0 : Int) (a0_1 : Int) (a0_2 : Int) (a0_3 : Int) (a0_4 : Int) (a0_5 : Int) (a0_6 : Int) (l0_7 : List Int) : Option (Bool) := (impl_within.f a0_0 1 6).bind fun t122 => (if t122 = true then ((impl_IsId.f a0_1).bind fun t123 => (if t123 = true then ((impl_Packet_addressOk.f k a0_0 a0_1 a0_2 a0_3 a0_4 a0_5 a0_6 l0_7).bind fun t124 => (if t124 = true then ((impl_Packet_lengthOk.f a0_0 a0_1 a0_2 a0_3 a0_4 a0_5 a0_6 l0_7).bind fun t125 => (impl_IsPacket.j0 k (!t125) a0_0 a0_1 a0_2 a0_3 a0_4 a0_5 a0_6 l0_7)) else (impl_IsPacket.j0 k true a0_0 a0_1 a0_2 a0_3 a0_4 a0_5 a0_6 l0_7))) else (impl_IsPacket.j0 k true a0_0 a0_1 a0_2 a0_3 a0_4 a0_5 a0_6 l0_7))) else (impl_IsPacket.j0 k true a0_0 a0_1 a0_2 a0_3 a0_4 a0_5 a0_6 l0_7))
set_option maxHeartbeats 8000000 in
set_option maxRecDepth 100000 in
theorem impl_IsPacket.calls (k : Nat) (a0_0 : Int) (a0_1 : Int) (a0_2 : Int) (a0_3 : Int) (a0_4 : Int) (a0_5 : Int) (a0_6 : Int) (A0_7 : Option Addr) (c0_7 : Nat) (l0_7 : List Int) (r : Bool) (w : World) (hr0_7 : Kd.C (Kd.int .i64) w A0_7 l0_7.length l0_7) (hc0_7 : l0_7.length ≤ c0_7) (h : impl_IsPacket.f k a0_0 a0_1 a0_2 a0_3 a0_4 a0_5 a0_6 l0_7 = some r) :
  Calls Try.prog 65 #[.agg #[.int .i64 a0_0, .int .i64 a0_1, .int .i64 a0_2, .int .i64 a0_3, .int .i64 a0_4, .int .i64 a0_5, .int .i64 a0_6, .slice A0_7 l0_7.length c0_7]] w fun e w' => e = .returned (.bool r) ∧ Below w.heap.size w w' := by
 have hu60 := Try.underlying60
 have HR0_7 := A_.mk hr0_7
 have HC0_7 := A_.mk hc0_7
 clear hr0_7 hc0_7
 have HB := A_.mk (Below.refl w.heap.size w)
 have H : ((impl_within.f a0_0 1 6).bind fun t122 => (if t122 = true then ((impl_IsId.f a0_1).bind fun t123 => (if t123 = true then ((impl_Packet_addressOk.f k a0_0 a0_1 a0_2 a0_3 a0_4 a0_5 a0_6 l0_7).bind fun t124 => (if t124 = true then ((impl_Packet_lengthOk.f a0_0 a0_1 a0_2 a0_3 a0_4 a0_5 a0_6 l0_7).bind fun t125 => (impl_IsPacket.j0 k (!t125) a0_0 a0_1 a0_2 a0_3 a0_4 a0_5 a0_6 l0_7)) else (impl_IsPacket.j0 k true a0_0 a0_1 a0_2 a0_3 a0_4 a0_5 a0_6 l0_7))) else (impl_IsPacket.j0 k true a0_0 a0_1 a0_2 a0_3 a0_4 a0_5 a0_6 l0_7))) else (impl_IsPacket.j0 k true a0_0 a0_1 a0_2 a0_3 a0_4 a0_5 a0_6 l0_7))) = some r := h
 clear h
 have HC2 := A_.mk H
 clear H
 go_enter Try.func65, Try.ntmps65
 go_upto_region 1 with (first | ((with_reducible refine gd_ (N := 1) rfl ?_); refine by_ 1 (cs := #[.int .i64 a0_0, .int .i64 a0_1, .int .i64 a0_2, .int .i64 a0_3, .int .i64 a0_4, .int .i64 a0_5, .int .i64 a0_6, .slice A0_7 l0_7.length c0_7]) (t := 60) ?_; intro gb121 hg w3 hbox hb; have n0_ := A_.mk (bt_ (beY HB.out) hb); have n1_ := A_.mk (hbox); have n2_ := A_.mk ((by rw [hg]; exact (bz_ (beY HB.out)) : w.heap.size ≤ gb121)); have n3_ := A_.mk ((by rw [hg]; exact (bz_ (beY HB.out)) : w.heap.size ≤ gb121)); clear HB; have HB := n0_; have BK121 := n1_; have GW121 := n2_; have GE121 := n3_; clear n0_ n1_ n2_ n3_ hb hbox hg))
 (try simp only [Act.put, List.setIfInBounds_toArray, List.set_cons_zero, List.set_cons_succ])
 go_cut [24] (fun v24 wc => ∃ (kq : Nat) (x24_1 : Bool), v24 = .bool x24_1 ∧ A_ (impl_IsPacket.j0 kq x24_1 a0_0 a0_1 a0_2 a0_3 a0_4 a0_5 a0_6 l0_7 = some r) ∧ A_ (kq ≤ k) ∧ A_ (wc.heap[gb121]? = some (.cells #[.int .i64 a0_0, .int .i64 a0_1, .int .i64 a0_2, .int .i64 a0_3, .int .i64 a0_4, .int .i64 a0_5, .int .i64 a0_6, (.slice A0_7 l0_7.length c0_7)] 60 (0, 0))) ∧ A_ (Below w.heap.size w wc))
 case first =>
  have H := HC2.out
  clear HC2
  replace H := ob_ H
  obtain ⟨t122, A40, H⟩ := H
  have A4 := A_.mk A40
  clear A40
  by_cases c5 : t122 = true
  rotate_left
  ·replace c5 := Bool.eq_false_iff.mpr c5
   subst c5
   have H1 : (impl_IsPacket.j0 k true a0_0 a0_1 a0_2 a0_3 a0_4 a0_5 a0_6 l0_7) = some r := by rw [if_neg (show ¬ (false = true) by decide)] at H; exact H
   clear H
   have H := H1
   clear H1
   have H' := A_.mk H
   clear H
   obtain ⟨hcz18_0, hcz18_1, hcz18_2, hcz18_3, hcz18_4, hcz18_5, hcz18_6, hcz18_7, hfz18_0, hfz18_1, hfz18_2, hfz18_3, hfz18_4, hfz18_5, hfz18_6, hfz18_7⟩ := b8 BK121.out
   go_wp2_with (first | ((with_reducible refine gc_ (f := 55) rfl ?_); refine gl_ (some 7) Try.func55 #[.int .i64 a0_0, .int .i64 1, .int .i64 6] ?_; (with_reducible refine (impl_within.calls a0_0 1 6 false _ A4.out).mono ?_); rintro e w' ⟨rfl, ⟨nd, rfl⟩⟩; refine ⟨_, rfl, ?_⟩))
   go_meet
   case rel => exact ⟨_, (true), (by first | rfl | (simp; done) | (simp [*]; done)), H', ⟨by first | omega | exact Nat.le_refl _⟩, ⟨by (repeat apply bX); exact BK121.out⟩, ⟨by repeat (first | (with_reducible first | exact HB.out | apply ba_ | apply bd_ | apply be_ | refine bs_ ?_ GE121.out) | exact HB.out)⟩⟩
  subst c5
  have H1 : ((impl_IsId.f a0_1).bind fun t123 => (if t123 = true then ((impl_Packet_addressOk.f k a0_0 a0_1 a0_2 a0_3 a0_4 a0_5 a0_6 l0_7).bind fun t124 => (if t124 = true then ((impl_Packet_lengthOk.f a0_0 a0_1 a0_2 a0_3 a0_4 a0_5 a0_6 l0_7).bind fun t125 => (impl_IsPacket.j0 k (!t125) a0_0 a0_1 a0_2 a0_3 a0_4 a0_5 a0_6 l0_7)) else (impl_IsPacket.j0 k true a0_0 a0_1 a0_2 a0_3 a0_4 a0_5 a0_6 l0_7))) else (impl_IsPacket.j0 k true a0_0 a0_1 a0_2 a0_3 a0_4 a0_5 a0_6 l0_7))) = some r := by rw [if_pos rfl] at H; exact H
  clear H
  have H := H1
  clear H1
  replace H := ob_ H
  obtain ⟨t123, A60, H⟩ := H
  have A6 := A_.mk A60
  clear A60
  by_cases c7 : t123 = true
  rotate_left
  ·replace c7 := Bool.eq_false_iff.mpr c7
   subst c7
   have H1 : (impl_IsPacket.j0 k true a0_0 a0_1 a0_2 a0_3 a0_4 a0_5 a0_6 l0_7) = some r := by rw [if_neg (show ¬ (false = true) by decide)] at H; exact H
   clear H
   have H := H1
   clear H1
   have H' := A_.mk H
   clear H
   obtain ⟨hcz17_0, hcz17_1, hcz17_2, hcz17_3, hcz17_4, hcz17_5, hcz17_6, hcz17_7, hfz17_0, hfz17_1, hfz17_2, hfz17_3, hfz17_4, hfz17_5, hfz17_6, hfz17_7⟩ := b8 BK121.out
   go_wp2_with (first | ((with_reducible refine gc_ (f := 55) rfl ?_); refine gl_ (some 7) Try.func55 #[.int .i64 a0_0, .int .i64 1, .int .i64 6] ?_; (with_reducible refine (impl_within.calls a0_0 1 6 true _ A4.out).mono ?_); rintro e w' ⟨rfl, ⟨nd, rfl⟩⟩; refine ⟨_, rfl, ?_⟩) | (go_at_call 86; (with_reducible refine (impl_IsId.calls a0_1 false _ A6.out).mono ?_); rintro e w' ⟨rfl, ⟨nd, rfl⟩⟩))
   go_meet
   case rel => exact ⟨_, (true), (by first | rfl | (simp; done) | (simp [*]; done)), H', ⟨by first | omega | exact Nat.le_refl _⟩, ⟨by (repeat apply bX); exact BK121.out⟩, ⟨by repeat (first | (with_reducible first | exact HB.out | apply ba_ | apply bd_ | apply be_ | refine bs_ ?_ GE121.out) | exact HB.out)⟩⟩
  subst c7
  have H1 : ((impl_Packet_addressOk.f k a0_0 a0_1 a0_2 a0_3 a0_4 a0_5 a0_6 l0_7).bind fun t124 => (if t124 = true then ((impl_Packet_lengthOk.f a0_0 a0_1 a0_2 a0_3 a0_4 a0_5 a0_6 l0_7).bind fun t125 => (impl_IsPacket.j0 k (!t125) a0_0 a0_1 a0_2 a0_3 a0_4 a0_5 a0_6 l0_7)) else (impl_IsPacket.j0 k true a0_0 a0_1 a0_2 a0_3 a0_4 a0_5 a0_6 l0_7))) = some r := by rw [if_pos rfl] at H; exact H
  clear H
  have H := H1
  clear H1
  replace H := ob_ H
  obtain ⟨t124, A80, H⟩ := H
  have A8 := A_.mk A80
  clear A80
  by_cases c9 : t124 = true
  rotate_left
  ·replace c9 := Bool.eq_false_iff.mpr c9
   subst c9
   have H1 : (impl_IsPacket.j0 k true a0_0 a0_1 a0_2 a0_3 a0_4 a0_5 a0_6 l0_7) = some r := by rw [if_neg (show ¬ (false = true) by decide)] at H; exact H
   clear H
   have H := H1
   clear H1
   have H' := A_.mk H
   clear H
   obtain ⟨hcz15_0, hcz15_1, hcz15_2, hcz15_3, hcz15_4, hcz15_5, hcz15_6, hcz15_7, hfz15_0, hfz15_1, hfz15_2, hfz15_3, hfz15_4, hfz15_5, hfz15_6, hfz15_7⟩ := b8 BK121.out
   go_wp2_with (first | ((with_reducible refine gc_ (f := 55) rfl ?_); refine gl_ (some 7) Try.func55 #[.int .i64 a0_0, .int .i64 1, .int .i64 6] ?_; (with_reducible refine (impl_within.calls a0_0 1 6 true _ A4.out).mono ?_); rintro e w' ⟨rfl, ⟨nd, rfl⟩⟩; refine ⟨_, rfl, ?_⟩) | (go_at_call 86; (with_reducible refine (impl_IsId.calls a0_1 true _ A6.out).mono ?_); rintro e w' ⟨rfl, ⟨nd, rfl⟩⟩) | (go_at_call 87; (with_reducible refine (impl_Packet_addressOk.calls k a0_0 a0_1 a0_2 a0_3 a0_4 a0_5 a0_6 _ _ l0_7 false _ ?side1 ?side2 A8.out).mono ?_); (case side1 => repeat (first | exact (Kd.C_below HR0_7.out (by repeat (first | (with_reducible first | exact HB.out | apply ba_ | apply bd_ | apply be_ | refine bs_ ?_ GE121.out) | exact HB.out))) | (with_reducible refine Kd.C_alloc ?_ _) | (with_reducible refine Kd.C_drewN ?_ _) | (with_reducible refine Kd.C_drew ?_))); (case side2 => exact HC0_7.out); rintro e w16 ⟨rfl, hb⟩; have n0_ := A_.mk (bb_ (bY BK121.out) hb); have n1_ := A_.mk (bt_ (by repeat (first | (with_reducible first | exact HB.out | apply ba_ | apply bd_ | apply be_ | refine bs_ ?_ GE121.out) | exact HB.out)) hb); clear BK121 HB; have BK121 := n0_; have HB := n1_; clear n0_ n1_; (try clear hb); (try clear hb2); (try clear hk); (try clear hi)))
   go_meet
   case rel => exact ⟨_, (true), (by first | rfl | (simp; done) | (simp [*]; done)), H', ⟨by first | omega | exact Nat.le_refl _⟩, ⟨by (repeat apply bX); exact BK121.out⟩, ⟨by repeat (first | (with_reducible first | exact HB.out | apply ba_ | apply bd_ | apply be_ | refine bs_ ?_ GE121.out) | exact HB.out)⟩⟩
  subst c9
  have H1 : ((impl_Packet_lengthOk.f a0_0 a0_1 a0_2 a0_3 a0_4 a0_5 a0_6 l0_7).bind fun t125 => (impl_IsPacket.j0 k (!t125) a0_0 a0_1 a0_2 a0_3 a0_4 a0_5 a0_6 l0_7)) = some r := by rw [if_pos rfl] at H; exact H
  clear H
  have H := H1
  clear H1
  replace H := ob_ H
  obtain ⟨t125, A100, H⟩ := H
  have A10 := A_.mk A100
  clear A100
  have H' := A_.mk H
  clear H
  obtain ⟨hcz11_0, hcz11_1, hcz11_2, hcz11_3, hcz11_4, hcz11_5, hcz11_6, hcz11_7, hfz11_0, hfz11_1, hfz11_2, hfz11_3, hfz11_4, hfz11_5, hfz11_6, hfz11_7⟩ := b8 BK121.out
  go_wp2_with (first | ((with_reducible refine gc_ (f := 55) rfl ?_); refine gl_ (some 7) Try.func55 #[.int .i64 a0_0, .int .i64 1, .int .i64 6] ?_; (with_reducible refine (impl_within.calls a0_0 1 6 true _ A4.out).mono ?_); rintro e w' ⟨rfl, ⟨nd, rfl⟩⟩; refine ⟨_, rfl, ?_⟩) | (go_at_call 86; (with_reducible refine (impl_IsId.calls a0_1 true _ A6.out).mono ?_); rintro e w' ⟨rfl, ⟨nd, rfl⟩⟩) | (go_at_call 87; (with_reducible refine (impl_Packet_addressOk.calls k a0_0 a0_1 a0_2 a0_3 a0_4 a0_5 a0_6 _ _ l0_7 true _ ?side1 ?side2 A8.out).mono ?_); (case side1 => repeat (first | exact (Kd.C_below HR0_7.out (by repeat (first | (with_reducible first | exact HB.out | apply ba_ | apply bd_ | apply be_ | refine bs_ ?_ GE121.out) | exact HB.out))) | (with_reducible refine Kd.C_alloc ?_ _) | (with_reducible refine Kd.C_drewN ?_ _) | (with_reducible refine Kd.C_drew ?_))); (case side2 => exact HC0_7.out); rintro e w12 ⟨rfl, hb⟩; have n0_ := A_.mk (bb_ (bY BK121.out) hb); have n1_ := A_.mk (bt_ (by repeat (first | (with_reducible first | exact HB.out | apply ba_ | apply bd_ | apply be_ | refine bs_ ?_ GE121.out) | exact HB.out)) hb); clear BK121 HB; have BK121 := n0_; have HB := n1_; clear n0_ n1_; (try clear hb); (try clear hb2); (try clear hk); (try clear hi); have hcz13_0 : w12.cell? ⟨gb121, 0, none⟩ = some (.int .i64 a0_0) := (bc_ BK121.out 0).trans rfl; have hcz13_1 : w12.cell? ⟨gb121, 1, none⟩ = some (.int .i64 a0_1) := (bc_ BK121.out 1).trans rfl; have hcz13_2 : w12.cell? ⟨gb121, 2, none⟩ = some (.int .i64 a0_2) := (bc_ BK121.out 2).trans rfl; have hcz13_3 : w12.cell? ⟨gb121, 3, none⟩ = some (.int .i64 a0_3) := (bc_ BK121.out 3).trans rfl; have hcz13_4 : w12.cell? ⟨gb121, 4, none⟩ = some (.int .i64 a0_4) := (bc_ BK121.out 4).trans rfl; have hcz13_5 : w12.cell? ⟨gb121, 5, none⟩ = some (.int .i64 a0_5) := (bc_ BK121.out 5).trans rfl; have hcz13_6 : w12.cell? ⟨gb121, 6, none⟩ = some (.int .i64 a0_6) := (bc_ BK121.out 6).trans rfl; have hcz13_7 : w12.cell? ⟨gb121, 7, none⟩ = some (.slice A0_7 l0_7.length c0_7) := (bc_ BK121.out 7).trans rfl; have hfz13_0 := bf_ BK121.out 0; have hfz13_1 := bf_ BK121.out 1; have hfz13_2 := bf_ BK121.out 2; have hfz13_3 := bf_ BK121.out 3; have hfz13_4 := bf_ BK121.out 4; have hfz13_5 := bf_ BK121.out 5; have hfz13_6 := bf_ BK121.out 6; have hfz13_7 := bf_ BK121.out 7) | (go_at_call 88; (with_reducible refine (impl_Packet_lengthOk.calls a0_0 a0_1 a0_2 a0_3 a0_4 a0_5 a0_6 _ _ l0_7 t125 _ ?side1 ?side2 A10.out).mono ?_); (case side1 => exact cY ((Kd.C_below HR0_7.out HB.out))); (case side2 => exact HC0_7.out); rintro e w14 ⟨rfl, hb⟩; have n0_ := A_.mk (bb_ (bY BK121.out) hb); have n1_ := A_.mk (bt_ (by repeat (first | (with_reducible first | exact HB.out | apply ba_ | apply bd_ | apply be_ | refine bs_ ?_ GE121.out) | exact HB.out)) hb); clear BK121 HB; have BK121 := n0_; have HB := n1_; clear n0_ n1_; (try clear hb); (try clear hb2); (try clear hk); (try clear hi)))
  go_meet
  case rel => exact ⟨_, (!t125), (by first | rfl | (simp; done) | (simp [*]; done)), H', ⟨by first | omega | exact Nat.le_refl _⟩, ⟨by (repeat apply bX); exact BK121.out⟩, ⟨by repeat (first | (with_reducible first | exact HB.out | apply ba_ | apply bd_ | apply be_ | refine bs_ ?_ GE121.out) | exact HB.out)⟩⟩
 case rest =>
  clear HC2
  obtain ⟨kq, x24_1, rfl, HA, HJ1, BK121, HB⟩ := hcut
  cases kq with
  | zero => exact absurd HA.out (by simp [impl_IsPacket.j0])
  | succ kj1 =>
   have H := HA.out
   clear HA
   simp only [impl_IsPacket.j0] at H
   by_cases c19 : x24_1 = true
   ·subst c19
    have H1 : (some false) = some r := by rw [if_pos rfl] at H; exact H
    clear H
    have H := H1
    clear H1
    obtain rfl := Option.some.inj H
    go_wp2
    go_ret
    exact ⟨by first | rfl | (simp [errW_none, errW_some] <;> rfl) | (simp [*, errW_none, errW_some] <;> rfl), by repeat (first | (with_reducible first | exact HB.out | apply ba_ | apply bd_ | apply be_ | refine bs_ ?_ GE121.out) | exact HB.out)⟩
   replace c19 := Bool.eq_false_iff.mpr c19
   subst c19
   have H1 : ((impl_within.f a0_0 4 6).bind fun t126 => (if t126 = true then ((impl_IsId.f a0_2).bind fun t127 => (if t127 = true then (impl_IsPacket.j1 kj1 false a0_0 a0_1 a0_2 a0_3 a0_4 a0_5 a0_6 l0_7) else (impl_IsPacket.j1 kj1 true a0_0 a0_1 a0_2 a0_3 a0_4 a0_5 a0_6 l0_7))) else (impl_IsPacket.j1 kj1 (a0_2 != 0) a0_0 a0_1 a0_2 a0_3 a0_4 a0_5 a0_6 l0_7))) = some r := by rw [if_neg (show ¬ (false = true) by decide)] at H; exact H
   clear H
   have H := H1
   clear H1
   replace H := ob_ H
   obtain ⟨t126, A200, H⟩ := H
   have A20 := A_.mk A200
   clear A200
   have HC21 := A_.mk H
   clear H
   obtain ⟨hcz22_0, hcz22_1, hcz22_2, hcz22_3, hcz22_4, hcz22_5, hcz22_6, hcz22_7, hfz22_0, hfz22_1, hfz22_2, hfz22_3, hfz22_4, hfz22_5, hfz22_6, hfz22_7⟩ := b8 BK121.out
   go_upto_region 4 with (first | ((with_reducible refine gc_ (f := 55) rfl ?_); refine gl_ (some 27) Try.func55 #[.int .i64 a0_0, .int .i64 4, .int .i64 6] ?_; (with_reducible refine (impl_within.calls a0_0 4 6 t126 _ A20.out).mono ?_); rintro e w' ⟨rfl, ⟨nd, rfl⟩⟩; refine ⟨_, rfl, ?_⟩))
   (try simp only [Act.put, List.setIfInBounds_toArray, List.set_cons_zero, List.set_cons_succ])
   go_cut [43] (fun v43 wc => ∃ (kq : Nat) (x43_20 : Bool), v43 = .bool x43_20 ∧ A_ (impl_IsPacket.j1 kq x43_20 a0_0 a0_1 a0_2 a0_3 a0_4 a0_5 a0_6 l0_7 = some r) ∧ A_ (kq ≤ kj1) ∧ A_ (wc.heap[gb121]? = some (.cells #[.int .i64 a0_0, .int .i64 a0_1, .int .i64 a0_2, .int .i64 a0_3, .int .i64 a0_4, .int .i64 a0_5, .int .i64 a0_6, (.slice A0_7 l0_7.length c0_7)] 60 (0, 0))) ∧ A_ (Below w.heap.size w wc))
   case first =>
    have H := HC21.out
    clear HC21
    by_cases c23 : t126 = true
    rotate_left
    ·replace c23 := Bool.eq_false_iff.mpr c23
     subst c23
     have H1 : (impl_IsPacket.j1 kj1 (a0_2 != 0) a0_0 a0_1 a0_2 a0_3 a0_4 a0_5 a0_6 l0_7) = some r := by rw [if_neg (show ¬ (false = true) by decide)] at H; exact H
     clear H
     have H := H1
     clear H1
     have H' := A_.mk H
     clear H
     obtain ⟨hcz28_0, hcz28_1, hcz28_2, hcz28_3, hcz28_4, hcz28_5, hcz28_6, hcz28_7, hfz28_0, hfz28_1, hfz28_2, hfz28_3, hfz28_4, hfz28_5, hfz28_6, hfz28_7⟩ := b8 BK121.out
     go_wp2
     go_meet
     case rel => exact ⟨_, ((a0_2 != 0)), (by first | rfl | (simp; done) | (simp [*]; done)), H', ⟨by have := HJ1.out; first | omega | exact Nat.le_refl _⟩, ⟨by (repeat apply bX); exact BK121.out⟩, ⟨by repeat (first | (with_reducible first | exact HB.out | apply ba_ | apply bd_ | apply be_ | refine bs_ ?_ GE121.out) | exact HB.out)⟩⟩
    subst c23
    have H1 : ((impl_IsId.f a0_2).bind fun t127 => (if t127 = true then (impl_IsPacket.j1 kj1 false a0_0 a0_1 a0_2 a0_3 a0_4 a0_5 a0_6 l0_7) else (impl_IsPacket.j1 kj1 true a0_0 a0_1 a0_2 a0_3 a0_4 a0_5 a0_6 l0_7))) = some r := by rw [if_pos rfl] at H; exact H
    clear H
    have H := H1
    clear H1
    replace H := ob_ H
    obtain ⟨t127, A240, H⟩ := H
    have A24 := A_.mk A240
    clear A240
    by_cases c25 : t127 = true
    ·subst c25
     have H1 : (impl_IsPacket.j1 kj1 false a0_0 a0_1 a0_2 a0_3 a0_4 a0_5 a0_6 l0_7) = some r := by rw [if_pos rfl] at H; exact H
     clear H
     have H := H1
     clear H1
     have H' := A_.mk H
     clear H
     obtain ⟨hcz26_0, hcz26_1, hcz26_2, hcz26_3, hcz26_4, hcz26_5, hcz26_6, hcz26_7, hfz26_0, hfz26_1, hfz26_2, hfz26_3, hfz26_4, hfz26_5, hfz26_6, hfz26_7⟩ := b8 BK121.out
     go_wp2_with (first | (go_at_call 86; (with_reducible refine (impl_IsId.calls a0_2 true _ A24.out).mono ?_); rintro e w' ⟨rfl, ⟨nd, rfl⟩⟩))
     go_meet
     case rel => exact ⟨_, (false), (by first | rfl | (simp; done) | (simp [*]; done)), H', ⟨by have := HJ1.out; first | omega | exact Nat.le_refl _⟩, ⟨by (repeat apply bX); exact BK121.out⟩, ⟨by repeat (first | (with_reducible first | exact HB.out | apply ba_ | apply bd_ | apply be_ | refine bs_ ?_ GE121.out) | exact HB.out)⟩⟩
    replace c25 := Bool.eq_false_iff.mpr c25
    subst c25
    have H1 : (impl_IsPacket.j1 kj1 true a0_0 a0_1 a0_2 a0_3 a0_4 a0_5 a0_6 l0_7) = some r := by rw [if_neg (show ¬ (false = true) by decide)] at H; exact H
    clear H
    have H := H1
    clear H1
    have H' := A_.mk H
    clear H
    obtain ⟨hcz27_0, hcz27_1, hcz27_2, hcz27_3, hcz27_4, hcz27_5, hcz27_6, hcz27_7, hfz27_0, hfz27_1, hfz27_2, hfz27_3, hfz27_4, hfz27_5, hfz27_6, hfz27_7⟩ := b8 BK121.out
    go_wp2_with (first | (go_at_call 86; (with_reducible refine (impl_IsId.calls a0_2 false _ A24.out).mono ?_); rintro e w' ⟨rfl, ⟨nd, rfl⟩⟩))
    go_meet
    case rel => exact ⟨_, (true), (by first | rfl | (simp; done) | (simp [*]; done)), H', ⟨by have := HJ1.out; first | omega | exact Nat.le_refl _⟩, ⟨by (repeat apply bX); exact BK121.out⟩, ⟨by repeat (first | (with_reducible first | exact HB.out | apply ba_ | apply bd_ | apply be_ | refine bs_ ?_ GE121.out) | exact HB.out)⟩⟩
   case rest =>
    clear HC21
    obtain ⟨kq, x43_20, rfl, HA, HJ20, BK121, HB⟩ := hcut
    cases kq with
    | zero => exact absurd HA.out (by simp [impl_IsPacket.j1])
    | succ kj20 =>
     have H := HA.out
     clear HA
     simp only [impl_IsPacket.j1] at H
     by_cases c29 : x43_20 = true
     ·subst c29
      have H1 : (some false) = some r := by rw [if_pos rfl] at H; exact H
      clear H
      have H := H1
      clear H1
      obtain rfl := Option.some.inj H
      go_wp2
      go_ret
      exact ⟨by first | rfl | (simp [errW_none, errW_some] <;> rfl) | (simp [*, errW_none, errW_some] <;> rfl), by repeat (first | (with_reducible first | exact HB.out | apply ba_ | apply bd_ | apply be_ | refine bs_ ?_ GE121.out) | exact HB.out)⟩
     replace c29 := Bool.eq_false_iff.mpr c29
     subst c29
     have H1 : ((impl_within.f a0_0 3 6).bind fun t128 => (if t128 = true then ((impl_within.f a0_5 0 7).bind fun t129 => (if t129 = true then (impl_IsPacket.j2 kj20 false a0_0 a0_1 a0_2 a0_3 a0_4 a0_5 a0_6 l0_7) else (impl_IsPacket.j2 kj20 true a0_0 a0_1 a0_2 a0_3 a0_4 a0_5 a0_6 l0_7))) else (impl_IsPacket.j2 kj20 (a0_5 != 0) a0_0 a0_1 a0_2 a0_3 a0_4 a0_5 a0_6 l0_7))) = some r := by rw [if_neg (show ¬ (false = true) by decide)] at H; exact H
     clear H
     have H := H1
     clear H1
     replace H := ob_ H
     obtain ⟨t128, A300, H⟩ := H
     have A30 := A_.mk A300
     clear A300
     have HC31 := A_.mk H
     clear H
     obtain ⟨hcz32_0, hcz32_1, hcz32_2, hcz32_3, hcz32_4, hcz32_5, hcz32_6, hcz32_7, hfz32_0, hfz32_1, hfz32_2, hfz32_3, hfz32_4, hfz32_5, hfz32_6, hfz32_7⟩ := b8 BK121.out
     go_upto_region 7 with (first | ((with_reducible refine gc_ (f := 55) rfl ?_); refine gl_ (some 46) Try.func55 #[.int .i64 a0_0, .int .i64 3, .int .i64 6] ?_; (with_reducible refine (impl_within.calls a0_0 3 6 t128 _ A30.out).mono ?_); rintro e w' ⟨rfl, ⟨nd, rfl⟩⟩; refine ⟨_, rfl, ?_⟩))
     (try simp only [Act.put, List.setIfInBounds_toArray, List.set_cons_zero, List.set_cons_succ])
     go_cut [62] (fun v62 wc => ∃ (kq : Nat) (x62_30 : Bool), v62 = .bool x62_30 ∧ A_ (impl_IsPacket.j2 kq x62_30 a0_0 a0_1 a0_2 a0_3 a0_4 a0_5 a0_6 l0_7 = some r) ∧ A_ (kq ≤ kj20) ∧ A_ (wc.heap[gb121]? = some (.cells #[.int .i64 a0_0, .int .i64 a0_1, .int .i64 a0_2, .int .i64 a0_3, .int .i64 a0_4, .int .i64 a0_5, .int .i64 a0_6, (.slice A0_7 l0_7.length c0_7)] 60 (0, 0))) ∧ A_ (Below w.heap.size w wc))
     case first =>
      have H := HC31.out
      clear HC31
      by_cases c33 : t128 = true
      rotate_left
      ·replace c33 := Bool.eq_false_iff.mpr c33
       subst c33
       have H1 : (impl_IsPacket.j2 kj20 (a0_5 != 0) a0_0 a0_1 a0_2 a0_3 a0_4 a0_5 a0_6 l0_7) = some r := by rw [if_neg (show ¬ (false = true) by decide)] at H; exact H
       clear H
       have H := H1
       clear H1
       have H' := A_.mk H
       clear H
       obtain ⟨hcz38_0, hcz38_1, hcz38_2, hcz38_3, hcz38_4, hcz38_5, hcz38_6, hcz38_7, hfz38_0, hfz38_1, hfz38_2, hfz38_3, hfz38_4, hfz38_5, hfz38_6, hfz38_7⟩ := b8 BK121.out
       go_wp2
       go_meet
       case rel => exact ⟨_, ((a0_5 != 0)), (by first | rfl | (simp; done) | (simp [*]; done)), H', ⟨by have := HJ1.out; have := HJ20.out; first | omega | exact Nat.le_refl _⟩, ⟨by (repeat apply bX); exact BK121.out⟩, ⟨by repeat (first | (with_reducible first | exact HB.out | apply ba_ | apply bd_ | apply be_ | refine bs_ ?_ GE121.out) | exact HB.out)⟩⟩
      subst c33
      have H1 : ((impl_within.f a0_5 0 7).bind fun t129 => (if t129 = true then (impl_IsPacket.j2 kj20 false a0_0 a0_1 a0_2 a0_3 a0_4 a0_5 a0_6 l0_7) else (impl_IsPacket.j2 kj20 true a0_0 a0_1 a0_2 a0_3 a0_4 a0_5 a0_6 l0_7))) = some r := by rw [if_pos rfl] at H; exact H
      clear H
      have H := H1
      clear H1
      replace H := ob_ H
      obtain ⟨t129, A340, H⟩ := H
      have A34 := A_.mk A340
      clear A340
      by_cases c35 : t129 = true
      ·subst c35
       have H1 : (impl_IsPacket.j2 kj20 false a0_0 a0_1 a0_2 a0_3 a0_4 a0_5 a0_6 l0_7) = some r := by rw [if_pos rfl] at H; exact H
       clear H
       have H := H1
       clear H1
       have H' := A_.mk H
       clear H
       obtain ⟨hcz36_0, hcz36_1, hcz36_2, hcz36_3, hcz36_4, hcz36_5, hcz36_6, hcz36_7, hfz36_0, hfz36_1, hfz36_2, hfz36_3, hfz36_4, hfz36_5, hfz36_6, hfz36_7⟩ := b8 BK121.out
       go_wp2_with (first | (go_at_call 55; (with_reducible refine (impl_within.calls a0_5 0 7 true _ A34.out).mono ?_); rintro e w' ⟨rfl, ⟨nd, rfl⟩⟩))
       go_meet
       case rel => exact ⟨_, (false), (by first | rfl | (simp; done) | (simp [*]; done)), H', ⟨by have := HJ1.out; have := HJ20.out; first | omega | exact Nat.le_refl _⟩, ⟨by (repeat apply bX); exact BK121.out⟩, ⟨by repeat (first | (with_reducible first | exact HB.out | apply ba_ | apply bd_ | apply be_ | refine bs_ ?_ GE121.out) | exact HB.out)⟩⟩
      replace c35 := Bool.eq_false_iff.mpr c35
      subst c35
      have H1 : (impl_IsPacket.j2 kj20 true a0_0 a0_1 a0_2 a0_3 a0_4 a0_5 a0_6 l0_7) = some r := by rw [if_neg (show ¬ (false = true) by decide)] at H; exact H
      clear H
      have H := H1
      clear H1
      have H' := A_.mk H
      clear H
      obtain ⟨hcz37_0, hcz37_1, hcz37_2, hcz37_3, hcz37_4, hcz37_5, hcz37_6, hcz37_7, hfz37_0, hfz37_1, hfz37_2, hfz37_3, hfz37_4, hfz37_5, hfz37_6, hfz37_7⟩ := b8 BK121.out
      go_wp2_with (first | (go_at_call 55; (with_reducible refine (impl_within.calls a0_5 0 7 false _ A34.out).mono ?_); rintro e w' ⟨rfl, ⟨nd, rfl⟩⟩))
      go_meet
      case rel => exact ⟨_, (true), (by first | rfl | (simp; done) | (simp [*]; done)), H', ⟨by have := HJ1.out; have := HJ20.out; first | omega | exact Nat.le_refl _⟩, ⟨by (repeat apply bX); exact BK121.out⟩, ⟨by repeat (first | (with_reducible first | exact HB.out | apply ba_ | apply bd_ | apply be_ | refine bs_ ?_ GE121.out) | exact HB.out)⟩⟩
     case rest =>
      clear HC31
      obtain ⟨kq, x62_30, rfl, HA, HJ30, BK121, HB⟩ := hcut
      cases kq with
      | zero => exact absurd HA.out (by simp [impl_IsPacket.j2])
      | succ kj30 =>
       have H := HA.out
       clear HA
       simp only [impl_IsPacket.j2] at H
       by_cases c39 : x62_30 = true
       ·subst c39
        have H1 : (some false) = some r := by rw [if_pos rfl] at H; exact H
        clear H
        have H := H1
        clear H1
        obtain rfl := Option.some.inj H
        go_wp2
        go_ret
        exact ⟨by first | rfl | (simp [errW_none, errW_some] <;> rfl) | (simp [*, errW_none, errW_some] <;> rfl), by repeat (first | (with_reducible first | exact HB.out | apply ba_ | apply bd_ | apply be_ | refine bs_ ?_ GE121.out) | exact HB.out)⟩
       replace c39 := Bool.eq_false_iff.mpr c39
       subst c39
       have H1 : (if a0_0 = 6 then ((impl_within.f a0_6 0 2).bind fun t130 => (if t130 = true then ((impl_Packet_dataOk.f kj30 a0_0 a0_1 a0_2 a0_3 a0_4 a0_5 a0_6 l0_7).bind fun t131 => (some t131)) else (some false))) else (if a0_6 = 0 then ((impl_Packet_dataOk.f kj30 a0_0 a0_1 a0_2 a0_3 a0_4 a0_5 a0_6 l0_7).bind fun t132 => (some t132)) else (some false))) = some r := by rw [if_neg (show ¬ (false = true) by decide)] at H; exact H
       clear H
       have H := H1
       clear H1
       by_cases c40 : a0_0 = 6
       rotate_left
       ·rw [if_neg c40] at H
        have c40b0 : (a0_0 == 6) = false := beq_eq_false_iff_ne.mpr c40
        have c40b1 : (a0_0 != 6) = true := bne_iff_ne.mpr c40
        by_cases c47 : a0_6 = 0
        rotate_left
        ·rw [if_neg c47] at H
         have c47b0 : (a0_6 == 0) = false := beq_eq_false_iff_ne.mpr c47
         have c47b1 : (a0_6 != 0) = true := bne_iff_ne.mpr c47
         obtain rfl := Option.some.inj H
         obtain ⟨hcz51_0, hcz51_1, hcz51_2, hcz51_3, hcz51_4, hcz51_5, hcz51_6, hcz51_7, hfz51_0, hfz51_1, hfz51_2, hfz51_3, hfz51_4, hfz51_5, hfz51_6, hfz51_7⟩ := b8 BK121.out
         go_wp2
         go_ret
         exact ⟨by first | rfl | (simp [errW_none, errW_some] <;> rfl) | (simp [*, errW_none, errW_some] <;> rfl), by repeat (first | (with_reducible first | exact HB.out | apply ba_ | apply bd_ | apply be_ | refine bs_ ?_ GE121.out) | exact HB.out)⟩
        rw [if_pos c47] at H
        have c47b0 : (a0_6 == 0) = true := beq_iff_eq.mpr c47
        have c47b1 : (a0_6 != 0) = false := bne_eq_false_iff_eq.mpr c47
        clear c47
        replace H := ob_ H
        obtain ⟨t132, A480, H⟩ := H
        have A48 := A_.mk A480
        clear A480
        obtain rfl := Option.some.inj H
        obtain ⟨hcz49_0, hcz49_1, hcz49_2, hcz49_3, hcz49_4, hcz49_5, hcz49_6, hcz49_7, hfz49_0, hfz49_1, hfz49_2, hfz49_3, hfz49_4, hfz49_5, hfz49_6, hfz49_7⟩ := b8 BK121.out
        go_wp2_with (first | ((with_reducible refine gc_ (f := 89) rfl ?_); refine gl_ (some 83) Try.func89 #[.agg #[.int .i64 a0_0, .int .i64 a0_1, .int .i64 a0_2, .int .i64 a0_3, .int .i64 a0_4, .int .i64 a0_5, .int .i64 a0_6, .slice A0_7 l0_7.length c0_7]] ?_; (with_reducible refine (impl_Packet_dataOk.calls kj30 a0_0 a0_1 a0_2 a0_3 a0_4 a0_5 a0_6 _ _ l0_7 t132 _ ?side1 ?side2 A48.out).mono ?_); (case side1 => exact cY ((Kd.C_below HR0_7.out HB.out))); (case side2 => exact HC0_7.out); rintro e w50 ⟨rfl, hb⟩; refine ⟨_, rfl, ?_⟩; have n0_ := A_.mk (bb_ (bY BK121.out) hb); have n1_ := A_.mk (bt_ (by repeat (first | (with_reducible first | exact HB.out | apply ba_ | apply bd_ | apply be_ | refine bs_ ?_ GE121.out) | exact HB.out)) hb); clear BK121 HB; have BK121 := n0_; have HB := n1_; clear n0_ n1_; (try clear hb); (try clear hb2); (try clear hk); (try clear hi)))
        go_ret
        exact ⟨by first | rfl | (simp [errW_none, errW_some] <;> rfl) | (simp [*, errW_none, errW_some] <;> rfl), by repeat (first | (with_reducible first | exact HB.out | apply ba_ | apply bd_ | apply be_ | refine bs_ ?_ GE121.out) | exact HB.out)⟩
       rw [if_pos c40] at H
       have c40b0 : (a0_0 == 6) = true := beq_iff_eq.mpr c40
       have c40b1 : (a0_0 != 6) = false := bne_eq_false_iff_eq.mpr c40
       clear c40
       replace H := ob_ H
       obtain ⟨t130, A410, H⟩ := H
       have A41 := A_.mk A410
       clear A410
       by_cases c42 : t130 = true
       rotate_left
       ·replace c42 := Bool.eq_false_iff.mpr c42
        subst c42
        have H1 : (some false) = some r := by rw [if_neg (show ¬ (false = true) by decide)] at H; exact H
        clear H
        have H := H1
        clear H1
        obtain rfl := Option.some.inj H
        obtain ⟨hcz46_0, hcz46_1, hcz46_2, hcz46_3, hcz46_4, hcz46_5, hcz46_6, hcz46_7, hfz46_0, hfz46_1, hfz46_2, hfz46_3, hfz46_4, hfz46_5, hfz46_6, hfz46_7⟩ := b8 BK121.out
        go_wp2_with (first | (go_at_call 55; (with_reducible refine (impl_within.calls a0_6 0 2 false _ A41.out).mono ?_); rintro e w' ⟨rfl, ⟨nd, rfl⟩⟩))
        go_ret
        exact ⟨by first | rfl | (simp [errW_none, errW_some] <;> rfl) | (simp [*, errW_none, errW_some] <;> rfl), by repeat (first | (with_reducible first | exact HB.out | apply ba_ | apply bd_ | apply be_ | refine bs_ ?_ GE121.out) | exact HB.out)⟩
       subst c42
       have H1 : ((impl_Packet_dataOk.f kj30 a0_0 a0_1 a0_2 a0_3 a0_4 a0_5 a0_6 l0_7).bind fun t131 => (some t131)) = some r := by rw [if_pos rfl] at H; exact H
       clear H
       have H := H1
       clear H1
       replace H := ob_ H
       obtain ⟨t131, A430, H⟩ := H
       have A43 := A_.mk A430
       clear A430
       obtain rfl := Option.some.inj H
       obtain ⟨hcz44_0, hcz44_1, hcz44_2, hcz44_3, hcz44_4, hcz44_5, hcz44_6, hcz44_7, hfz44_0, hfz44_1, hfz44_2, hfz44_3, hfz44_4, hfz44_5, hfz44_6, hfz44_7⟩ := b8 BK121.out
       go_wp2_with (first | (go_at_call 55; (with_reducible refine (impl_within.calls a0_6 0 2 true _ A41.out).mono ?_); rintro e w' ⟨rfl, ⟨nd, rfl⟩⟩) | ((with_reducible refine gc_ (f := 89) rfl ?_); refine gl_ (some 83) Try.func89 #[.agg #[.int .i64 a0_0, .int .i64 a0_1, .int .i64 a0_2, .int .i64 a0_3, .int .i64 a0_4, .int .i64 a0_5, .int .i64 a0_6, .slice A0_7 l0_7.length c0_7]] ?_; (with_reducible refine (impl_Packet_dataOk.calls kj30 a0_0 a0_1 a0_2 a0_3 a0_4 a0_5 a0_6 _ _ l0_7 t131 _ ?side1 ?side2 A43.out).mono ?_); (case side1 => repeat (first | exact (Kd.C_below HR0_7.out (by repeat (first | (with_reducible first | exact HB.out | apply ba_ | apply bd_ | apply be_ | refine bs_ ?_ GE121.out) | exact HB.out))) | (with_reducible refine Kd.C_alloc ?_ _) | (with_reducible refine Kd.C_drewN ?_ _) | (with_reducible refine Kd.C_drew ?_))); (case side2 => exact HC0_7.out); rintro e w45 ⟨rfl, hb⟩; refine ⟨_, rfl, ?_⟩; have n0_ := A_.mk (bb_ (bY BK121.out) hb); have n1_ := A_.mk (bt_ (by repeat (first | (with_reducible first | exact HB.out | apply ba_ | apply bd_ | apply be_ | refine bs_ ?_ GE121.out) | exact HB.out)) hb); clear BK121 HB; have BK121 := n0_; have HB := n1_; clear n0_ n1_; (try clear hb); (try clear hb2); (try clear hk); (try clear hi)))
       go_ret
       exact ⟨by first | rfl | (simp [errW_none, errW_some] <;> rfl) | (simp [*, errW_none, errW_some] <;> rfl), by repeat (first | (with_reducible first | exact HB.out | apply ba_ | apply bd_ | apply be_ | refine bs_ ?_ GE121.out) | exact HB.out)⟩
end Go.Proofs.Ytbdehpmfemgooaa.PFnQueues
