-- Written by a program of this session (wip/xp): not trusted, Lean checks it.
import Derived.Test.YtlombfmebinjbaaPFnExactFreePacketx0
import Derived.Test.YtlombfmebinjbaaPFnExactFreePacketx1
import Derived.Test.YtlombfmebinjbaaPFnExactFreePacketx19
import Derived.Test.YtlombfmebinjbaaPFnExactFreePacketx20
namespace Go.Proofs.Ytlombfmebinjbaa.PFnExactFreePacket
open Go.RowKit Go.Proofs.YtlombfmebinjbaaW.PrintWords Go.Proofs.YtlombfmebinjbaaW.PrintLast Go.Proofs.YtlombfmebinjbaaW.PrintMore
attribute [local go_sem] max2_int min2_int max_two min_two max_three min_three max_four min_four   -- for this text's walks alone
set_option linter.unusedVariables false
set_option linter.unusedSimpArgs false

/-! ### laws_heldChannel: function 18, its calls in a row -/
def laws_heldChannel.f (k : Nat) (l0_0 : List Int) (l0_1 : List Int) (l0_2 : List Int) (l0_3 : List Int) (l0_4 : List (S38)) (l0_5 : List (S38)) (a1 : Int) : Option ((Int)) := ((laws_heldCredits.f k l0_0 l0_1 a1).bind fun t1 => (if t1 < 0 then (some (-1)) else ((laws_heldCredits.f k l0_2 l0_3 t1).bind fun t2 => (if t2 < 0 then (some (-1)) else ((laws_heldPacketS.f k l0_4 t2).bind fun t3 => (if t3 < 0 then (some (-1)) else ((laws_heldPacketS.f k l0_5 t3).bind fun t4 => (if t4 < 0 then (some (-1)) else (some (t4))))))))))
set_option maxHeartbeats 8000000 in
set_option maxRecDepth 100000 in
theorem laws_heldChannel.calls (k : Nat) (A0_0 : Option Addr) (c0_0 : Nat) (l0_0 : List Int) (A0_1 : Option Addr) (c0_1 : Nat) (l0_1 : List Int) (A0_2 : Option Addr) (c0_2 : Nat) (l0_2 : List Int) (A0_3 : Option Addr) (c0_3 : Nat) (l0_3 : List Int) (A0_4 : Option Addr) (c0_4 : Nat) (l0_4 : List (S38)) (A0_5 : Option Addr) (c0_5 : Nat) (l0_5 : List (S38)) (a1 : Int) (r : Int) (w : World) (hr0_0 : Kd.C (Kd.int .i64) w A0_0 l0_0.length l0_0) (hc0_0 : l0_0.length ≤ c0_0) (hr0_1 : Kd.C (Kd.int .i64) w A0_1 l0_1.length l0_1) (hc0_1 : l0_1.length ≤ c0_1) (hr0_2 : Kd.C (Kd.int .i64) w A0_2 l0_2.length l0_2) (hc0_2 : l0_2.length ≤ c0_2) (hr0_3 : Kd.C (Kd.int .i64) w A0_3 l0_3.length l0_3) (hc0_3 : l0_3.length ≤ c0_3) (hr0_4 : Kd.C k38 w A0_4 l0_4.length l0_4) (hc0_4 : l0_4.length ≤ c0_4) (hr0_5 : Kd.C k38 w A0_5 l0_5.length l0_5) (hc0_5 : l0_5.length ≤ c0_5) (h : laws_heldChannel.f k l0_0 l0_1 l0_2 l0_3 l0_4 l0_5 a1 = some r) :
  Calls Try.prog 18 #[.agg #[.slice A0_0 l0_0.length c0_0, .slice A0_1 l0_1.length c0_1, .slice A0_2 l0_2.length c0_2, .slice A0_3 l0_3.length c0_3, .slice A0_4 l0_4.length c0_4, .slice A0_5 l0_5.length c0_5], .int .i64 a1] w fun e w' => e = .returned (.int .i64 r) ∧ Below w.heap.size w w' := by
 have HR0_0 := A_.mk hr0_0
 have HC0_0 := A_.mk hc0_0
 clear hr0_0 hc0_0
 have HR0_1 := A_.mk hr0_1
 have HC0_1 := A_.mk hc0_1
 clear hr0_1 hc0_1
 have HR0_2 := A_.mk hr0_2
 have HC0_2 := A_.mk hc0_2
 clear hr0_2 hc0_2
 have HR0_3 := A_.mk hr0_3
 have HC0_3 := A_.mk hc0_3
 clear hr0_3 hc0_3
 have HR0_4 := A_.mk hr0_4
 have HC0_4 := A_.mk hc0_4
 clear hr0_4 hc0_4
 have HR0_5 := A_.mk hr0_5
 have HC0_5 := A_.mk hc0_5
 clear hr0_5 hc0_5
 have HB := A_.mk (Below.refl w.heap.size w)
 unfold laws_heldChannel.f at h
 have H := h
 clear h
 replace H := ob_ H
 obtain ⟨t1, A2_0, H⟩ := H
 have A2 := A_.mk A2_0
 clear A2_0
 replace H := A_.mk H
 have hu33 := Try.underlying33
 go_enter Try.func18, Try.ntmps18
 have HS := A_.mk (Nat.le_refl w.heap.size)
 go_wp2_with (first | ((with_reducible refine gd_ (N := 2) rfl ?_); refine by_ 2 (cs := #[.slice A0_0 l0_0.length c0_0, .slice A0_1 l0_1.length c0_1, .slice A0_2 l0_2.length c0_2, .slice A0_3 l0_3.length c0_3, .slice A0_4 l0_4.length c0_4, .slice A0_5 l0_5.length c0_5]) (t := 33) ?_; intro gb1_ hg w1_ hbox hb; replace HS := A_.mk (And.intro HS.out (show gb1_ = w.heap.size ∧ gb1_ < w1_.heap.size from ⟨hg, blk_lt hbox⟩)); replace HB := aHB HB hb; have BK1 := A_.mk hbox; clear hbox hb hg; obtain ⟨q1_0, q1_1, q1_2, q1_3, q1_4, q1_5⟩ := blk6_ BK1.out))
 (with_reducible refine (laws_heldCredits.calls k _ _ l0_0 _ _ l0_1 a1 t1 _ (Kd.C_below HR0_0.out HB.out) HC0_0.out (Kd.C_below HR0_1.out HB.out) HC0_1.out A2.out).mono ?_)
 rintro e w2_ ⟨rfl, hb⟩
 replace HS := aHs HS hb.size
 replace BK1 := aBb BK1 hb
 replace HB := aHB HB hb
 clear hb  q1_0 q1_1 q1_2 q1_3 q1_4 q1_5
 obtain ⟨q1_0, q1_1, q1_2, q1_3, q1_4, q1_5⟩ := blk6_ BK1.out
 replace H := H.out
 by_cases hc1_ : t1 < 0
 case pos =>
  rw [if_pos hc1_] at H
  have hc1_b0 : decide (t1 < 0) = true := decide_eq_true hc1_
  replace H := Option.some.inj H
  subst H
  go_wp2
  go_ret
  exact ⟨rfl, HB.out⟩
 case neg =>
  rw [if_neg hc1_] at H
  have hc1_b0 : decide (t1 < 0) = false := decide_eq_false hc1_
  replace H := ob_ H
  obtain ⟨t2, A3_0, H⟩ := H
  have A3 := A_.mk A3_0
  clear A3_0
  replace H := A_.mk H
  go_wp2_with (fail)
  (with_reducible refine (laws_heldCredits.calls k _ _ l0_2 _ _ l0_3 t1 t2 _ (Kd.C_below HR0_2.out HB.out) HC0_2.out (Kd.C_below HR0_3.out HB.out) HC0_3.out A3.out).mono ?_)
  rintro e w3_ ⟨rfl, hb⟩
  replace HS := aHs HS hb.size
  replace BK1 := aBb BK1 hb
  replace HB := aHB HB hb
  clear hb  q1_0 q1_1 q1_2 q1_3 q1_4 q1_5
  obtain ⟨q1_0, q1_1, q1_2, q1_3, q1_4, q1_5⟩ := blk6_ BK1.out
  replace H := H.out
  by_cases hc2_ : t2 < 0
  case pos =>
   rw [if_pos hc2_] at H
   have hc2_b0 : decide (t2 < 0) = true := decide_eq_true hc2_
   replace H := Option.some.inj H
   subst H
   go_wp2
   go_ret
   exact ⟨rfl, HB.out⟩
  case neg =>
   rw [if_neg hc2_] at H
   have hc2_b0 : decide (t2 < 0) = false := decide_eq_false hc2_
   replace H := ob_ H
   obtain ⟨t3, A4_0, H⟩ := H
   have A4 := A_.mk A4_0
   clear A4_0
   replace H := A_.mk H
   go_wp2_with (fail)
   (with_reducible refine (laws_heldPacketS.calls k _ _ l0_4 t2 t3 _ (Kd.C_below HR0_4.out HB.out) HC0_4.out A4.out).mono ?_)
   rintro e w4_ ⟨rfl, hb⟩
   replace hb := Drawn0.below hb
   replace HS := aHs HS hb.size
   replace BK1 := aBb BK1 hb
   replace HB := aHB HB hb
   clear hb  q1_0 q1_1 q1_2 q1_3 q1_4 q1_5
   obtain ⟨q1_0, q1_1, q1_2, q1_3, q1_4, q1_5⟩ := blk6_ BK1.out
   replace H := H.out
   by_cases hc3_ : t3 < 0
   case pos =>
    rw [if_pos hc3_] at H
    have hc3_b0 : decide (t3 < 0) = true := decide_eq_true hc3_
    replace H := Option.some.inj H
    subst H
    go_wp2
    go_ret
    exact ⟨rfl, HB.out⟩
   case neg =>
    rw [if_neg hc3_] at H
    have hc3_b0 : decide (t3 < 0) = false := decide_eq_false hc3_
    replace H := ob_ H
    obtain ⟨t4, A5_0, H⟩ := H
    have A5 := A_.mk A5_0
    clear A5_0
    replace H := A_.mk H
    go_wp2_with (fail)
    (with_reducible refine (laws_heldPacketS.calls k _ _ l0_5 t3 t4 _ (Kd.C_below HR0_5.out HB.out) HC0_5.out A5.out).mono ?_)
    rintro e w5_ ⟨rfl, hb⟩
    replace hb := Drawn0.below hb
    replace HS := aHs HS hb.size
    replace BK1 := aBb BK1 hb
    replace HB := aHB HB hb
    clear hb  q1_0 q1_1 q1_2 q1_3 q1_4 q1_5
    obtain ⟨q1_0, q1_1, q1_2, q1_3, q1_4, q1_5⟩ := blk6_ BK1.out
    replace H := H.out
    by_cases hc4_ : t4 < 0
    case pos =>
     rw [if_pos hc4_] at H
     have hc4_b0 : decide (t4 < 0) = true := decide_eq_true hc4_
     replace H := Option.some.inj H
     subst H
     go_wp2
     go_ret
     exact ⟨rfl, HB.out⟩
    case neg =>
     rw [if_neg hc4_] at H
     have hc4_b0 : decide (t4 < 0) = false := decide_eq_false hc4_
     replace H := Option.some.inj H
     subst H
     go_wp2
     go_ret
     exact ⟨rfl, HB.out⟩
/-! ### laws_heldPacket: function 19, its calls in a row -/
def laws_heldPacket.f (k : Nat) (a0_0 : Int) (a0_1 : Int) (a0_2 : Int) (a0_3 : Int) (a0_4 : Int) (a0_5 : Int) (a0_6 : Int) (l0_7 : List Int) (a1 : Int) : Option ((Int)) := ((laws_heldIntS.f k l0_7 a1).bind fun t1 => (if t1 < 0 then (some (-1)) else (some (t1))))
set_option maxHeartbeats 8000000 in
set_option maxRecDepth 100000 in
theorem laws_heldPacket.calls (k : Nat) (a0_0 : Int) (a0_1 : Int) (a0_2 : Int) (a0_3 : Int) (a0_4 : Int) (a0_5 : Int) (a0_6 : Int) (A0_7 : Option Addr) (c0_7 : Nat) (l0_7 : List Int) (a1 : Int) (r : Int) (w : World) (hr0_7 : Kd.C (Kd.int .i64) w A0_7 l0_7.length l0_7) (hc0_7 : l0_7.length ≤ c0_7) (h : laws_heldPacket.f k a0_0 a0_1 a0_2 a0_3 a0_4 a0_5 a0_6 l0_7 a1 = some r) :
  Calls Try.prog 19 #[.agg #[.int .i64 a0_0, .int .i64 a0_1, .int .i64 a0_2, .int .i64 a0_3, .int .i64 a0_4, .int .i64 a0_5, .int .i64 a0_6, .slice A0_7 l0_7.length c0_7], .int .i64 a1] w fun e w' => e = .returned (.int .i64 r) ∧ Below w.heap.size w w' := by
 have HR0_7 := A_.mk hr0_7
 have HC0_7 := A_.mk hc0_7
 clear hr0_7 hc0_7
 have HB := A_.mk (Below.refl w.heap.size w)
 unfold laws_heldPacket.f at h
 have H := h
 clear h
 replace H := ob_ H
 obtain ⟨t1, A2_0, H⟩ := H
 have A2 := A_.mk A2_0
 clear A2_0
 replace H := A_.mk H
 have hu38 := Try.underlying38
 go_enter Try.func19, Try.ntmps19
 have HS := A_.mk (Nat.le_refl w.heap.size)
 go_wp2_with (first | ((with_reducible refine gd_ (N := 2) rfl ?_); refine by_ 2 (cs := #[.int .i64 a0_0, .int .i64 a0_1, .int .i64 a0_2, .int .i64 a0_3, .int .i64 a0_4, .int .i64 a0_5, .int .i64 a0_6, .slice A0_7 l0_7.length c0_7]) (t := 38) ?_; intro gb1_ hg w1_ hbox hb; replace HS := A_.mk (And.intro HS.out (show gb1_ = w.heap.size ∧ gb1_ < w1_.heap.size from ⟨hg, blk_lt hbox⟩)); replace HB := aHB HB hb; have BK1 := A_.mk hbox; clear hbox hb hg; obtain ⟨q1_0, q1_1, q1_2, q1_3, q1_4, q1_5, q1_6, q1_7⟩ := blk8_ BK1.out))
 (with_reducible refine (laws_heldIntS.calls k _ _ l0_7 a1 t1 _ (Kd.C_below HR0_7.out HB.out) HC0_7.out A2.out).mono ?_)
 rintro e w2_ ⟨rfl, hb⟩
 replace hb := Drawn0.below hb
 replace HS := aHs HS hb.size
 replace BK1 := aBb BK1 hb
 replace HB := aHB HB hb
 clear hb  q1_0 q1_1 q1_2 q1_3 q1_4 q1_5 q1_6 q1_7
 obtain ⟨q1_0, q1_1, q1_2, q1_3, q1_4, q1_5, q1_6, q1_7⟩ := blk8_ BK1.out
 replace H := H.out
 by_cases hc1_ : t1 < 0
 case pos =>
  rw [if_pos hc1_] at H
  have hc1_b0 : decide (t1 < 0) = true := decide_eq_true hc1_
  replace H := Option.some.inj H
  subst H
  go_wp2
  go_ret
  exact ⟨rfl, HB.out⟩
 case neg =>
  rw [if_neg hc1_] at H
  have hc1_b0 : decide (t1 < 0) = false := decide_eq_false hc1_
  replace H := Option.some.inj H
  subst H
  go_wp2
  go_ret
  exact ⟨rfl, HB.out⟩


end Go.Proofs.Ytlombfmebinjbaa.PFnExactFreePacket
