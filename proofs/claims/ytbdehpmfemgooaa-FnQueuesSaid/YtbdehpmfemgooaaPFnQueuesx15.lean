-- Written by a program of this session (wip/xp): not trusted, Lean checks it.
import Derived.Test.YtbdehpmfemgooaaPFnQueuesx0
import Derived.Test.YtbdehpmfemgooaaPFnQueuesx14
namespace Go.Proofs.Ytbdehpmfemgooaa.PFnQueues
open Go.RowKit Go.Proofs.YtbdehpmfemgooaaW.PrintWords Go.Proofs.YtbdehpmfemgooaaW.PrintLast Go.Proofs.YtbdehpmfemgooaaW.PrintMore
attribute [local go_sem] max2_int min2_int max_two min_two max_three min_three max_four min_four   -- for this text's walks alone
set_option linter.unusedVariables false
set_option linter.unusedSimpArgs false

theorem blk8_ {W : World} {g t : Nat} {a0 a1 a2 a3 a4 a5 a6 a7 : Value} (h : W.heap[g]? = some (.cells #[a0, a1, a2, a3, a4, a5, a6, a7] t (0, 0))) : W.cell? ⟨g, 0, none⟩ = some a0 ∧ W.cell? ⟨g, 1, none⟩ = some a1 ∧ W.cell? ⟨g, 2, none⟩ = some a2 ∧ W.cell? ⟨g, 3, none⟩ = some a3 ∧ W.cell? ⟨g, 4, none⟩ = some a4 ∧ W.cell? ⟨g, 5, none⟩ = some a5 ∧ W.cell? ⟨g, 6, none⟩ = some a6 ∧ W.cell? ⟨g, 7, none⟩ = some a7 :=
 ⟨(bc_ h 0).trans rfl, (bc_ h 1).trans rfl, (bc_ h 2).trans rfl, (bc_ h 3).trans rfl, (bc_ h 4).trans rfl, (bc_ h 5).trans rfl, (bc_ h 6).trans rfl, (bc_ h 7).trans rfl⟩
/-! ### impl_SamePacket: function 33, its calls in a row -/
def impl_SamePacket.f (k : Nat) (a0_0 : Int) (a0_1 : Int) (a0_2 : Int) (a0_3 : Int) (a0_4 : Int) (a0_5 : Int) (a0_6 : Int) (l0_7 : List Int) (a1_0 : Int) (a1_1 : Int) (a1_2 : Int) (a1_3 : Int) (a1_4 : Int) (a1_5 : Int) (a1_6 : Int) (l1_7 : List Int) : Option ((Bool)) := (if a0_0 = a1_0 then (if a0_1 = a1_1 then (if a0_2 = a1_2 then (if a0_3 = a1_3 then (if a0_4 = a1_4 then (if a0_5 = a1_5 then (if a0_6 = a1_6 then ((slices_Equal_int_int.f k l0_7 l1_7).bind fun t1 => (some (t1))) else (some (false))) else (some (false))) else (some (false))) else (some (false))) else (some (false))) else (some (false))) else (some (false)))
set_option maxHeartbeats 8000000 in
set_option maxRecDepth 100000 in
theorem impl_SamePacket.calls (k : Nat) (a0_0 : Int) (a0_1 : Int) (a0_2 : Int) (a0_3 : Int) (a0_4 : Int) (a0_5 : Int) (a0_6 : Int) (A0_7 : Option Addr) (c0_7 : Nat) (l0_7 : List Int) (a1_0 : Int) (a1_1 : Int) (a1_2 : Int) (a1_3 : Int) (a1_4 : Int) (a1_5 : Int) (a1_6 : Int) (A1_7 : Option Addr) (c1_7 : Nat) (l1_7 : List Int) (r : Bool) (w : World) (hr0_7 : Kd.C (Kd.int .i64) w A0_7 l0_7.length l0_7) (hc0_7 : l0_7.length ≤ c0_7) (hr1_7 : Kd.C (Kd.int .i64) w A1_7 l1_7.length l1_7) (hc1_7 : l1_7.length ≤ c1_7) (h : impl_SamePacket.f k a0_0 a0_1 a0_2 a0_3 a0_4 a0_5 a0_6 l0_7 a1_0 a1_1 a1_2 a1_3 a1_4 a1_5 a1_6 l1_7 = some r) :
  Calls Try.prog 33 #[.agg #[.int .i64 a0_0, .int .i64 a0_1, .int .i64 a0_2, .int .i64 a0_3, .int .i64 a0_4, .int .i64 a0_5, .int .i64 a0_6, .slice A0_7 l0_7.length c0_7], .agg #[.int .i64 a1_0, .int .i64 a1_1, .int .i64 a1_2, .int .i64 a1_3, .int .i64 a1_4, .int .i64 a1_5, .int .i64 a1_6, .slice A1_7 l1_7.length c1_7]] w fun e w' => e = .returned (.bool r) ∧ Below w.heap.size w w' := by
 have HR0_7 := A_.mk hr0_7
 have HC0_7 := A_.mk hc0_7
 clear hr0_7 hc0_7
 have HR1_7 := A_.mk hr1_7
 have HC1_7 := A_.mk hc1_7
 clear hr1_7 hc1_7
 have HB := A_.mk (Below.refl w.heap.size w)
 unfold impl_SamePacket.f at h
 have H := h
 clear h
 by_cases hc1_ : a0_0 = a1_0
 case pos =>
  rw [if_pos hc1_] at H
  have hc1_b0 : (a0_0 == a1_0) = true := beq_iff_eq.mpr hc1_
  have hc1_bn : (a0_0 != a1_0) = false := bne_eq_false_iff_eq.mpr hc1_
  by_cases hc2_ : a0_1 = a1_1
  case pos =>
   rw [if_pos hc2_] at H
   have hc2_b0 : (a0_1 == a1_1) = true := beq_iff_eq.mpr hc2_
   have hc2_bn : (a0_1 != a1_1) = false := bne_eq_false_iff_eq.mpr hc2_
   by_cases hc3_ : a0_2 = a1_2
   case pos =>
    rw [if_pos hc3_] at H
    have hc3_b0 : (a0_2 == a1_2) = true := beq_iff_eq.mpr hc3_
    have hc3_bn : (a0_2 != a1_2) = false := bne_eq_false_iff_eq.mpr hc3_
    by_cases hc4_ : a0_3 = a1_3
    case pos =>
     rw [if_pos hc4_] at H
     have hc4_b0 : (a0_3 == a1_3) = true := beq_iff_eq.mpr hc4_
     have hc4_bn : (a0_3 != a1_3) = false := bne_eq_false_iff_eq.mpr hc4_
     by_cases hc5_ : a0_4 = a1_4
     case pos =>
      rw [if_pos hc5_] at H
      have hc5_b0 : (a0_4 == a1_4) = true := beq_iff_eq.mpr hc5_
      have hc5_bn : (a0_4 != a1_4) = false := bne_eq_false_iff_eq.mpr hc5_
      by_cases hc6_ : a0_5 = a1_5
      case pos =>
       rw [if_pos hc6_] at H
       have hc6_b0 : (a0_5 == a1_5) = true := beq_iff_eq.mpr hc6_
       have hc6_bn : (a0_5 != a1_5) = false := bne_eq_false_iff_eq.mpr hc6_
       by_cases hc7_ : a0_6 = a1_6
       case pos =>
        rw [if_pos hc7_] at H
        have hc7_b0 : (a0_6 == a1_6) = true := beq_iff_eq.mpr hc7_
        have hc7_bn : (a0_6 != a1_6) = false := bne_eq_false_iff_eq.mpr hc7_
        replace H := ob_ H
        obtain ⟨t1, A3_0, H⟩ := H
        have A3 := A_.mk A3_0
        clear A3_0
        replace H := Option.some.inj H
        subst H
        have hu60 := Try.underlying60
        go_enter Try.func33, Try.ntmps33
        have HS := A_.mk (Nat.le_refl w.heap.size)
        go_wp2_with (first | ((with_reducible refine gd_ (N := 2) rfl ?_); refine by_ 2 (cs := #[.int .i64 a0_0, .int .i64 a0_1, .int .i64 a0_2, .int .i64 a0_3, .int .i64 a0_4, .int .i64 a0_5, .int .i64 a0_6, .slice A0_7 l0_7.length c0_7]) (t := 60) ?_; intro gb1_ hg w1_ hbox hb; replace HS := A_.mk (And.intro HS.out (show gb1_ = w.heap.size ∧ gb1_ < w1_.heap.size from ⟨hg, blk_lt hbox⟩)); replace HB := A_.mk (below_then HB.out HB.out.size hb); have BK1 := A_.mk hbox; clear hbox hb hg; obtain ⟨q1_0, q1_1, q1_2, q1_3, q1_4, q1_5, q1_6, q1_7⟩ := blk8_ BK1.out) | ((with_reducible refine gd_ (N := 3) rfl ?_); refine by_ 3 (cs := #[.int .i64 a1_0, .int .i64 a1_1, .int .i64 a1_2, .int .i64 a1_3, .int .i64 a1_4, .int .i64 a1_5, .int .i64 a1_6, .slice A1_7 l1_7.length c1_7]) (t := 60) ?_; intro gb2_ hg w2_ hbox hb; replace HS := A_.mk (And.intro HS.out (show gb2_ = w1_.heap.size ∧ gb2_ < w2_.heap.size from ⟨hg, blk_lt hbox⟩)); replace BK1 := A_.mk (bb_ BK1.out hb); replace HB := A_.mk (below_then HB.out HB.out.size hb); have BK2 := A_.mk hbox; clear hbox hb hg q1_0 q1_1 q1_2 q1_3 q1_4 q1_5 q1_6 q1_7; obtain ⟨q1_0, q1_1, q1_2, q1_3, q1_4, q1_5, q1_6, q1_7⟩ := blk8_ BK1.out; obtain ⟨q2_0, q2_1, q2_2, q2_3, q2_4, q2_5, q2_6, q2_7⟩ := blk8_ BK2.out))
        (with_reducible refine (slices_Equal_int_int.calls k _ _ l0_7 _ _ l1_7 t1 _ (Kd.C_below HR0_7.out HB.out) HC0_7.out (Kd.C_below HR1_7.out HB.out) HC1_7.out A3.out).mono ?_)
        rintro e w3_ ⟨rfl, hb⟩
        replace hb := Drawn0.below hb
        replace HS := A_.mk (And.intro HS.out (show w2_.heap.size ≤ w3_.heap.size from hb.size))
        replace BK1 := A_.mk (bb_ BK1.out hb)
        replace BK2 := A_.mk (bb_ BK2.out hb)
        replace HB := A_.mk (below_then HB.out HB.out.size hb)
        clear hb  q1_0 q1_1 q1_2 q1_3 q1_4 q1_5 q1_6 q1_7 q2_0 q2_1 q2_2 q2_3 q2_4 q2_5 q2_6 q2_7
        obtain ⟨q1_0, q1_1, q1_2, q1_3, q1_4, q1_5, q1_6, q1_7⟩ := blk8_ BK1.out
        obtain ⟨q2_0, q2_1, q2_2, q2_3, q2_4, q2_5, q2_6, q2_7⟩ := blk8_ BK2.out
        go_wp2
        go_ret
        exact ⟨rfl, HB.out⟩
       case neg =>
        rw [if_neg hc7_] at H
        have hc7_b0 : (a0_6 == a1_6) = false := beq_eq_false_iff_ne.mpr hc7_
        have hc7_bn : (a0_6 != a1_6) = true := bne_iff_ne.mpr hc7_
        replace H := Option.some.inj H
        subst H
        have hu60 := Try.underlying60
        go_enter Try.func33, Try.ntmps33
        have HS := A_.mk (Nat.le_refl w.heap.size)
        go_wp2_with (first | ((with_reducible refine gd_ (N := 2) rfl ?_); refine by_ 2 (cs := #[.int .i64 a0_0, .int .i64 a0_1, .int .i64 a0_2, .int .i64 a0_3, .int .i64 a0_4, .int .i64 a0_5, .int .i64 a0_6, .slice A0_7 l0_7.length c0_7]) (t := 60) ?_; intro gb1_ hg w1_ hbox hb; replace HS := A_.mk (And.intro HS.out (show gb1_ = w.heap.size ∧ gb1_ < w1_.heap.size from ⟨hg, blk_lt hbox⟩)); replace HB := A_.mk (below_then HB.out HB.out.size hb); have BK1 := A_.mk hbox; clear hbox hb hg; obtain ⟨q1_0, q1_1, q1_2, q1_3, q1_4, q1_5, q1_6, q1_7⟩ := blk8_ BK1.out) | ((with_reducible refine gd_ (N := 3) rfl ?_); refine by_ 3 (cs := #[.int .i64 a1_0, .int .i64 a1_1, .int .i64 a1_2, .int .i64 a1_3, .int .i64 a1_4, .int .i64 a1_5, .int .i64 a1_6, .slice A1_7 l1_7.length c1_7]) (t := 60) ?_; intro gb2_ hg w2_ hbox hb; replace HS := A_.mk (And.intro HS.out (show gb2_ = w1_.heap.size ∧ gb2_ < w2_.heap.size from ⟨hg, blk_lt hbox⟩)); replace BK1 := A_.mk (bb_ BK1.out hb); replace HB := A_.mk (below_then HB.out HB.out.size hb); have BK2 := A_.mk hbox; clear hbox hb hg q1_0 q1_1 q1_2 q1_3 q1_4 q1_5 q1_6 q1_7; obtain ⟨q1_0, q1_1, q1_2, q1_3, q1_4, q1_5, q1_6, q1_7⟩ := blk8_ BK1.out; obtain ⟨q2_0, q2_1, q2_2, q2_3, q2_4, q2_5, q2_6, q2_7⟩ := blk8_ BK2.out))
        go_ret
        exact ⟨rfl, HB.out⟩
      case neg =>
       rw [if_neg hc6_] at H
       have hc6_b0 : (a0_5 == a1_5) = false := beq_eq_false_iff_ne.mpr hc6_
       have hc6_bn : (a0_5 != a1_5) = true := bne_iff_ne.mpr hc6_
       replace H := Option.some.inj H
       subst H
       have hu60 := Try.underlying60
       go_enter Try.func33, Try.ntmps33
       have HS := A_.mk (Nat.le_refl w.heap.size)
       go_wp2_with (first | ((with_reducible refine gd_ (N := 2) rfl ?_); refine by_ 2 (cs := #[.int .i64 a0_0, .int .i64 a0_1, .int .i64 a0_2, .int .i64 a0_3, .int .i64 a0_4, .int .i64 a0_5, .int .i64 a0_6, .slice A0_7 l0_7.length c0_7]) (t := 60) ?_; intro gb1_ hg w1_ hbox hb; replace HS := A_.mk (And.intro HS.out (show gb1_ = w.heap.size ∧ gb1_ < w1_.heap.size from ⟨hg, blk_lt hbox⟩)); replace HB := A_.mk (below_then HB.out HB.out.size hb); have BK1 := A_.mk hbox; clear hbox hb hg; obtain ⟨q1_0, q1_1, q1_2, q1_3, q1_4, q1_5, q1_6, q1_7⟩ := blk8_ BK1.out) | ((with_reducible refine gd_ (N := 3) rfl ?_); refine by_ 3 (cs := #[.int .i64 a1_0, .int .i64 a1_1, .int .i64 a1_2, .int .i64 a1_3, .int .i64 a1_4, .int .i64 a1_5, .int .i64 a1_6, .slice A1_7 l1_7.length c1_7]) (t := 60) ?_; intro gb2_ hg w2_ hbox hb; replace HS := A_.mk (And.intro HS.out (show gb2_ = w1_.heap.size ∧ gb2_ < w2_.heap.size from ⟨hg, blk_lt hbox⟩)); replace BK1 := A_.mk (bb_ BK1.out hb); replace HB := A_.mk (below_then HB.out HB.out.size hb); have BK2 := A_.mk hbox; clear hbox hb hg q1_0 q1_1 q1_2 q1_3 q1_4 q1_5 q1_6 q1_7; obtain ⟨q1_0, q1_1, q1_2, q1_3, q1_4, q1_5, q1_6, q1_7⟩ := blk8_ BK1.out; obtain ⟨q2_0, q2_1, q2_2, q2_3, q2_4, q2_5, q2_6, q2_7⟩ := blk8_ BK2.out))
       go_ret
       exact ⟨rfl, HB.out⟩
     case neg =>
      rw [if_neg hc5_] at H
      have hc5_b0 : (a0_4 == a1_4) = false := beq_eq_false_iff_ne.mpr hc5_
      have hc5_bn : (a0_4 != a1_4) = true := bne_iff_ne.mpr hc5_
      replace H := Option.some.inj H
      subst H
      have hu60 := Try.underlying60
      go_enter Try.func33, Try.ntmps33
      have HS := A_.mk (Nat.le_refl w.heap.size)
      go_wp2_with (first | ((with_reducible refine gd_ (N := 2) rfl ?_); refine by_ 2 (cs := #[.int .i64 a0_0, .int .i64 a0_1, .int .i64 a0_2, .int .i64 a0_3, .int .i64 a0_4, .int .i64 a0_5, .int .i64 a0_6, .slice A0_7 l0_7.length c0_7]) (t := 60) ?_; intro gb1_ hg w1_ hbox hb; replace HS := A_.mk (And.intro HS.out (show gb1_ = w.heap.size ∧ gb1_ < w1_.heap.size from ⟨hg, blk_lt hbox⟩)); replace HB := A_.mk (below_then HB.out HB.out.size hb); have BK1 := A_.mk hbox; clear hbox hb hg; obtain ⟨q1_0, q1_1, q1_2, q1_3, q1_4, q1_5, q1_6, q1_7⟩ := blk8_ BK1.out) | ((with_reducible refine gd_ (N := 3) rfl ?_); refine by_ 3 (cs := #[.int .i64 a1_0, .int .i64 a1_1, .int .i64 a1_2, .int .i64 a1_3, .int .i64 a1_4, .int .i64 a1_5, .int .i64 a1_6, .slice A1_7 l1_7.length c1_7]) (t := 60) ?_; intro gb2_ hg w2_ hbox hb; replace HS := A_.mk (And.intro HS.out (show gb2_ = w1_.heap.size ∧ gb2_ < w2_.heap.size from ⟨hg, blk_lt hbox⟩)); replace BK1 := A_.mk (bb_ BK1.out hb); replace HB := A_.mk (below_then HB.out HB.out.size hb); have BK2 := A_.mk hbox; clear hbox hb hg q1_0 q1_1 q1_2 q1_3 q1_4 q1_5 q1_6 q1_7; obtain ⟨q1_0, q1_1, q1_2, q1_3, q1_4, q1_5, q1_6, q1_7⟩ := blk8_ BK1.out; obtain ⟨q2_0, q2_1, q2_2, q2_3, q2_4, q2_5, q2_6, q2_7⟩ := blk8_ BK2.out))
      go_ret
      exact ⟨rfl, HB.out⟩
    case neg =>
     rw [if_neg hc4_] at H
     have hc4_b0 : (a0_3 == a1_3) = false := beq_eq_false_iff_ne.mpr hc4_
     have hc4_bn : (a0_3 != a1_3) = true := bne_iff_ne.mpr hc4_
     replace H := Option.some.inj H
     subst H
     have hu60 := Try.underlying60
     go_enter Try.func33, Try.ntmps33
     have HS := A_.mk (Nat.le_refl w.heap.size)
     go_wp2_with (first | ((with_reducible refine gd_ (N := 2) rfl ?_); refine by_ 2 (cs := #[.int .i64 a0_0, .int .i64 a0_1, .int .i64 a0_2, .int .i64 a0_3, .int .i64 a0_4, .int .i64 a0_5, .int .i64 a0_6, .slice A0_7 l0_7.length c0_7]) (t := 60) ?_; intro gb1_ hg w1_ hbox hb; replace HS := A_.mk (And.intro HS.out (show gb1_ = w.heap.size ∧ gb1_ < w1_.heap.size from ⟨hg, blk_lt hbox⟩)); replace HB := A_.mk (below_then HB.out HB.out.size hb); have BK1 := A_.mk hbox; clear hbox hb hg; obtain ⟨q1_0, q1_1, q1_2, q1_3, q1_4, q1_5, q1_6, q1_7⟩ := blk8_ BK1.out) | ((with_reducible refine gd_ (N := 3) rfl ?_); refine by_ 3 (cs := #[.int .i64 a1_0, .int .i64 a1_1, .int .i64 a1_2, .int .i64 a1_3, .int .i64 a1_4, .int .i64 a1_5, .int .i64 a1_6, .slice A1_7 l1_7.length c1_7]) (t := 60) ?_; intro gb2_ hg w2_ hbox hb; replace HS := A_.mk (And.intro HS.out (show gb2_ = w1_.heap.size ∧ gb2_ < w2_.heap.size from ⟨hg, blk_lt hbox⟩)); replace BK1 := A_.mk (bb_ BK1.out hb); replace HB := A_.mk (below_then HB.out HB.out.size hb); have BK2 := A_.mk hbox; clear hbox hb hg q1_0 q1_1 q1_2 q1_3 q1_4 q1_5 q1_6 q1_7; obtain ⟨q1_0, q1_1, q1_2, q1_3, q1_4, q1_5, q1_6, q1_7⟩ := blk8_ BK1.out; obtain ⟨q2_0, q2_1, q2_2, q2_3, q2_4, q2_5, q2_6, q2_7⟩ := blk8_ BK2.out))
     go_ret
     exact ⟨rfl, HB.out⟩
   case neg =>
    rw [if_neg hc3_] at H
    have hc3_b0 : (a0_2 == a1_2) = false := beq_eq_false_iff_ne.mpr hc3_
    have hc3_bn : (a0_2 != a1_2) = true := bne_iff_ne.mpr hc3_
    replace H := Option.some.inj H
    subst H
    have hu60 := Try.underlying60
    go_enter Try.func33, Try.ntmps33
    have HS := A_.mk (Nat.le_refl w.heap.size)
    go_wp2_with (first | ((with_reducible refine gd_ (N := 2) rfl ?_); refine by_ 2 (cs := #[.int .i64 a0_0, .int .i64 a0_1, .int .i64 a0_2, .int .i64 a0_3, .int .i64 a0_4, .int .i64 a0_5, .int .i64 a0_6, .slice A0_7 l0_7.length c0_7]) (t := 60) ?_; intro gb1_ hg w1_ hbox hb; replace HS := A_.mk (And.intro HS.out (show gb1_ = w.heap.size ∧ gb1_ < w1_.heap.size from ⟨hg, blk_lt hbox⟩)); replace HB := A_.mk (below_then HB.out HB.out.size hb); have BK1 := A_.mk hbox; clear hbox hb hg; obtain ⟨q1_0, q1_1, q1_2, q1_3, q1_4, q1_5, q1_6, q1_7⟩ := blk8_ BK1.out) | ((with_reducible refine gd_ (N := 3) rfl ?_); refine by_ 3 (cs := #[.int .i64 a1_0, .int .i64 a1_1, .int .i64 a1_2, .int .i64 a1_3, .int .i64 a1_4, .int .i64 a1_5, .int .i64 a1_6, .slice A1_7 l1_7.length c1_7]) (t := 60) ?_; intro gb2_ hg w2_ hbox hb; replace HS := A_.mk (And.intro HS.out (show gb2_ = w1_.heap.size ∧ gb2_ < w2_.heap.size from ⟨hg, blk_lt hbox⟩)); replace BK1 := A_.mk (bb_ BK1.out hb); replace HB := A_.mk (below_then HB.out HB.out.size hb); have BK2 := A_.mk hbox; clear hbox hb hg q1_0 q1_1 q1_2 q1_3 q1_4 q1_5 q1_6 q1_7; obtain ⟨q1_0, q1_1, q1_2, q1_3, q1_4, q1_5, q1_6, q1_7⟩ := blk8_ BK1.out; obtain ⟨q2_0, q2_1, q2_2, q2_3, q2_4, q2_5, q2_6, q2_7⟩ := blk8_ BK2.out))
    go_ret
    exact ⟨rfl, HB.out⟩
  case neg =>
   rw [if_neg hc2_] at H
   have hc2_b0 : (a0_1 == a1_1) = false := beq_eq_false_iff_ne.mpr hc2_
   have hc2_bn : (a0_1 != a1_1) = true := bne_iff_ne.mpr hc2_
   replace H := Option.some.inj H
   subst H
   have hu60 := Try.underlying60
   go_enter Try.func33, Try.ntmps33
   have HS := A_.mk (Nat.le_refl w.heap.size)
   go_wp2_with (first | ((with_reducible refine gd_ (N := 2) rfl ?_); refine by_ 2 (cs := #[.int .i64 a0_0, .int .i64 a0_1, .int .i64 a0_2, .int .i64 a0_3, .int .i64 a0_4, .int .i64 a0_5, .int .i64 a0_6, .slice A0_7 l0_7.length c0_7]) (t := 60) ?_; intro gb1_ hg w1_ hbox hb; replace HS := A_.mk (And.intro HS.out (show gb1_ = w.heap.size ∧ gb1_ < w1_.heap.size from ⟨hg, blk_lt hbox⟩)); replace HB := A_.mk (below_then HB.out HB.out.size hb); have BK1 := A_.mk hbox; clear hbox hb hg; obtain ⟨q1_0, q1_1, q1_2, q1_3, q1_4, q1_5, q1_6, q1_7⟩ := blk8_ BK1.out) | ((with_reducible refine gd_ (N := 3) rfl ?_); refine by_ 3 (cs := #[.int .i64 a1_0, .int .i64 a1_1, .int .i64 a1_2, .int .i64 a1_3, .int .i64 a1_4, .int .i64 a1_5, .int .i64 a1_6, .slice A1_7 l1_7.length c1_7]) (t := 60) ?_; intro gb2_ hg w2_ hbox hb; replace HS := A_.mk (And.intro HS.out (show gb2_ = w1_.heap.size ∧ gb2_ < w2_.heap.size from ⟨hg, blk_lt hbox⟩)); replace BK1 := A_.mk (bb_ BK1.out hb); replace HB := A_.mk (below_then HB.out HB.out.size hb); have BK2 := A_.mk hbox; clear hbox hb hg q1_0 q1_1 q1_2 q1_3 q1_4 q1_5 q1_6 q1_7; obtain ⟨q1_0, q1_1, q1_2, q1_3, q1_4, q1_5, q1_6, q1_7⟩ := blk8_ BK1.out; obtain ⟨q2_0, q2_1, q2_2, q2_3, q2_4, q2_5, q2_6, q2_7⟩ := blk8_ BK2.out))
   go_ret
   exact ⟨rfl, HB.out⟩
 case neg =>
  rw [if_neg hc1_] at H
  have hc1_b0 : (a0_0 == a1_0) = false := beq_eq_false_iff_ne.mpr hc1_
  have hc1_bn : (a0_0 != a1_0) = true := bne_iff_ne.mpr hc1_
  replace H := Option.some.inj H
  subst H
  have hu60 := Try.underlying60
  go_enter Try.func33, Try.ntmps33
  have HS := A_.mk (Nat.le_refl w.heap.size)
  go_wp2_with (first | ((with_reducible refine gd_ (N := 2) rfl ?_); refine by_ 2 (cs := #[.int .i64 a0_0, .int .i64 a0_1, .int .i64 a0_2, .int .i64 a0_3, .int .i64 a0_4, .int .i64 a0_5, .int .i64 a0_6, .slice A0_7 l0_7.length c0_7]) (t := 60) ?_; intro gb1_ hg w1_ hbox hb; replace HS := A_.mk (And.intro HS.out (show gb1_ = w.heap.size ∧ gb1_ < w1_.heap.size from ⟨hg, blk_lt hbox⟩)); replace HB := A_.mk (below_then HB.out HB.out.size hb); have BK1 := A_.mk hbox; clear hbox hb hg; obtain ⟨q1_0, q1_1, q1_2, q1_3, q1_4, q1_5, q1_6, q1_7⟩ := blk8_ BK1.out) | ((with_reducible refine gd_ (N := 3) rfl ?_); refine by_ 3 (cs := #[.int .i64 a1_0, .int .i64 a1_1, .int .i64 a1_2, .int .i64 a1_3, .int .i64 a1_4, .int .i64 a1_5, .int .i64 a1_6, .slice A1_7 l1_7.length c1_7]) (t := 60) ?_; intro gb2_ hg w2_ hbox hb; replace HS := A_.mk (And.intro HS.out (show gb2_ = w1_.heap.size ∧ gb2_ < w2_.heap.size from ⟨hg, blk_lt hbox⟩)); replace BK1 := A_.mk (bb_ BK1.out hb); replace HB := A_.mk (below_then HB.out HB.out.size hb); have BK2 := A_.mk hbox; clear hbox hb hg q1_0 q1_1 q1_2 q1_3 q1_4 q1_5 q1_6 q1_7; obtain ⟨q1_0, q1_1, q1_2, q1_3, q1_4, q1_5, q1_6, q1_7⟩ := blk8_ BK1.out; obtain ⟨q2_0, q2_1, q2_2, q2_3, q2_4, q2_5, q2_6, q2_7⟩ := blk8_ BK2.out))
  go_ret
  exact ⟨rfl, HB.out⟩
end Go.Proofs.Ytbdehpmfemgooaa.PFnQueues
