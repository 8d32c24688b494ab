-- Written by a program of this session (wip/xp): not trusted, Lean checks it.
import Derived.Test.YtlombfmebinjbaaPFnExactTellCreditsx0
import Derived.Test.YtlombfmebinjbaaPFnExactTellCreditsx1
import Derived.Test.YtlombfmebinjbaaPFnExactTellCreditsx13
import Derived.Test.YtlombfmebinjbaaPFnExactTellCreditsx14
import Derived.Test.YtlombfmebinjbaaPFnExactTellCreditsx15
namespace Go.Proofs.Ytlombfmebinjbaa.PFnExactTellCredits
open Go.RowKit Go.Proofs.YtlombfmebinjbaaW.PrintWords Go.Proofs.YtlombfmebinjbaaW.PrintLast Go.Proofs.YtlombfmebinjbaaW.PrintMore
attribute [local go_sem] max2_int min2_int max_two min_two max_three min_three max_four min_four   -- for this text's walks alone
set_option linter.unusedVariables false
set_option linter.unusedSimpArgs false

/-! ### impl_IsPacket: function 43, its calls in a row -/
def impl_IsPacket.f (k : Nat) (a0_0 : Int) (a0_1 : Int) (a0_2 : Int) (a0_3 : Int) (a0_4 : Int) (a0_5 : Int) (a0_6 : Int) (l0_7 : List Int) : Option ((Bool)) := ((impl_within.f a0_0 1 6).bind fun t1 => (if t1 = true then ((impl_IsId.f a0_1).bind fun t2 => (if t2 = true then ((impl_Packet_addressOk.f k a0_0 a0_1 a0_2 a0_3 a0_4 a0_5 a0_6 l0_7).bind fun t3 => (if t3 = true then ((impl_Packet_lengthOk.f a0_0 a0_1 a0_2 a0_3 a0_4 a0_5 a0_6 l0_7).bind fun t4 => (if t4 = true then ((impl_within.f a0_0 4 6).bind fun t5 => (if t5 = true then ((impl_IsId.f a0_2).bind fun t6 => (if t6 = true then ((impl_within.f a0_0 3 6).bind fun t7 => (if t7 = true then ((impl_within.f a0_5 0 7).bind fun t8 => (if t8 = true then (if a0_0 = 6 then ((impl_within.f a0_6 0 2).bind fun t9 => (if t9 = true then ((impl_Packet_dataOk.f k a0_0 a0_1 a0_2 a0_3 a0_4 a0_5 a0_6 l0_7).bind fun t10 => (some (t10))) else (some (false)))) else (if a0_6 = 0 then ((impl_Packet_dataOk.f k a0_0 a0_1 a0_2 a0_3 a0_4 a0_5 a0_6 l0_7).bind fun t11 => (some (t11))) else (some (false)))) else (some (false)))) else (if a0_5 = 0 then (if a0_0 = 6 then ((impl_within.f a0_6 0 2).bind fun t12 => (if t12 = true then ((impl_Packet_dataOk.f k a0_0 a0_1 a0_2 a0_3 a0_4 a0_5 a0_6 l0_7).bind fun t13 => (some (t13))) else (some (false)))) else (if a0_6 = 0 then ((impl_Packet_dataOk.f k a0_0 a0_1 a0_2 a0_3 a0_4 a0_5 a0_6 l0_7).bind fun t14 => (some (t14))) else (some (false)))) else (some (false))))) else (some (false)))) else (if a0_2 = 0 then ((impl_within.f a0_0 3 6).bind fun t15 => (if t15 = true then ((impl_within.f a0_5 0 7).bind fun t16 => (if t16 = true then (if a0_0 = 6 then ((impl_within.f a0_6 0 2).bind fun t17 => (if t17 = true then ((impl_Packet_dataOk.f k a0_0 a0_1 a0_2 a0_3 a0_4 a0_5 a0_6 l0_7).bind fun t18 => (some (t18))) else (some (false)))) else (if a0_6 = 0 then ((impl_Packet_dataOk.f k a0_0 a0_1 a0_2 a0_3 a0_4 a0_5 a0_6 l0_7).bind fun t19 => (some (t19))) else (some (false)))) else (some (false)))) else (if a0_5 = 0 then (if a0_0 = 6 then ((impl_within.f a0_6 0 2).bind fun t20 => (if t20 = true then ((impl_Packet_dataOk.f k a0_0 a0_1 a0_2 a0_3 a0_4 a0_5 a0_6 l0_7).bind fun t21 => (some (t21))) else (some (false)))) else (if a0_6 = 0 then ((impl_Packet_dataOk.f k a0_0 a0_1 a0_2 a0_3 a0_4 a0_5 a0_6 l0_7).bind fun t22 => (some (t22))) else (some (false)))) else (some (false))))) else (some (false))))) else (some (false)))) else (some (false)))) else (some (false)))) else (some (false))))
set_option maxHeartbeats 8000000 in
set_option maxRecDepth 100000 in
theorem impl_IsPacket.calls (k : Nat) (a0_0 : Int) (a0_1 : Int) (a0_2 : Int) (a0_3 : Int) (a0_4 : Int) (a0_5 : Int) (a0_6 : Int) (A0_7 : Option Addr) (c0_7 : Nat) (l0_7 : List Int) (r : Bool) (w : World) (hr0_7 : Kd.C (Kd.int .i64) w A0_7 l0_7.length l0_7) (hc0_7 : l0_7.length ≤ c0_7) (h : impl_IsPacket.f k a0_0 a0_1 a0_2 a0_3 a0_4 a0_5 a0_6 l0_7 = some r) :
  Calls Try.prog 43 #[.agg #[.int .i64 a0_0, .int .i64 a0_1, .int .i64 a0_2, .int .i64 a0_3, .int .i64 a0_4, .int .i64 a0_5, .int .i64 a0_6, .slice A0_7 l0_7.length c0_7]] w fun e w' => e = .returned (.bool r) ∧ Below w.heap.size w w' := by
 have HR0_7 := A_.mk hr0_7
 have HC0_7 := A_.mk hc0_7
 clear hr0_7 hc0_7
 have HB := A_.mk (Below.refl w.heap.size w)
 unfold impl_IsPacket.f at h
 have H := h
 clear h
 replace H := oa_ H
 obtain ⟨t1, A2, H⟩ := H
 replace H := A_.mk H
 have hu38 := Try.underlying38
 go_enter Try.func43, Try.ntmps43
 have HS := A_.mk (Nat.le_refl w.heap.size)
 go_wp2_with (first | ((with_reducible refine gd_ (N := 1) rfl ?_); refine by_ 1 (cs := #[.int .i64 a0_0, .int .i64 a0_1, .int .i64 a0_2, .int .i64 a0_3, .int .i64 a0_4, .int .i64 a0_5, .int .i64 a0_6, .slice A0_7 l0_7.length c0_7]) (t := 38) ?_; intro gb1_ hg w1_ hbox hb; replace HS := A_.mk (And.intro HS.out (show gb1_ = w.heap.size ∧ gb1_ < w1_.heap.size from ⟨hg, blk_lt hbox⟩)); replace HB := aHB HB hb; have BK1 := A_.mk hbox; clear hbox hb hg; have Q1 := blk8_ BK1.out))
 (with_reducible refine (impl_within.calls a0_0 1 6 t1 _ A2.out).mono ?_)
 rintro e w2_ ⟨rfl, hb⟩
 replace hb := Drawn0.below hb
 replace HS := aHs HS hb.size
 replace BK1 := aBb BK1 hb
 replace HB := aHB HB hb
 clear hb  Q1
 have Q1 := blk8_ BK1.out
 replace H := H.out
 by_cases hc1_ : t1 = true
 case neg =>
  rw [if_neg hc1_] at H
  replace hc1_ := eq_false_of_ne_true hc1_
  subst hc1_
  replace H := Option.some.inj H
  subst H
  go_wp2
  go_ret
  exact ⟨rfl, HB.out⟩
 rw [if_pos hc1_] at H
 subst hc1_
 replace H := oa_ H
 obtain ⟨t2, A3, H⟩ := H
 replace H := A_.mk H
 go_wp2_with (fail)
 (with_reducible refine (impl_IsId.calls a0_1 t2 _ A3.out).mono ?_)
 rintro e w3_ ⟨rfl, hb⟩
 replace hb := Drawn0.below hb
 replace HS := aHs HS hb.size
 replace BK1 := aBb BK1 hb
 replace HB := aHB HB hb
 clear hb  Q1
 have Q1 := blk8_ BK1.out
 replace H := H.out
 by_cases hc2_ : t2 = true
 case neg =>
  rw [if_neg hc2_] at H
  replace hc2_ := eq_false_of_ne_true hc2_
  subst hc2_
  replace H := Option.some.inj H
  subst H
  go_wp2
  go_ret
  exact ⟨rfl, HB.out⟩
 rw [if_pos hc2_] at H
 subst hc2_
 replace H := oa_ H
 obtain ⟨t3, A4, H⟩ := H
 replace H := A_.mk H
 go_wp2_with (fail)
 (with_reducible refine (impl_Packet_addressOk.calls k a0_0 a0_1 a0_2 a0_3 a0_4 a0_5 a0_6 _ _ l0_7 t3 _ (Kd.C_below HR0_7.out HB.out) HC0_7.out A4.out).mono ?_)
 rintro e w4_ ⟨rfl, hb⟩
 replace HS := aHs HS hb.size
 replace BK1 := aBb BK1 hb
 replace HB := aHB HB hb
 clear hb  Q1
 have Q1 := blk8_ BK1.out
 replace H := H.out
 by_cases hc3_ : t3 = true
 case neg =>
  rw [if_neg hc3_] at H
  replace hc3_ := eq_false_of_ne_true hc3_
  subst hc3_
  replace H := Option.some.inj H
  subst H
  go_wp2
  go_ret
  exact ⟨rfl, HB.out⟩
 rw [if_pos hc3_] at H
 subst hc3_
 replace H := oa_ H
 obtain ⟨t4, A5, H⟩ := H
 replace H := A_.mk H
 go_wp2_with (fail)
 (with_reducible refine (impl_Packet_lengthOk.calls a0_0 a0_1 a0_2 a0_3 a0_4 a0_5 a0_6 _ _ l0_7 t4 _ (Kd.C_below HR0_7.out HB.out) HC0_7.out A5.out).mono ?_)
 rintro e w5_ ⟨rfl, hb⟩
 replace HS := aHs HS hb.size
 replace BK1 := aBb BK1 hb
 replace HB := aHB HB hb
 clear hb  Q1
 have Q1 := blk8_ BK1.out
 replace H := H.out
 by_cases hc4_ : t4 = true
 case neg =>
  rw [if_neg hc4_] at H
  replace hc4_ := eq_false_of_ne_true hc4_
  subst hc4_
  replace H := Option.some.inj H
  subst H
  go_wp2
  go_ret
  exact ⟨rfl, HB.out⟩
 rw [if_pos hc4_] at H
 subst hc4_
 replace H := oa_ H
 obtain ⟨t5, A6, H⟩ := H
 replace H := A_.mk H
 go_wp2_with (fail)
 (with_reducible refine (impl_within.calls a0_0 4 6 t5 _ A6.out).mono ?_)
 rintro e w6_ ⟨rfl, hb⟩
 replace hb := Drawn0.below hb
 replace HS := aHs HS hb.size
 replace BK1 := aBb BK1 hb
 replace HB := aHB HB hb
 clear hb  Q1
 have Q1 := blk8_ BK1.out
 replace H := H.out
 by_cases hc5_ : t5 = true
 case pos =>
  rw [if_pos hc5_] at H
  subst hc5_
  replace H := oa_ H
  obtain ⟨t6, A7, H⟩ := H
  replace H := A_.mk H
  go_wp2_with (fail)
  (with_reducible refine (impl_IsId.calls a0_2 t6 _ A7.out).mono ?_)
  rintro e w7_ ⟨rfl, hb⟩
  replace hb := Drawn0.below hb
  replace HS := aHs HS hb.size
  replace BK1 := aBb BK1 hb
  replace HB := aHB HB hb
  clear hb  Q1
  have Q1 := blk8_ BK1.out
  replace H := H.out
  by_cases hc6_ : t6 = true
  case neg =>
   rw [if_neg hc6_] at H
   replace hc6_ := eq_false_of_ne_true hc6_
   subst hc6_
   replace H := Option.some.inj H
   subst H
   go_wp2
   go_ret
   exact ⟨rfl, HB.out⟩
  rw [if_pos hc6_] at H
  subst hc6_
  replace H := oa_ H
  obtain ⟨t7, A8, H⟩ := H
  replace H := A_.mk H
  go_wp2_with (fail)
  (with_reducible refine (impl_within.calls a0_0 3 6 t7 _ A8.out).mono ?_)
  rintro e w8_ ⟨rfl, hb⟩
  replace hb := Drawn0.below hb
  replace HS := aHs HS hb.size
  replace BK1 := aBb BK1 hb
  replace HB := aHB HB hb
  clear hb  Q1
  have Q1 := blk8_ BK1.out
  replace H := H.out
  by_cases hc7_ : t7 = true
  case pos =>
   rw [if_pos hc7_] at H
   subst hc7_
   replace H := oa_ H
   obtain ⟨t8, A9, H⟩ := H
   replace H := A_.mk H
   go_wp2_with (fail)
   (with_reducible refine (impl_within.calls a0_5 0 7 t8 _ A9.out).mono ?_)
   rintro e w9_ ⟨rfl, hb⟩
   replace hb := Drawn0.below hb
   replace HS := aHs HS hb.size
   replace BK1 := aBb BK1 hb
   replace HB := aHB HB hb
   clear hb  Q1
   have Q1 := blk8_ BK1.out
   replace H := H.out
   by_cases hc8_ : t8 = true
   case neg =>
    rw [if_neg hc8_] at H
    replace hc8_ := eq_false_of_ne_true hc8_
    subst hc8_
    replace H := Option.some.inj H
    subst H
    go_wp2
    go_ret
    exact ⟨rfl, HB.out⟩
   rw [if_pos hc8_] at H
   subst hc8_
   by_cases hc9_ : a0_0 = 6
   case pos =>
    rw [if_pos hc9_] at H
    have hc9_b0 : (a0_0 == 6) = true := beq_iff_eq.mpr hc9_
    have hc9_bn : (a0_0 != 6) = false := bne_eq_false_iff_eq.mpr hc9_
    replace hc9_ := A_.mk hc9_
    replace H := oa_ H
    obtain ⟨t9, A10, H⟩ := H
    replace H := A_.mk H
    go_wp2_with (fail)
    (with_reducible refine (impl_within.calls a0_6 0 2 t9 _ A10.out).mono ?_)
    rintro e w10_ ⟨rfl, hb⟩
    replace hb := Drawn0.below hb
    replace HS := aHs HS hb.size
    replace BK1 := aBb BK1 hb
    replace HB := aHB HB hb
    clear hb  Q1
    have Q1 := blk8_ BK1.out
    replace H := H.out
    by_cases hc10_ : t9 = true
    case pos =>
     rw [if_pos hc10_] at H
     subst hc10_
     replace H := oa_ H
     obtain ⟨t10, A11, H⟩ := H
     replace H := Option.some.inj H
     subst H
     go_wp2_with (fail)
     (with_reducible refine (impl_Packet_dataOk.calls k a0_0 a0_1 a0_2 a0_3 a0_4 a0_5 a0_6 _ _ l0_7 t10 _ (Kd.C_below HR0_7.out HB.out) HC0_7.out A11.out).mono ?_)
     rintro e w11_ ⟨rfl, hb⟩
     replace HS := aHs HS hb.size
     replace BK1 := aBb BK1 hb
     replace HB := aHB HB hb
     clear hb  Q1
     have Q1 := blk8_ BK1.out
     go_wp2
     go_ret
     exact ⟨rfl, HB.out⟩
    rw [if_neg hc10_] at H
    replace hc10_ := eq_false_of_ne_true hc10_
    subst hc10_
    replace H := Option.some.inj H
    subst H
    go_wp2
    go_ret
    exact ⟨rfl, HB.out⟩
   rw [if_neg hc9_] at H
   have hc9_b0 : (a0_0 == 6) = false := beq_eq_false_iff_ne.mpr hc9_
   have hc9_bn : (a0_0 != 6) = true := bne_iff_ne.mpr hc9_
   by_cases hc11_ : a0_6 = 0
   case pos =>
    rw [if_pos hc11_] at H
    have hc11_b0 : (a0_6 == 0) = true := beq_iff_eq.mpr hc11_
    have hc11_bn : (a0_6 != 0) = false := bne_eq_false_iff_eq.mpr hc11_
    replace hc11_ := A_.mk hc11_
    replace H := oa_ H
    obtain ⟨t11, A12, H⟩ := H
    replace H := Option.some.inj H
    subst H
    go_wp2_with (fail)
    (with_reducible refine (impl_Packet_dataOk.calls k a0_0 a0_1 a0_2 a0_3 a0_4 a0_5 a0_6 _ _ l0_7 t11 _ (Kd.C_below HR0_7.out HB.out) HC0_7.out A12.out).mono ?_)
    rintro e w12_ ⟨rfl, hb⟩
    replace HS := aHs HS hb.size
    replace BK1 := aBb BK1 hb
    replace HB := aHB HB hb
    clear hb  Q1
    have Q1 := blk8_ BK1.out
    go_wp2
    go_ret
    exact ⟨rfl, HB.out⟩
   rw [if_neg hc11_] at H
   have hc11_b0 : (a0_6 == 0) = false := beq_eq_false_iff_ne.mpr hc11_
   have hc11_bn : (a0_6 != 0) = true := bne_iff_ne.mpr hc11_
   replace H := Option.some.inj H
   subst H
   go_wp2
   go_ret
   exact ⟨rfl, HB.out⟩
  rw [if_neg hc7_] at H
  replace hc7_ := eq_false_of_ne_true hc7_
  subst hc7_
  by_cases hc12_ : a0_5 = 0
  case neg =>
   rw [if_neg hc12_] at H
   have hc12_b0 : (a0_5 == 0) = false := beq_eq_false_iff_ne.mpr hc12_
   have hc12_bn : (a0_5 != 0) = true := bne_iff_ne.mpr hc12_
   replace H := Option.some.inj H
   subst H
   go_wp2
   go_ret
   exact ⟨rfl, HB.out⟩
  rw [if_pos hc12_] at H
  have hc12_b0 : (a0_5 == 0) = true := beq_iff_eq.mpr hc12_
  have hc12_bn : (a0_5 != 0) = false := bne_eq_false_iff_eq.mpr hc12_
  replace hc12_ := A_.mk hc12_
  by_cases hc13_ : a0_0 = 6
  case pos =>
   rw [if_pos hc13_] at H
   have hc13_b0 : (a0_0 == 6) = true := beq_iff_eq.mpr hc13_
   have hc13_bn : (a0_0 != 6) = false := bne_eq_false_iff_eq.mpr hc13_
   replace hc13_ := A_.mk hc13_
   replace H := oa_ H
   obtain ⟨t12, A13, H⟩ := H
   replace H := A_.mk H
   go_wp2_with (fail)
   (with_reducible refine (impl_within.calls a0_6 0 2 t12 _ A13.out).mono ?_)
   rintro e w13_ ⟨rfl, hb⟩
   replace hb := Drawn0.below hb
   replace HS := aHs HS hb.size
   replace BK1 := aBb BK1 hb
   replace HB := aHB HB hb
   clear hb  Q1
   have Q1 := blk8_ BK1.out
   replace H := H.out
   by_cases hc14_ : t12 = true
   case pos =>
    rw [if_pos hc14_] at H
    subst hc14_
    replace H := oa_ H
    obtain ⟨t13, A14, H⟩ := H
    replace H := Option.some.inj H
    subst H
    go_wp2_with (fail)
    (with_reducible refine (impl_Packet_dataOk.calls k a0_0 a0_1 a0_2 a0_3 a0_4 a0_5 a0_6 _ _ l0_7 t13 _ (Kd.C_below HR0_7.out HB.out) HC0_7.out A14.out).mono ?_)
    rintro e w14_ ⟨rfl, hb⟩
    replace HS := aHs HS hb.size
    replace BK1 := aBb BK1 hb
    replace HB := aHB HB hb
    clear hb  Q1
    have Q1 := blk8_ BK1.out
    go_wp2
    go_ret
    exact ⟨rfl, HB.out⟩
   rw [if_neg hc14_] at H
   replace hc14_ := eq_false_of_ne_true hc14_
   subst hc14_
   replace H := Option.some.inj H
   subst H
   go_wp2
   go_ret
   exact ⟨rfl, HB.out⟩
  rw [if_neg hc13_] at H
  have hc13_b0 : (a0_0 == 6) = false := beq_eq_false_iff_ne.mpr hc13_
  have hc13_bn : (a0_0 != 6) = true := bne_iff_ne.mpr hc13_
  by_cases hc15_ : a0_6 = 0
  case pos =>
   rw [if_pos hc15_] at H
   have hc15_b0 : (a0_6 == 0) = true := beq_iff_eq.mpr hc15_
   have hc15_bn : (a0_6 != 0) = false := bne_eq_false_iff_eq.mpr hc15_
   replace hc15_ := A_.mk hc15_
   replace H := oa_ H
   obtain ⟨t14, A15, H⟩ := H
   replace H := Option.some.inj H
   subst H
   go_wp2_with (fail)
   (with_reducible refine (impl_Packet_dataOk.calls k a0_0 a0_1 a0_2 a0_3 a0_4 a0_5 a0_6 _ _ l0_7 t14 _ (Kd.C_below HR0_7.out HB.out) HC0_7.out A15.out).mono ?_)
   rintro e w15_ ⟨rfl, hb⟩
   replace HS := aHs HS hb.size
   replace BK1 := aBb BK1 hb
   replace HB := aHB HB hb
   clear hb  Q1
   have Q1 := blk8_ BK1.out
   go_wp2
   go_ret
   exact ⟨rfl, HB.out⟩
  rw [if_neg hc15_] at H
  have hc15_b0 : (a0_6 == 0) = false := beq_eq_false_iff_ne.mpr hc15_
  have hc15_bn : (a0_6 != 0) = true := bne_iff_ne.mpr hc15_
  replace H := Option.some.inj H
  subst H
  go_wp2
  go_ret
  exact ⟨rfl, HB.out⟩
 rw [if_neg hc5_] at H
 replace hc5_ := eq_false_of_ne_true hc5_
 subst hc5_
 by_cases hc16_ : a0_2 = 0
 case neg =>
  rw [if_neg hc16_] at H
  have hc16_b0 : (a0_2 == 0) = false := beq_eq_false_iff_ne.mpr hc16_
  have hc16_bn : (a0_2 != 0) = true := bne_iff_ne.mpr hc16_
  replace H := Option.some.inj H
  subst H
  go_wp2
  go_ret
  exact ⟨rfl, HB.out⟩
 rw [if_pos hc16_] at H
 have hc16_b0 : (a0_2 == 0) = true := beq_iff_eq.mpr hc16_
 have hc16_bn : (a0_2 != 0) = false := bne_eq_false_iff_eq.mpr hc16_
 replace hc16_ := A_.mk hc16_
 replace H := oa_ H
 obtain ⟨t15, A16, H⟩ := H
 replace H := A_.mk H
 go_wp2_with (fail)
 (with_reducible refine (impl_within.calls a0_0 3 6 t15 _ A16.out).mono ?_)
 rintro e w16_ ⟨rfl, hb⟩
 replace hb := Drawn0.below hb
 replace HS := aHs HS hb.size
 replace BK1 := aBb BK1 hb
 replace HB := aHB HB hb
 clear hb  Q1
 have Q1 := blk8_ BK1.out
 replace H := H.out
 by_cases hc17_ : t15 = true
 case pos =>
  rw [if_pos hc17_] at H
  subst hc17_
  replace H := oa_ H
  obtain ⟨t16, A17, H⟩ := H
  replace H := A_.mk H
  go_wp2_with (fail)
  (with_reducible refine (impl_within.calls a0_5 0 7 t16 _ A17.out).mono ?_)
  rintro e w17_ ⟨rfl, hb⟩
  replace hb := Drawn0.below hb
  replace HS := aHs HS hb.size
  replace BK1 := aBb BK1 hb
  replace HB := aHB HB hb
  clear hb  Q1
  have Q1 := blk8_ BK1.out
  replace H := H.out
  by_cases hc18_ : t16 = true
  case neg =>
   rw [if_neg hc18_] at H
   replace hc18_ := eq_false_of_ne_true hc18_
   subst hc18_
   replace H := Option.some.inj H
   subst H
   go_wp2
   go_ret
   exact ⟨rfl, HB.out⟩
  rw [if_pos hc18_] at H
  subst hc18_
  by_cases hc19_ : a0_0 = 6
  case pos =>
   rw [if_pos hc19_] at H
   have hc19_b0 : (a0_0 == 6) = true := beq_iff_eq.mpr hc19_
   have hc19_bn : (a0_0 != 6) = false := bne_eq_false_iff_eq.mpr hc19_
   replace hc19_ := A_.mk hc19_
   replace H := oa_ H
   obtain ⟨t17, A18, H⟩ := H
   replace H := A_.mk H
   go_wp2_with (fail)
   (with_reducible refine (impl_within.calls a0_6 0 2 t17 _ A18.out).mono ?_)
   rintro e w18_ ⟨rfl, hb⟩
   replace hb := Drawn0.below hb
   replace HS := aHs HS hb.size
   replace BK1 := aBb BK1 hb
   replace HB := aHB HB hb
   clear hb  Q1
   have Q1 := blk8_ BK1.out
   replace H := H.out
   by_cases hc20_ : t17 = true
   case pos =>
    rw [if_pos hc20_] at H
    subst hc20_
    replace H := oa_ H
    obtain ⟨t18, A19, H⟩ := H
    replace H := Option.some.inj H
    subst H
    go_wp2_with (fail)
    (with_reducible refine (impl_Packet_dataOk.calls k a0_0 a0_1 a0_2 a0_3 a0_4 a0_5 a0_6 _ _ l0_7 t18 _ (Kd.C_below HR0_7.out HB.out) HC0_7.out A19.out).mono ?_)
    rintro e w19_ ⟨rfl, hb⟩
    replace HS := aHs HS hb.size
    replace BK1 := aBb BK1 hb
    replace HB := aHB HB hb
    clear hb  Q1
    have Q1 := blk8_ BK1.out
    go_wp2
    go_ret
    exact ⟨rfl, HB.out⟩
   rw [if_neg hc20_] at H
   replace hc20_ := eq_false_of_ne_true hc20_
   subst hc20_
   replace H := Option.some.inj H
   subst H
   go_wp2
   go_ret
   exact ⟨rfl, HB.out⟩
  rw [if_neg hc19_] at H
  have hc19_b0 : (a0_0 == 6) = false := beq_eq_false_iff_ne.mpr hc19_
  have hc19_bn : (a0_0 != 6) = true := bne_iff_ne.mpr hc19_
  by_cases hc21_ : a0_6 = 0
  case pos =>
   rw [if_pos hc21_] at H
   have hc21_b0 : (a0_6 == 0) = true := beq_iff_eq.mpr hc21_
   have hc21_bn : (a0_6 != 0) = false := bne_eq_false_iff_eq.mpr hc21_
   replace hc21_ := A_.mk hc21_
   replace H := oa_ H
   obtain ⟨t19, A20, H⟩ := H
   replace H := Option.some.inj H
   subst H
   go_wp2_with (fail)
   (with_reducible refine (impl_Packet_dataOk.calls k a0_0 a0_1 a0_2 a0_3 a0_4 a0_5 a0_6 _ _ l0_7 t19 _ (Kd.C_below HR0_7.out HB.out) HC0_7.out A20.out).mono ?_)
   rintro e w20_ ⟨rfl, hb⟩
   replace HS := aHs HS hb.size
   replace BK1 := aBb BK1 hb
   replace HB := aHB HB hb
   clear hb  Q1
   have Q1 := blk8_ BK1.out
   go_wp2
   go_ret
   exact ⟨rfl, HB.out⟩
  rw [if_neg hc21_] at H
  have hc21_b0 : (a0_6 == 0) = false := beq_eq_false_iff_ne.mpr hc21_
  have hc21_bn : (a0_6 != 0) = true := bne_iff_ne.mpr hc21_
  replace H := Option.some.inj H
  subst H
  go_wp2
  go_ret
  exact ⟨rfl, HB.out⟩
 rw [if_neg hc17_] at H
 replace hc17_ := eq_false_of_ne_true hc17_
 subst hc17_
 by_cases hc22_ : a0_5 = 0
 case neg =>
  rw [if_neg hc22_] at H
  have hc22_b0 : (a0_5 == 0) = false := beq_eq_false_iff_ne.mpr hc22_
  have hc22_bn : (a0_5 != 0) = true := bne_iff_ne.mpr hc22_
  replace H := Option.some.inj H
  subst H
  go_wp2
  go_ret
  exact ⟨rfl, HB.out⟩
 rw [if_pos hc22_] at H
 have hc22_b0 : (a0_5 == 0) = true := beq_iff_eq.mpr hc22_
 have hc22_bn : (a0_5 != 0) = false := bne_eq_false_iff_eq.mpr hc22_
 replace hc22_ := A_.mk hc22_
 by_cases hc23_ : a0_0 = 6
 case pos =>
  rw [if_pos hc23_] at H
  have hc23_b0 : (a0_0 == 6) = true := beq_iff_eq.mpr hc23_
  have hc23_bn : (a0_0 != 6) = false := bne_eq_false_iff_eq.mpr hc23_
  replace hc23_ := A_.mk hc23_
  replace H := oa_ H
  obtain ⟨t20, A21, H⟩ := H
  replace H := A_.mk H
  go_wp2_with (fail)
  (with_reducible refine (impl_within.calls a0_6 0 2 t20 _ A21.out).mono ?_)
  rintro e w21_ ⟨rfl, hb⟩
  replace hb := Drawn0.below hb
  replace HS := aHs HS hb.size
  replace BK1 := aBb BK1 hb
  replace HB := aHB HB hb
  clear hb  Q1
  have Q1 := blk8_ BK1.out
  replace H := H.out
  by_cases hc24_ : t20 = true
  case pos =>
   rw [if_pos hc24_] at H
   subst hc24_
   replace H := oa_ H
   obtain ⟨t21, A22, H⟩ := H
   replace H := Option.some.inj H
   subst H
   go_wp2_with (fail)
   (with_reducible refine (impl_Packet_dataOk.calls k a0_0 a0_1 a0_2 a0_3 a0_4 a0_5 a0_6 _ _ l0_7 t21 _ (Kd.C_below HR0_7.out HB.out) HC0_7.out A22.out).mono ?_)
   rintro e w22_ ⟨rfl, hb⟩
   replace HS := aHs HS hb.size
   replace BK1 := aBb BK1 hb
   replace HB := aHB HB hb
   clear hb  Q1
   have Q1 := blk8_ BK1.out
   go_wp2
   go_ret
   exact ⟨rfl, HB.out⟩
  rw [if_neg hc24_] at H
  replace hc24_ := eq_false_of_ne_true hc24_
  subst hc24_
  replace H := Option.some.inj H
  subst H
  go_wp2
  go_ret
  exact ⟨rfl, HB.out⟩
 rw [if_neg hc23_] at H
 have hc23_b0 : (a0_0 == 6) = false := beq_eq_false_iff_ne.mpr hc23_
 have hc23_bn : (a0_0 != 6) = true := bne_iff_ne.mpr hc23_
 by_cases hc25_ : a0_6 = 0
 case pos =>
  rw [if_pos hc25_] at H
  have hc25_b0 : (a0_6 == 0) = true := beq_iff_eq.mpr hc25_
  have hc25_bn : (a0_6 != 0) = false := bne_eq_false_iff_eq.mpr hc25_
  replace hc25_ := A_.mk hc25_
  replace H := oa_ H
  obtain ⟨t22, A23, H⟩ := H
  replace H := Option.some.inj H
  subst H
  go_wp2_with (fail)
  (with_reducible refine (impl_Packet_dataOk.calls k a0_0 a0_1 a0_2 a0_3 a0_4 a0_5 a0_6 _ _ l0_7 t22 _ (Kd.C_below HR0_7.out HB.out) HC0_7.out A23.out).mono ?_)
  rintro e w23_ ⟨rfl, hb⟩
  replace HS := aHs HS hb.size
  replace BK1 := aBb BK1 hb
  replace HB := aHB HB hb
  clear hb  Q1
  have Q1 := blk8_ BK1.out
  go_wp2
  go_ret
  exact ⟨rfl, HB.out⟩
 rw [if_neg hc25_] at H
 have hc25_b0 : (a0_6 == 0) = false := beq_eq_false_iff_ne.mpr hc25_
 have hc25_bn : (a0_6 != 0) = true := bne_iff_ne.mpr hc25_
 replace H := Option.some.inj H
 subst H
 go_wp2
 go_ret
 exact ⟨rfl, HB.out⟩
/-! ### impl_classOf: function 83 -/
def impl_classOf.j0 : Nat → Int → Bool → Option (Int)
 | 0, _, _ => none
 | k + 1, x3, x4 => if x4 = true then (some 0) else (if x3 = 6 then (some 2) else (some 1))
def impl_classOf.f (k : Nat) (a0 : Int) : Option (Int) := if a0 = 1 then (impl_classOf.j0 k a0 (a0 == 1)) else (impl_classOf.j0 k a0 (a0 == 2))
set_option maxHeartbeats 8000000 in
set_option maxRecDepth 100000 in
theorem impl_classOf.calls (k : Nat) (a0 : Int) (r : Int) (w : World) (h : impl_classOf.f k a0 = some r) :
  Calls Try.prog 83 #[.int .i64 a0] w fun e w' => e = .returned (.int .i64 r) ∧ Drawn0 w w' := by
 have H : (if a0 = 1 then (impl_classOf.j0 k a0 (a0 == 1)) else (impl_classOf.j0 k a0 (a0 == 2))) = some r := h
 clear h
 have HC2 := A_.mk H
 clear H
 go_enter Try.func83, Try.ntmps83
 go_upto_if 4 with (fail)
 go_cut [4] (fun v4 wc => ∃ (kq : Nat) (x4_1 : Bool), v4 = .bool x4_1 ∧ A_ (impl_classOf.j0 kq a0 x4_1 = some r) ∧ A_ (kq ≤ k) ∧ Drawn0 w wc)
 case first =>
  have H := HC2.out
  clear HC2
  by_cases c3 : a0 = 1
  ·rw [if_pos c3] at H
   have c3b0 : (a0 == 1) = true := beq_iff_eq.mpr c3
   have c3b1 : (a0 != 1) = false := bne_eq_false_iff_eq.mpr c3
   clear c3
   (first | rw [c3b0] | (simp only [i64_w, i32_w]; rw [c3b0]) | skip)
   have H' := A_.mk H
   clear H
   go_wp2
   go_meet
   case rel => exact ⟨_, ((a0 == 1)), (by first | rfl | (simp; done) | (simp [*]; done)), H', ⟨by first | omega | exact Nat.le_refl _⟩, by repeat (first | exact Drawn0.refl _ | apply Drawn0.step)⟩
  ·rw [if_neg c3] at H
   have c3b0 : (a0 == 1) = false := beq_eq_false_iff_ne.mpr c3
   have c3b1 : (a0 != 1) = true := bne_iff_ne.mpr c3
   (first | rw [c3b0] | (simp only [i64_w, i32_w]; rw [c3b0]) | skip)
   have H' := A_.mk H
   clear H
   go_wp2
   go_meet
   case rel => exact ⟨_, ((a0 == 2)), (by first | rfl | (simp; done) | (simp [*]; done)), H', ⟨by first | omega | exact Nat.le_refl _⟩, by repeat (first | exact Drawn0.refl _ | apply Drawn0.step)⟩
 case rest =>
  clear HC2
  obtain ⟨kq, x4_1, rfl, HA, HJ1, ⟨mc1, rfl⟩⟩ := hcut
  cases kq with
  | zero => exact absurd HA.out (by simp [impl_classOf.j0])
  | succ kj1 =>
   have H := HA.out
   clear HA
   simp only [impl_classOf.j0] at H
   by_cases c4 : x4_1 = true
   ·subst c4
    have H1 : (some 0) = some r := by rw [if_pos rfl] at H; exact H
    clear H
    have H := H1
    clear H1
    obtain rfl := Option.some.inj H
    go_wp2
    go_ret
    exact ⟨by first | rfl | (simp; done) | (simp [*]; done), by repeat (first | exact Drawn0.refl _ | apply Drawn0.step)⟩
   ·replace c4 := Bool.eq_false_iff.mpr c4
    subst c4
    have H1 : (if a0 = 6 then (some 2) else (some 1)) = some r := by rw [if_neg (show ¬ (false = true) by decide)] at H; exact H
    clear H
    have H := H1
    clear H1
    by_cases c5 : a0 = 6
    ·rw [if_pos c5] at H
     have c5b0 : (a0 == 6) = true := beq_iff_eq.mpr c5
     have c5b1 : (a0 != 6) = false := bne_eq_false_iff_eq.mpr c5
     clear c5
     obtain rfl := Option.some.inj H
     go_wp2
     go_ret
     exact ⟨by first | rfl | (simp; done) | (simp [*]; done), by repeat (first | exact Drawn0.refl _ | apply Drawn0.step)⟩
    ·rw [if_neg c5] at H
     have c5b0 : (a0 == 6) = false := beq_eq_false_iff_ne.mpr c5
     have c5b1 : (a0 != 6) = true := bne_iff_ne.mpr c5
     obtain rfl := Option.some.inj H
     go_wp2
     go_ret
     exact ⟨by first | rfl | (simp; done) | (simp [*]; done), by repeat (first | exact Drawn0.refl _ | apply Drawn0.step)⟩

/-! ### impl_ClassOf: function 44, its calls in a row -/
def impl_ClassOf.f (k : Nat) (a0_0 : Int) (a0_1 : Int) (a0_2 : Int) (a0_3 : Int) (a0_4 : Int) (a0_5 : Int) (a0_6 : Int) (l0_7 : List Int) : Option ((Int)) := ((impl_IsPacket.f k a0_0 a0_1 a0_2 a0_3 a0_4 a0_5 a0_6 l0_7).bind fun t1 => (if t1 = true then ((impl_classOf.f k a0_0).bind fun t2 => (some (t2))) else (some (-1))))
set_option maxHeartbeats 8000000 in
set_option maxRecDepth 100000 in
theorem impl_ClassOf.calls (k : Nat) (a0_0 : Int) (a0_1 : Int) (a0_2 : Int) (a0_3 : Int) (a0_4 : Int) (a0_5 : Int) (a0_6 : Int) (A0_7 : Option Addr) (c0_7 : Nat) (l0_7 : List Int) (r : Int) (w : World) (hr0_7 : Kd.C (Kd.int .i64) w A0_7 l0_7.length l0_7) (hc0_7 : l0_7.length ≤ c0_7) (h : impl_ClassOf.f k a0_0 a0_1 a0_2 a0_3 a0_4 a0_5 a0_6 l0_7 = some r) :
  Calls Try.prog 44 #[.agg #[.int .i64 a0_0, .int .i64 a0_1, .int .i64 a0_2, .int .i64 a0_3, .int .i64 a0_4, .int .i64 a0_5, .int .i64 a0_6, .slice A0_7 l0_7.length c0_7]] w fun e w' => e = .returned (.int .i64 r) ∧ Below w.heap.size w w' := by
 have HR0_7 := A_.mk hr0_7
 have HC0_7 := A_.mk hc0_7
 clear hr0_7 hc0_7
 have HB := A_.mk (Below.refl w.heap.size w)
 unfold impl_ClassOf.f at h
 have H := h
 clear h
 replace H := oa_ H
 obtain ⟨t1, A2, H⟩ := H
 replace H := A_.mk H
 have hu38 := Try.underlying38
 go_enter Try.func44, Try.ntmps44
 have HS := A_.mk (Nat.le_refl w.heap.size)
 go_wp2_with (first | ((with_reducible refine gd_ (N := 1) rfl ?_); refine by_ 1 (cs := #[.int .i64 a0_0, .int .i64 a0_1, .int .i64 a0_2, .int .i64 a0_3, .int .i64 a0_4, .int .i64 a0_5, .int .i64 a0_6, .slice A0_7 l0_7.length c0_7]) (t := 38) ?_; intro gb1_ hg w1_ hbox hb; replace HS := A_.mk (And.intro HS.out (show gb1_ = w.heap.size ∧ gb1_ < w1_.heap.size from ⟨hg, blk_lt hbox⟩)); replace HB := aHB HB hb; have BK1 := A_.mk hbox; clear hbox hb hg; have Q1 := blk8_ BK1.out))
 (with_reducible refine (impl_IsPacket.calls k a0_0 a0_1 a0_2 a0_3 a0_4 a0_5 a0_6 _ _ l0_7 t1 _ (Kd.C_below HR0_7.out HB.out) HC0_7.out A2.out).mono ?_)
 rintro e w2_ ⟨rfl, hb⟩
 replace HS := aHs HS hb.size
 replace BK1 := aBb BK1 hb
 replace HB := aHB HB hb
 clear hb  Q1
 have Q1 := blk8_ BK1.out
 replace H := H.out
 by_cases hc1_ : t1 = true
 case pos =>
  rw [if_pos hc1_] at H
  subst hc1_
  replace H := oa_ H
  obtain ⟨t2, A3, H⟩ := H
  replace H := Option.some.inj H
  subst H
  go_wp2_with (fail)
  (with_reducible refine (impl_classOf.calls k a0_0 t2 _ A3.out).mono ?_)
  rintro e w3_ ⟨rfl, hb⟩
  replace hb := Drawn0.below hb
  replace HS := aHs HS hb.size
  replace BK1 := aBb BK1 hb
  replace HB := aHB HB hb
  clear hb  Q1
  have Q1 := blk8_ BK1.out
  go_wp2
  go_ret
  exact ⟨rfl, HB.out⟩
 rw [if_neg hc1_] at H
 replace hc1_ := eq_false_of_ne_true hc1_
 subst hc1_
 replace H := Option.some.inj H
 subst H
 go_wp2
 go_ret
 exact ⟨rfl, HB.out⟩


end Go.Proofs.Ytlombfmebinjbaa.PFnExactTellCredits
