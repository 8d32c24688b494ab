-- Written by a program of this session (wip/xp): not trusted, Lean checks it.
import Derived.Test.YtlombfmebinjbaaPFnExactTellCreditsx0
import Derived.Test.YtlombfmebinjbaaPFnExactTellCreditsx1
import Derived.Test.YtlombfmebinjbaaPFnExactTellCreditsx6
import Derived.Test.YtlombfmebinjbaaPFnExactTellCreditsx7
namespace Go.Proofs.Ytlombfmebinjbaa.PFnExactTellCredits
open Go.RowKit Go.Proofs.YtlombfmebinjbaaW.PrintWords Go.Proofs.YtlombfmebinjbaaW.PrintLast Go.Proofs.YtlombfmebinjbaaW.PrintMore
attribute [local go_sem] max2_int min2_int max_two min_two max_three min_three max_four min_four   -- for this text's walks alone
set_option linter.unusedVariables false
set_option linter.unusedSimpArgs false

/-! ### spec_IsPacket: function 74, its calls in a row -/
def spec_IsPacket.f (k : Nat) (a0_0 : Int) (a0_1 : Int) (a0_2 : Int) (a0_3 : Int) (a0_4 : Int) (a0_5 : Int) (a0_6 : Int) (l0_7 : List Int) : Option ((Bool)) := ((spec_IsId.f a0_1).bind fun t1 => (if t1 = true then ((spec_l04Words.f k l0_7).bind fun t2 => (if t2 = true then (if a0_0 = 1 then ((spec_l01In.f (l0_7.length : Int) 1 8).bind fun t3 => (if t3 = true then ((spec_l01In.f a0_3 0 (wrap64 (65536 - (l0_7.length : Int)))).bind fun t4 => (if t4 = true then (if a0_6 = 0 then ((spec_l04Zero.f k a0_0 a0_1 a0_2 a0_3 a0_4 a0_5 a0_6 l0_7 false false false).bind fun t5 => (some (t5))) else (some (false))) else (some (false)))) else (some (false)))) else (if a0_0 = 2 then ((spec_l01In.f (l0_7.length : Int) 1 8).bind fun t6 => (if t6 = true then (if a0_3 = 0 then (if a0_6 = 0 then ((spec_l04Zero.f k a0_0 a0_1 a0_2 a0_3 a0_4 a0_5 a0_6 l0_7 false false false).bind fun t7 => (some (t7))) else (some (false))) else (some (false))) else (some (false)))) else (if a0_0 = 3 then (if (l0_7.length : Int) = 0 then ((spec_l01In.f a0_4 1 64).bind fun t8 => (if t8 = true then ((spec_l01In.f a0_3 0 (wrap64 (65536 - a0_4))).bind fun t9 => (if t9 = true then ((spec_l01In.f a0_5 0 7).bind fun t10 => (if t10 = true then (if a0_6 = 0 then ((spec_l04Zero.f k a0_0 a0_1 a0_2 a0_3 a0_4 a0_5 a0_6 l0_7 false true true).bind fun t11 => (some (t11))) else (some (false))) else (some (false)))) else (some (false)))) else (some (false)))) else (some (false))) else (if a0_0 = 4 then (if (l0_7.length : Int) = 0 then ((spec_l01In.f a0_3 0 63).bind fun t12 => (if t12 = true then ((spec_IsId.f a0_2).bind fun t13 => (if t13 = true then ((spec_l01In.f a0_5 0 7).bind fun t14 => (if t14 = true then (if a0_6 = 0 then ((spec_l04Zero.f k a0_0 a0_1 a0_2 a0_3 a0_4 a0_5 a0_6 l0_7 true false true).bind fun t15 => (some (t15))) else (some (false))) else (some (false)))) else (some (false)))) else (some (false)))) else (some (false))) else (if a0_0 = 5 then (if (l0_7.length : Int) = 1 then ((spec_l01In.f a0_3 0 63).bind fun t16 => (if t16 = true then ((spec_IsId.f a0_2).bind fun t17 => (if t17 = true then ((spec_l01In.f a0_5 0 7).bind fun t18 => (if t18 = true then (if a0_6 = 0 then ((spec_l04Zero.f k a0_0 a0_1 a0_2 a0_3 a0_4 a0_5 a0_6 l0_7 true false true).bind fun t19 => (some (t19))) else (some (false))) else (some (false)))) else (some (false)))) else (some (false)))) else (some (false))) else (if a0_0 = 6 then (if a0_3 = 0 then ((spec_IsId.f a0_2).bind fun t20 => (if t20 = true then ((spec_l01In.f a0_5 0 7).bind fun t21 => (if t21 = true then ((spec_l01In.f a0_6 0 2).bind fun t22 => (if t22 = true then ((spec_l01In.f a0_4 0 64).bind fun t23 => (if t23 = true then (if (l0_7.length : Int) = 0 then (some (true)) else (if a0_6 = 0 then (if (l0_7.length : Int) ≤ (mn 8 a0_4) then (some (true)) else (some (false))) else (some (false)))) else (some (false)))) else (some (false)))) else (some (false)))) else (some (false)))) else (some (false))) else (some (false)))))))) else (some (false)))) else (some (false))))
set_option maxHeartbeats 8000000 in
set_option maxRecDepth 100000 in
theorem spec_IsPacket.calls (k : Nat) (a0_0 : Int) (a0_1 : Int) (a0_2 : Int) (a0_3 : Int) (a0_4 : Int) (a0_5 : Int) (a0_6 : Int) (A0_7 : Option Addr) (c0_7 : Nat) (l0_7 : List Int) (r : Bool) (w : World) (hr0_7 : Kd.C (Kd.int .i64) w A0_7 l0_7.length l0_7) (hc0_7 : l0_7.length ≤ c0_7) (h : spec_IsPacket.f k a0_0 a0_1 a0_2 a0_3 a0_4 a0_5 a0_6 l0_7 = some r) :
  Calls Try.prog 74 #[.agg #[.int .i64 a0_0, .int .i64 a0_1, .int .i64 a0_2, .int .i64 a0_3, .int .i64 a0_4, .int .i64 a0_5, .int .i64 a0_6, .slice A0_7 l0_7.length c0_7]] w fun e w' => e = .returned (.bool r) ∧ Below w.heap.size w w' := by
 have HR0_7 := A_.mk hr0_7
 have HC0_7 := A_.mk hc0_7
 clear hr0_7 hc0_7
 have HB := A_.mk (Below.refl w.heap.size w)
 unfold spec_IsPacket.f at h
 have H := h
 clear h
 replace H := oa_ H
 obtain ⟨t1, A2, H⟩ := H
 replace H := A_.mk H
 have hu38 := Try.underlying38
 go_enter Try.func74, Try.ntmps74
 have HS := A_.mk (Nat.le_refl w.heap.size)
 go_wp2_with (first | ((with_reducible refine gd_ (N := 1) rfl ?_); refine by_ 1 (cs := #[.int .i64 a0_0, .int .i64 a0_1, .int .i64 a0_2, .int .i64 a0_3, .int .i64 a0_4, .int .i64 a0_5, .int .i64 a0_6, .slice A0_7 l0_7.length c0_7]) (t := 38) ?_; intro gb1_ hg w1_ hbox hb; replace HS := A_.mk (And.intro HS.out (show gb1_ = w.heap.size ∧ gb1_ < w1_.heap.size from ⟨hg, blk_lt hbox⟩)); replace HB := aHB HB hb; have BK1 := A_.mk hbox; clear hbox hb hg; have Q1 := blk8_ BK1.out))
 (with_reducible refine (spec_IsId.calls a0_1 t1 _ A2.out).mono ?_)
 rintro e w2_ ⟨rfl, hb⟩
 replace hb := Drawn0.below hb
 replace HS := aHs HS hb.size
 replace BK1 := aBb BK1 hb
 replace HB := aHB HB hb
 clear hb  Q1
 have Q1 := blk8_ BK1.out
 replace H := H.out
 by_cases hc1_ : t1 = true
 case neg =>
  rw [if_neg hc1_] at H
  replace hc1_ := eq_false_of_ne_true hc1_
  subst hc1_
  replace H := Option.some.inj H
  subst H
  go_wp2
  go_ret
  exact ⟨rfl, HB.out⟩
 rw [if_pos hc1_] at H
 subst hc1_
 replace H := oa_ H
 obtain ⟨t2, A3, H⟩ := H
 replace H := A_.mk H
 go_wp2_with (fail)
 (with_reducible refine (spec_l04Words.calls k _ _ l0_7 t2 _ (Kd.C_below HR0_7.out HB.out) HC0_7.out A3.out).mono ?_)
 rintro e w3_ ⟨rfl, hb⟩
 replace hb := Drawn0.below hb
 replace HS := aHs HS hb.size
 replace BK1 := aBb BK1 hb
 replace HB := aHB HB hb
 clear hb  Q1
 have Q1 := blk8_ BK1.out
 replace H := H.out
 by_cases hc2_ : t2 = true
 case neg =>
  rw [if_neg hc2_] at H
  replace hc2_ := eq_false_of_ne_true hc2_
  subst hc2_
  replace H := Option.some.inj H
  subst H
  go_wp2
  go_ret
  exact ⟨rfl, HB.out⟩
 rw [if_pos hc2_] at H
 subst hc2_
 by_cases hc3_ : a0_0 = 1
 case pos =>
  rw [if_pos hc3_] at H
  have hc3_b0 : (a0_0 == 1) = true := beq_iff_eq.mpr hc3_
  have hc3_bn : (a0_0 != 1) = false := bne_eq_false_iff_eq.mpr hc3_
  replace hc3_ := A_.mk hc3_
  replace H := oa_ H
  obtain ⟨t3, A4, H⟩ := H
  replace H := A_.mk H
  go_wp2_with (fail)
  (with_reducible refine (spec_l01In.calls (l0_7.length : Int) 1 8 t3 _ A4.out).mono ?_)
  rintro e w4_ ⟨rfl, hb⟩
  replace hb := Drawn0.below hb
  replace HS := aHs HS hb.size
  replace BK1 := aBb BK1 hb
  replace HB := aHB HB hb
  clear hb  Q1
  have Q1 := blk8_ BK1.out
  replace H := H.out
  by_cases hc4_ : t3 = true
  case neg =>
   rw [if_neg hc4_] at H
   replace hc4_ := eq_false_of_ne_true hc4_
   subst hc4_
   replace H := Option.some.inj H
   subst H
   go_wp2
   go_ret
   exact ⟨rfl, HB.out⟩
  rw [if_pos hc4_] at H
  subst hc4_
  replace H := oa_ H
  obtain ⟨t4, A5, H⟩ := H
  replace H := A_.mk H
  go_wp2_with (fail)
  (with_reducible refine (spec_l01In.calls a0_3 0 (wrap64 (65536 - (l0_7.length : Int))) t4 _ A5.out).mono ?_)
  rintro e w5_ ⟨rfl, hb⟩
  replace hb := Drawn0.below hb
  replace HS := aHs HS hb.size
  replace BK1 := aBb BK1 hb
  replace HB := aHB HB hb
  clear hb  Q1
  have Q1 := blk8_ BK1.out
  replace H := H.out
  by_cases hc5_ : t4 = true
  case neg =>
   rw [if_neg hc5_] at H
   replace hc5_ := eq_false_of_ne_true hc5_
   subst hc5_
   replace H := Option.some.inj H
   subst H
   go_wp2
   go_ret
   exact ⟨rfl, HB.out⟩
  rw [if_pos hc5_] at H
  subst hc5_
  by_cases hc6_ : a0_6 = 0
  case pos =>
   rw [if_pos hc6_] at H
   have hc6_b0 : (a0_6 == 0) = true := beq_iff_eq.mpr hc6_
   have hc6_bn : (a0_6 != 0) = false := bne_eq_false_iff_eq.mpr hc6_
   replace hc6_ := A_.mk hc6_
   replace H := oa_ H
   obtain ⟨t5, A6, H⟩ := H
   replace H := Option.some.inj H
   subst H
   go_wp2_with (fail)
   (with_reducible refine (spec_l04Zero.calls k a0_0 a0_1 a0_2 a0_3 a0_4 a0_5 a0_6 _ _ l0_7 false false false t5 _ (Kd.C_below HR0_7.out HB.out) HC0_7.out A6.out).mono ?_)
   rintro e w6_ ⟨rfl, hb⟩
   replace HS := aHs HS hb.size
   replace BK1 := aBb BK1 hb
   replace HB := aHB HB hb
   clear hb  Q1
   have Q1 := blk8_ BK1.out
   go_wp2
   go_ret
   exact ⟨rfl, HB.out⟩
  rw [if_neg hc6_] at H
  have hc6_b0 : (a0_6 == 0) = false := beq_eq_false_iff_ne.mpr hc6_
  have hc6_bn : (a0_6 != 0) = true := bne_iff_ne.mpr hc6_
  replace H := Option.some.inj H
  subst H
  go_wp2
  go_ret
  exact ⟨rfl, HB.out⟩
 rw [if_neg hc3_] at H
 have hc3_b0 : (a0_0 == 1) = false := beq_eq_false_iff_ne.mpr hc3_
 have hc3_bn : (a0_0 != 1) = true := bne_iff_ne.mpr hc3_
 by_cases hc7_ : a0_0 = 2
 case pos =>
  rw [if_pos hc7_] at H
  have hc7_b0 : (a0_0 == 2) = true := beq_iff_eq.mpr hc7_
  have hc7_bn : (a0_0 != 2) = false := bne_eq_false_iff_eq.mpr hc7_
  replace hc7_ := A_.mk hc7_
  replace H := oa_ H
  obtain ⟨t6, A7, H⟩ := H
  replace H := A_.mk H
  go_wp2_with (fail)
  (with_reducible refine (spec_l01In.calls (l0_7.length : Int) 1 8 t6 _ A7.out).mono ?_)
  rintro e w7_ ⟨rfl, hb⟩
  replace hb := Drawn0.below hb
  replace HS := aHs HS hb.size
  replace BK1 := aBb BK1 hb
  replace HB := aHB HB hb
  clear hb  Q1
  have Q1 := blk8_ BK1.out
  replace H := H.out
  by_cases hc8_ : t6 = true
  case neg =>
   rw [if_neg hc8_] at H
   replace hc8_ := eq_false_of_ne_true hc8_
   subst hc8_
   replace H := Option.some.inj H
   subst H
   go_wp2
   go_ret
   exact ⟨rfl, HB.out⟩
  rw [if_pos hc8_] at H
  subst hc8_
  by_cases hc9_ : a0_3 = 0
  case neg =>
   rw [if_neg hc9_] at H
   have hc9_b0 : (a0_3 == 0) = false := beq_eq_false_iff_ne.mpr hc9_
   have hc9_bn : (a0_3 != 0) = true := bne_iff_ne.mpr hc9_
   replace H := Option.some.inj H
   subst H
   go_wp2
   go_ret
   exact ⟨rfl, HB.out⟩
  rw [if_pos hc9_] at H
  have hc9_b0 : (a0_3 == 0) = true := beq_iff_eq.mpr hc9_
  have hc9_bn : (a0_3 != 0) = false := bne_eq_false_iff_eq.mpr hc9_
  replace hc9_ := A_.mk hc9_
  by_cases hc10_ : a0_6 = 0
  case pos =>
   rw [if_pos hc10_] at H
   have hc10_b0 : (a0_6 == 0) = true := beq_iff_eq.mpr hc10_
   have hc10_bn : (a0_6 != 0) = false := bne_eq_false_iff_eq.mpr hc10_
   replace hc10_ := A_.mk hc10_
   replace H := oa_ H
   obtain ⟨t7, A8, H⟩ := H
   replace H := Option.some.inj H
   subst H
   go_wp2_with (fail)
   (with_reducible refine (spec_l04Zero.calls k a0_0 a0_1 a0_2 a0_3 a0_4 a0_5 a0_6 _ _ l0_7 false false false t7 _ (Kd.C_below HR0_7.out HB.out) HC0_7.out A8.out).mono ?_)
   rintro e w8_ ⟨rfl, hb⟩
   replace HS := aHs HS hb.size
   replace BK1 := aBb BK1 hb
   replace HB := aHB HB hb
   clear hb  Q1
   have Q1 := blk8_ BK1.out
   go_wp2
   go_ret
   exact ⟨rfl, HB.out⟩
  rw [if_neg hc10_] at H
  have hc10_b0 : (a0_6 == 0) = false := beq_eq_false_iff_ne.mpr hc10_
  have hc10_bn : (a0_6 != 0) = true := bne_iff_ne.mpr hc10_
  replace H := Option.some.inj H
  subst H
  go_wp2
  go_ret
  exact ⟨rfl, HB.out⟩
 rw [if_neg hc7_] at H
 have hc7_b0 : (a0_0 == 2) = false := beq_eq_false_iff_ne.mpr hc7_
 have hc7_bn : (a0_0 != 2) = true := bne_iff_ne.mpr hc7_
 by_cases hc11_ : a0_0 = 3
 case pos =>
  rw [if_pos hc11_] at H
  have hc11_b0 : (a0_0 == 3) = true := beq_iff_eq.mpr hc11_
  have hc11_bn : (a0_0 != 3) = false := bne_eq_false_iff_eq.mpr hc11_
  replace hc11_ := A_.mk hc11_
  by_cases hc12_ : (l0_7.length : Int) = 0
  case neg =>
   rw [if_neg hc12_] at H
   have hc12_b0 : ((l0_7.length : Int) == 0) = false := beq_eq_false_iff_ne.mpr hc12_
   have hc12_bn : ((l0_7.length : Int) != 0) = true := bne_iff_ne.mpr hc12_
   have hc12_b1 : (l0_7.length == 0) = false := by first | simpa using hc12_ | (simp at hc12_ ⊢; omega)
   replace H := Option.some.inj H
   subst H
   go_wp2
   go_ret
   exact ⟨rfl, HB.out⟩
  rw [if_pos hc12_] at H
  have hc12_b0 : ((l0_7.length : Int) == 0) = true := beq_iff_eq.mpr hc12_
  have hc12_bn : ((l0_7.length : Int) != 0) = false := bne_eq_false_iff_eq.mpr hc12_
  have hc12_b1 : (l0_7.length == 0) = true := by first | simpa using hc12_ | (simp at hc12_ ⊢; omega)
  replace hc12_ := A_.mk hc12_
  replace H := oa_ H
  obtain ⟨t8, A9, H⟩ := H
  replace H := A_.mk H
  go_wp2_with (fail)
  (with_reducible refine (spec_l01In.calls a0_4 1 64 t8 _ A9.out).mono ?_)
  rintro e w9_ ⟨rfl, hb⟩
  replace hb := Drawn0.below hb
  replace HS := aHs HS hb.size
  replace BK1 := aBb BK1 hb
  replace HB := aHB HB hb
  clear hb  Q1
  have Q1 := blk8_ BK1.out
  replace H := H.out
  by_cases hc13_ : t8 = true
  case neg =>
   rw [if_neg hc13_] at H
   replace hc13_ := eq_false_of_ne_true hc13_
   subst hc13_
   replace H := Option.some.inj H
   subst H
   go_wp2
   go_ret
   exact ⟨rfl, HB.out⟩
  rw [if_pos hc13_] at H
  subst hc13_
  replace H := oa_ H
  obtain ⟨t9, A10, H⟩ := H
  replace H := A_.mk H
  go_wp2_with (fail)
  (with_reducible refine (spec_l01In.calls a0_3 0 (wrap64 (65536 - a0_4)) t9 _ A10.out).mono ?_)
  rintro e w10_ ⟨rfl, hb⟩
  replace hb := Drawn0.below hb
  replace HS := aHs HS hb.size
  replace BK1 := aBb BK1 hb
  replace HB := aHB HB hb
  clear hb  Q1
  have Q1 := blk8_ BK1.out
  replace H := H.out
  by_cases hc14_ : t9 = true
  case neg =>
   rw [if_neg hc14_] at H
   replace hc14_ := eq_false_of_ne_true hc14_
   subst hc14_
   replace H := Option.some.inj H
   subst H
   go_wp2
   go_ret
   exact ⟨rfl, HB.out⟩
  rw [if_pos hc14_] at H
  subst hc14_
  replace H := oa_ H
  obtain ⟨t10, A11, H⟩ := H
  replace H := A_.mk H
  go_wp2_with (fail)
  (with_reducible refine (spec_l01In.calls a0_5 0 7 t10 _ A11.out).mono ?_)
  rintro e w11_ ⟨rfl, hb⟩
  replace hb := Drawn0.below hb
  replace HS := aHs HS hb.size
  replace BK1 := aBb BK1 hb
  replace HB := aHB HB hb
  clear hb  Q1
  have Q1 := blk8_ BK1.out
  replace H := H.out
  by_cases hc15_ : t10 = true
  case neg =>
   rw [if_neg hc15_] at H
   replace hc15_ := eq_false_of_ne_true hc15_
   subst hc15_
   replace H := Option.some.inj H
   subst H
   go_wp2
   go_ret
   exact ⟨rfl, HB.out⟩
  rw [if_pos hc15_] at H
  subst hc15_
  by_cases hc16_ : a0_6 = 0
  case pos =>
   rw [if_pos hc16_] at H
   have hc16_b0 : (a0_6 == 0) = true := beq_iff_eq.mpr hc16_
   have hc16_bn : (a0_6 != 0) = false := bne_eq_false_iff_eq.mpr hc16_
   replace hc16_ := A_.mk hc16_
   replace H := oa_ H
   obtain ⟨t11, A12, H⟩ := H
   replace H := Option.some.inj H
   subst H
   go_wp2_with (fail)
   (with_reducible refine (spec_l04Zero.calls k a0_0 a0_1 a0_2 a0_3 a0_4 a0_5 a0_6 _ _ l0_7 false true true t11 _ (Kd.C_below HR0_7.out HB.out) HC0_7.out A12.out).mono ?_)
   rintro e w12_ ⟨rfl, hb⟩
   replace HS := aHs HS hb.size
   replace BK1 := aBb BK1 hb
   replace HB := aHB HB hb
   clear hb  Q1
   have Q1 := blk8_ BK1.out
   go_wp2
   go_ret
   exact ⟨rfl, HB.out⟩
  rw [if_neg hc16_] at H
  have hc16_b0 : (a0_6 == 0) = false := beq_eq_false_iff_ne.mpr hc16_
  have hc16_bn : (a0_6 != 0) = true := bne_iff_ne.mpr hc16_
  replace H := Option.some.inj H
  subst H
  go_wp2
  go_ret
  exact ⟨rfl, HB.out⟩
 rw [if_neg hc11_] at H
 have hc11_b0 : (a0_0 == 3) = false := beq_eq_false_iff_ne.mpr hc11_
 have hc11_bn : (a0_0 != 3) = true := bne_iff_ne.mpr hc11_
 by_cases hc17_ : a0_0 = 4
 case pos =>
  rw [if_pos hc17_] at H
  have hc17_b0 : (a0_0 == 4) = true := beq_iff_eq.mpr hc17_
  have hc17_bn : (a0_0 != 4) = false := bne_eq_false_iff_eq.mpr hc17_
  replace hc17_ := A_.mk hc17_
  by_cases hc18_ : (l0_7.length : Int) = 0
  case neg =>
   rw [if_neg hc18_] at H
   have hc18_b0 : ((l0_7.length : Int) == 0) = false := beq_eq_false_iff_ne.mpr hc18_
   have hc18_bn : ((l0_7.length : Int) != 0) = true := bne_iff_ne.mpr hc18_
   have hc18_b1 : (l0_7.length == 0) = false := by first | simpa using hc18_ | (simp at hc18_ ⊢; omega)
   replace H := Option.some.inj H
   subst H
   go_wp2
   go_ret
   exact ⟨rfl, HB.out⟩
  rw [if_pos hc18_] at H
  have hc18_b0 : ((l0_7.length : Int) == 0) = true := beq_iff_eq.mpr hc18_
  have hc18_bn : ((l0_7.length : Int) != 0) = false := bne_eq_false_iff_eq.mpr hc18_
  have hc18_b1 : (l0_7.length == 0) = true := by first | simpa using hc18_ | (simp at hc18_ ⊢; omega)
  replace hc18_ := A_.mk hc18_
  replace H := oa_ H
  obtain ⟨t12, A13, H⟩ := H
  replace H := A_.mk H
  go_wp2_with (fail)
  (with_reducible refine (spec_l01In.calls a0_3 0 63 t12 _ A13.out).mono ?_)
  rintro e w13_ ⟨rfl, hb⟩
  replace hb := Drawn0.below hb
  replace HS := aHs HS hb.size
  replace BK1 := aBb BK1 hb
  replace HB := aHB HB hb
  clear hb  Q1
  have Q1 := blk8_ BK1.out
  replace H := H.out
  by_cases hc19_ : t12 = true
  case neg =>
   rw [if_neg hc19_] at H
   replace hc19_ := eq_false_of_ne_true hc19_
   subst hc19_
   replace H := Option.some.inj H
   subst H
   go_wp2
   go_ret
   exact ⟨rfl, HB.out⟩
  rw [if_pos hc19_] at H
  subst hc19_
  replace H := oa_ H
  obtain ⟨t13, A14, H⟩ := H
  replace H := A_.mk H
  go_wp2_with (fail)
  (with_reducible refine (spec_IsId.calls a0_2 t13 _ A14.out).mono ?_)
  rintro e w14_ ⟨rfl, hb⟩
  replace hb := Drawn0.below hb
  replace HS := aHs HS hb.size
  replace BK1 := aBb BK1 hb
  replace HB := aHB HB hb
  clear hb  Q1
  have Q1 := blk8_ BK1.out
  replace H := H.out
  by_cases hc20_ : t13 = true
  case neg =>
   rw [if_neg hc20_] at H
   replace hc20_ := eq_false_of_ne_true hc20_
   subst hc20_
   replace H := Option.some.inj H
   subst H
   go_wp2
   go_ret
   exact ⟨rfl, HB.out⟩
  rw [if_pos hc20_] at H
  subst hc20_
  replace H := oa_ H
  obtain ⟨t14, A15, H⟩ := H
  replace H := A_.mk H
  go_wp2_with (fail)
  (with_reducible refine (spec_l01In.calls a0_5 0 7 t14 _ A15.out).mono ?_)
  rintro e w15_ ⟨rfl, hb⟩
  replace hb := Drawn0.below hb
  replace HS := aHs HS hb.size
  replace BK1 := aBb BK1 hb
  replace HB := aHB HB hb
  clear hb  Q1
  have Q1 := blk8_ BK1.out
  replace H := H.out
  by_cases hc21_ : t14 = true
  case neg =>
   rw [if_neg hc21_] at H
   replace hc21_ := eq_false_of_ne_true hc21_
   subst hc21_
   replace H := Option.some.inj H
   subst H
   go_wp2
   go_ret
   exact ⟨rfl, HB.out⟩
  rw [if_pos hc21_] at H
  subst hc21_
  by_cases hc22_ : a0_6 = 0
  case pos =>
   rw [if_pos hc22_] at H
   have hc22_b0 : (a0_6 == 0) = true := beq_iff_eq.mpr hc22_
   have hc22_bn : (a0_6 != 0) = false := bne_eq_false_iff_eq.mpr hc22_
   replace hc22_ := A_.mk hc22_
   replace H := oa_ H
   obtain ⟨t15, A16, H⟩ := H
   replace H := Option.some.inj H
   subst H
   go_wp2_with (fail)
   (with_reducible refine (spec_l04Zero.calls k a0_0 a0_1 a0_2 a0_3 a0_4 a0_5 a0_6 _ _ l0_7 true false true t15 _ (Kd.C_below HR0_7.out HB.out) HC0_7.out A16.out).mono ?_)
   rintro e w16_ ⟨rfl, hb⟩
   replace HS := aHs HS hb.size
   replace BK1 := aBb BK1 hb
   replace HB := aHB HB hb
   clear hb  Q1
   have Q1 := blk8_ BK1.out
   go_wp2
   go_ret
   exact ⟨rfl, HB.out⟩
  rw [if_neg hc22_] at H
  have hc22_b0 : (a0_6 == 0) = false := beq_eq_false_iff_ne.mpr hc22_
  have hc22_bn : (a0_6 != 0) = true := bne_iff_ne.mpr hc22_
  replace H := Option.some.inj H
  subst H
  go_wp2
  go_ret
  exact ⟨rfl, HB.out⟩
 rw [if_neg hc17_] at H
 have hc17_b0 : (a0_0 == 4) = false := beq_eq_false_iff_ne.mpr hc17_
 have hc17_bn : (a0_0 != 4) = true := bne_iff_ne.mpr hc17_
 by_cases hc23_ : a0_0 = 5
 case pos =>
  rw [if_pos hc23_] at H
  have hc23_b0 : (a0_0 == 5) = true := beq_iff_eq.mpr hc23_
  have hc23_bn : (a0_0 != 5) = false := bne_eq_false_iff_eq.mpr hc23_
  replace hc23_ := A_.mk hc23_
  by_cases hc24_ : (l0_7.length : Int) = 1
  case neg =>
   rw [if_neg hc24_] at H
   have hc24_b0 : ((l0_7.length : Int) == 1) = false := beq_eq_false_iff_ne.mpr hc24_
   have hc24_bn : ((l0_7.length : Int) != 1) = true := bne_iff_ne.mpr hc24_
   have hc24_b1 : (l0_7.length == 1) = false := by first | simpa using hc24_ | (simp at hc24_ ⊢; omega)
   replace H := Option.some.inj H
   subst H
   go_wp2
   go_ret
   exact ⟨rfl, HB.out⟩
  rw [if_pos hc24_] at H
  have hc24_b0 : ((l0_7.length : Int) == 1) = true := beq_iff_eq.mpr hc24_
  have hc24_bn : ((l0_7.length : Int) != 1) = false := bne_eq_false_iff_eq.mpr hc24_
  have hc24_b1 : (l0_7.length == 1) = true := by first | simpa using hc24_ | (simp at hc24_ ⊢; omega)
  replace hc24_ := A_.mk hc24_
  replace H := oa_ H
  obtain ⟨t16, A17, H⟩ := H
  replace H := A_.mk H
  go_wp2_with (fail)
  (with_reducible refine (spec_l01In.calls a0_3 0 63 t16 _ A17.out).mono ?_)
  rintro e w17_ ⟨rfl, hb⟩
  replace hb := Drawn0.below hb
  replace HS := aHs HS hb.size
  replace BK1 := aBb BK1 hb
  replace HB := aHB HB hb
  clear hb  Q1
  have Q1 := blk8_ BK1.out
  replace H := H.out
  by_cases hc25_ : t16 = true
  case neg =>
   rw [if_neg hc25_] at H
   replace hc25_ := eq_false_of_ne_true hc25_
   subst hc25_
   replace H := Option.some.inj H
   subst H
   go_wp2
   go_ret
   exact ⟨rfl, HB.out⟩
  rw [if_pos hc25_] at H
  subst hc25_
  replace H := oa_ H
  obtain ⟨t17, A18, H⟩ := H
  replace H := A_.mk H
  go_wp2_with (fail)
  (with_reducible refine (spec_IsId.calls a0_2 t17 _ A18.out).mono ?_)
  rintro e w18_ ⟨rfl, hb⟩
  replace hb := Drawn0.below hb
  replace HS := aHs HS hb.size
  replace BK1 := aBb BK1 hb
  replace HB := aHB HB hb
  clear hb  Q1
  have Q1 := blk8_ BK1.out
  replace H := H.out
  by_cases hc26_ : t17 = true
  case neg =>
   rw [if_neg hc26_] at H
   replace hc26_ := eq_false_of_ne_true hc26_
   subst hc26_
   replace H := Option.some.inj H
   subst H
   go_wp2
   go_ret
   exact ⟨rfl, HB.out⟩
  rw [if_pos hc26_] at H
  subst hc26_
  replace H := oa_ H
  obtain ⟨t18, A19, H⟩ := H
  replace H := A_.mk H
  go_wp2_with (fail)
  (with_reducible refine (spec_l01In.calls a0_5 0 7 t18 _ A19.out).mono ?_)
  rintro e w19_ ⟨rfl, hb⟩
  replace hb := Drawn0.below hb
  replace HS := aHs HS hb.size
  replace BK1 := aBb BK1 hb
  replace HB := aHB HB hb
  clear hb  Q1
  have Q1 := blk8_ BK1.out
  replace H := H.out
  by_cases hc27_ : t18 = true
  case neg =>
   rw [if_neg hc27_] at H
   replace hc27_ := eq_false_of_ne_true hc27_
   subst hc27_
   replace H := Option.some.inj H
   subst H
   go_wp2
   go_ret
   exact ⟨rfl, HB.out⟩
  rw [if_pos hc27_] at H
  subst hc27_
  by_cases hc28_ : a0_6 = 0
  case pos =>
   rw [if_pos hc28_] at H
   have hc28_b0 : (a0_6 == 0) = true := beq_iff_eq.mpr hc28_
   have hc28_bn : (a0_6 != 0) = false := bne_eq_false_iff_eq.mpr hc28_
   replace hc28_ := A_.mk hc28_
   replace H := oa_ H
   obtain ⟨t19, A20, H⟩ := H
   replace H := Option.some.inj H
   subst H
   go_wp2_with (fail)
   (with_reducible refine (spec_l04Zero.calls k a0_0 a0_1 a0_2 a0_3 a0_4 a0_5 a0_6 _ _ l0_7 true false true t19 _ (Kd.C_below HR0_7.out HB.out) HC0_7.out A20.out).mono ?_)
   rintro e w20_ ⟨rfl, hb⟩
   replace HS := aHs HS hb.size
   replace BK1 := aBb BK1 hb
   replace HB := aHB HB hb
   clear hb  Q1
   have Q1 := blk8_ BK1.out
   go_wp2
   go_ret
   exact ⟨rfl, HB.out⟩
  rw [if_neg hc28_] at H
  have hc28_b0 : (a0_6 == 0) = false := beq_eq_false_iff_ne.mpr hc28_
  have hc28_bn : (a0_6 != 0) = true := bne_iff_ne.mpr hc28_
  replace H := Option.some.inj H
  subst H
  go_wp2
  go_ret
  exact ⟨rfl, HB.out⟩
 rw [if_neg hc23_] at H
 have hc23_b0 : (a0_0 == 5) = false := beq_eq_false_iff_ne.mpr hc23_
 have hc23_bn : (a0_0 != 5) = true := bne_iff_ne.mpr hc23_
 by_cases hc29_ : a0_0 = 6
 case neg =>
  rw [if_neg hc29_] at H
  have hc29_b0 : (a0_0 == 6) = false := beq_eq_false_iff_ne.mpr hc29_
  have hc29_bn : (a0_0 != 6) = true := bne_iff_ne.mpr hc29_
  replace H := Option.some.inj H
  subst H
  go_wp2
  go_ret
  exact ⟨rfl, HB.out⟩
 rw [if_pos hc29_] at H
 have hc29_b0 : (a0_0 == 6) = true := beq_iff_eq.mpr hc29_
 have hc29_bn : (a0_0 != 6) = false := bne_eq_false_iff_eq.mpr hc29_
 replace hc29_ := A_.mk hc29_
 by_cases hc30_ : a0_3 = 0
 case neg =>
  rw [if_neg hc30_] at H
  have hc30_b0 : (a0_3 == 0) = false := beq_eq_false_iff_ne.mpr hc30_
  have hc30_bn : (a0_3 != 0) = true := bne_iff_ne.mpr hc30_
  replace H := Option.some.inj H
  subst H
  go_wp2
  go_ret
  exact ⟨rfl, HB.out⟩
 rw [if_pos hc30_] at H
 have hc30_b0 : (a0_3 == 0) = true := beq_iff_eq.mpr hc30_
 have hc30_bn : (a0_3 != 0) = false := bne_eq_false_iff_eq.mpr hc30_
 replace hc30_ := A_.mk hc30_
 replace H := oa_ H
 obtain ⟨t20, A21, H⟩ := H
 replace H := A_.mk H
 go_wp2_with (fail)
 (with_reducible refine (spec_IsId.calls a0_2 t20 _ A21.out).mono ?_)
 rintro e w21_ ⟨rfl, hb⟩
 replace hb := Drawn0.below hb
 replace HS := aHs HS hb.size
 replace BK1 := aBb BK1 hb
 replace HB := aHB HB hb
 clear hb  Q1
 have Q1 := blk8_ BK1.out
 replace H := H.out
 by_cases hc31_ : t20 = true
 case neg =>
  rw [if_neg hc31_] at H
  replace hc31_ := eq_false_of_ne_true hc31_
  subst hc31_
  replace H := Option.some.inj H
  subst H
  go_wp2
  go_ret
  exact ⟨rfl, HB.out⟩
 rw [if_pos hc31_] at H
 subst hc31_
 replace H := oa_ H
 obtain ⟨t21, A22, H⟩ := H
 replace H := A_.mk H
 go_wp2_with (fail)
 (with_reducible refine (spec_l01In.calls a0_5 0 7 t21 _ A22.out).mono ?_)
 rintro e w22_ ⟨rfl, hb⟩
 replace hb := Drawn0.below hb
 replace HS := aHs HS hb.size
 replace BK1 := aBb BK1 hb
 replace HB := aHB HB hb
 clear hb  Q1
 have Q1 := blk8_ BK1.out
 replace H := H.out
 by_cases hc32_ : t21 = true
 case neg =>
  rw [if_neg hc32_] at H
  replace hc32_ := eq_false_of_ne_true hc32_
  subst hc32_
  replace H := Option.some.inj H
  subst H
  go_wp2
  go_ret
  exact ⟨rfl, HB.out⟩
 rw [if_pos hc32_] at H
 subst hc32_
 replace H := oa_ H
 obtain ⟨t22, A23, H⟩ := H
 replace H := A_.mk H
 go_wp2_with (fail)
 (with_reducible refine (spec_l01In.calls a0_6 0 2 t22 _ A23.out).mono ?_)
 rintro e w23_ ⟨rfl, hb⟩
 replace hb := Drawn0.below hb
 replace HS := aHs HS hb.size
 replace BK1 := aBb BK1 hb
 replace HB := aHB HB hb
 clear hb  Q1
 have Q1 := blk8_ BK1.out
 replace H := H.out
 by_cases hc33_ : t22 = true
 case neg =>
  rw [if_neg hc33_] at H
  replace hc33_ := eq_false_of_ne_true hc33_
  subst hc33_
  replace H := Option.some.inj H
  subst H
  go_wp2
  go_ret
  exact ⟨rfl, HB.out⟩
 rw [if_pos hc33_] at H
 subst hc33_
 replace H := oa_ H
 obtain ⟨t23, A24, H⟩ := H
 replace H := A_.mk H
 go_wp2_with (fail)
 (with_reducible refine (spec_l01In.calls a0_4 0 64 t23 _ A24.out).mono ?_)
 rintro e w24_ ⟨rfl, hb⟩
 replace hb := Drawn0.below hb
 replace HS := aHs HS hb.size
 replace BK1 := aBb BK1 hb
 replace HB := aHB HB hb
 clear hb  Q1
 have Q1 := blk8_ BK1.out
 replace H := H.out
 by_cases hc34_ : t23 = true
 case neg =>
  rw [if_neg hc34_] at H
  replace hc34_ := eq_false_of_ne_true hc34_
  subst hc34_
  replace H := Option.some.inj H
  subst H
  go_wp2
  go_ret
  exact ⟨rfl, HB.out⟩
 rw [if_pos hc34_] at H
 subst hc34_
 by_cases hc35_ : (l0_7.length : Int) = 0
 case pos =>
  rw [if_pos hc35_] at H
  have hc35_b0 : ((l0_7.length : Int) == 0) = true := beq_iff_eq.mpr hc35_
  have hc35_bn : ((l0_7.length : Int) != 0) = false := bne_eq_false_iff_eq.mpr hc35_
  have hc35_b1 : (l0_7.length == 0) = true := by first | simpa using hc35_ | (simp at hc35_ ⊢; omega)
  replace hc35_ := A_.mk hc35_
  replace H := Option.some.inj H
  subst H
  go_wp2
  go_ret
  exact ⟨rfl, HB.out⟩
 rw [if_neg hc35_] at H
 have hc35_b0 : ((l0_7.length : Int) == 0) = false := beq_eq_false_iff_ne.mpr hc35_
 have hc35_bn : ((l0_7.length : Int) != 0) = true := bne_iff_ne.mpr hc35_
 have hc35_b1 : (l0_7.length == 0) = false := by first | simpa using hc35_ | (simp at hc35_ ⊢; omega)
 by_cases hc36_ : a0_6 = 0
 case neg =>
  rw [if_neg hc36_] at H
  have hc36_b0 : (a0_6 == 0) = false := beq_eq_false_iff_ne.mpr hc36_
  have hc36_bn : (a0_6 != 0) = true := bne_iff_ne.mpr hc36_
  replace H := Option.some.inj H
  subst H
  go_wp2
  go_ret
  exact ⟨rfl, HB.out⟩
 rw [if_pos hc36_] at H
 have hc36_b0 : (a0_6 == 0) = true := beq_iff_eq.mpr hc36_
 have hc36_bn : (a0_6 != 0) = false := bne_eq_false_iff_eq.mpr hc36_
 replace hc36_ := A_.mk hc36_
 obtain ⟨ji24, hji24⟩ : ∃ q_, q_ = (mn 8 a0_4) := ⟨_, rfl⟩
 rw [← hji24] at H
 replace hji24 : (if a0_4 < 8 then a0_4 else 8) = ji24 := hji24.symm
 by_cases hc37_ : (l0_7.length : Int) ≤ ji24
 case pos =>
  rw [if_pos hc37_] at H
  have hc37_b0 : decide ((l0_7.length : Int) ≤ ji24) = true := decide_eq_true hc37_
  have hc37_b1 : decide (l0_7.length ≤ ji24) = true := decide_eq_true (by omega)
  replace H := Option.some.inj H
  subst H
  go_wp2
  go_ret
  exact ⟨rfl, HB.out⟩
 rw [if_neg hc37_] at H
 have hc37_b0 : decide ((l0_7.length : Int) ≤ ji24) = false := decide_eq_false hc37_
 have hc37_b1 : decide (l0_7.length ≤ ji24) = false := decide_eq_false (by omega)
 replace H := Option.some.inj H
 subst H
 go_wp2
 go_ret
 exact ⟨rfl, HB.out⟩
end Go.Proofs.Ytlombfmebinjbaa.PFnExactTellCredits
