-- Written by a program of this session (wip/xp): not trusted, Lean checks it.
import Derived.Test.YtlombfmebinjbaaPFnExactTellCreditsx0
import Derived.Test.YtlombfmebinjbaaPFnExactTellCreditsx1
import Derived.Test.YtlombfmebinjbaaPFnExactTellCreditsx2
import Derived.Test.YtlombfmebinjbaaPFnExactTellCreditsx3
import Derived.Test.YtlombfmebinjbaaPFnExactTellCreditsx4
import Derived.Test.YtlombfmebinjbaaPFnExactTellCreditsx6
import Derived.Test.YtlombfmebinjbaaPFnExactTellCreditsx13
import Derived.Test.YtlombfmebinjbaaPFnExactTellCreditsx20
namespace Go.Proofs.Ytlombfmebinjbaa.PFnExactTellCredits
open Go.RowKit Go.Proofs.YtlombfmebinjbaaW.PrintWords Go.Proofs.YtlombfmebinjbaaW.PrintLast Go.Proofs.YtlombfmebinjbaaW.PrintMore
attribute [local go_sem] max2_int min2_int max_two min_two max_three min_three max_four min_four   -- for this text's walks alone
set_option linter.unusedVariables false
set_option linter.unusedSimpArgs false

/-! ### laws_FnExactTellCredits: function 5, all its calls in a row -/
def laws_FnExactTellCredits.f (k : Nat) (l0_0 : List Int) (l0_1 : List Int) (l0_2 : List Int) (l0_3 : List Int) (l0_4 : List (S47)) (l0_5 : List (S47)) : Option (Bool) := ((laws_szChannel.f k l0_0 l0_1 l0_2 l0_3 l0_4 l0_5 1048576).bind fun t1 => (if t1 < 0 then (some true) else ((laws_toChannel.f k l0_0 l0_1 l0_2 l0_3 l0_4 l0_5).bind fun ⟨t2, t3, t4, t5, t6, t7⟩ => ((spec_TellCredits.f k t2 t3 t4 t5 t6 t7).bind fun ⟨t8, t9, t10, t11, t12, t13, t14⟩ => ((laws_toChannel.f k l0_0 l0_1 l0_2 l0_3 l0_4 l0_5).bind fun ⟨t15, t16, t17, t18, t19, t20⟩ => ((impl_TellCredits.f k t15 t16 t17 t18 t19 t20).bind fun ⟨t21, t22, t23, t24, t25, t26, t27⟩ => ((laws_eqChannel.f k t21 t22 t23 t24 t25 t26 t8 t9 t10 t11 t12 t13).bind fun t28 => (if t28 = true then (if t27 = t14 then ((laws_toChannel.f k l0_0 l0_1 l0_2 l0_3 l0_4 l0_5).bind fun ⟨t29, t30, t31, t32, t33, t34⟩ => ((laws_eqChannel.f k t15 t16 t17 t18 t19 t20 t29 t30 t31 t32 t33 t34).bind fun t35 => (if t35 = true then ((laws_markChannel.f k t15 t16 t17 t18 t19 t20 1).bind fun ⟨t36, t37, t38, t39, t40, t41, t42⟩ => (if t36 < 0 then (some false) else ((laws_eqChannel.f k t21 t22 t23 t24 t25 t26 t8 t9 t10 t11 t12 t13).bind fun t43 => (if t43 = true then ((laws_markChannel.f k t21 t22 t23 t24 t25 t26 1).bind fun ⟨t44, t45, t46, t47, t48, t49, t50⟩ => ((laws_heldChannel.f k t45 t46 t47 t48 t49 t50 1).bind fun t51 => (if t51 < 0 then (some false) else (if t51 = t44 then ((laws_toChannel.f k l0_0 l0_1 l0_2 l0_3 l0_4 l0_5).bind fun ⟨t52, t53, t54, t55, t56, t57⟩ => ((impl_TellCredits.f k t52 t53 t54 t55 t56 t57).bind fun ⟨t58, t59, t60, t61, t62, t63, t64⟩ => ((laws_eqChannel.f k t58 t59 t60 t61 t62 t63 t8 t9 t10 t11 t12 t13).bind fun t65 => (if t65 = true then (if t64 = t14 then ((laws_heldChannel.f k t45 t46 t47 t48 t49 t50 1).bind fun t66 => (if t66 < 0 then (some false) else (if t66 = t44 then (some true) else (some false)))) else (some false)) else (some false))))) else (some false))))) else (some false))))) else (some false)))) else (some false)) else (some false)))))))))
set_option maxHeartbeats 8000000 in
set_option maxRecDepth 100000 in
theorem laws_FnExactTellCredits.calls (k : Nat) (A0_0 : Option Addr) (c0_0 : Nat) (l0_0 : List Int) (A0_1 : Option Addr) (c0_1 : Nat) (l0_1 : List Int) (A0_2 : Option Addr) (c0_2 : Nat) (l0_2 : List Int) (A0_3 : Option Addr) (c0_3 : Nat) (l0_3 : List Int) (A0_4 : Option Addr) (c0_4 : Nat) (l0_4 : List (S47)) (A0_5 : Option Addr) (c0_5 : Nat) (l0_5 : List (S47)) (r : Bool) (w : World) (hr0_0 : Kd.C (Kd.int .i64) w A0_0 l0_0.length l0_0) (hc0_0 : l0_0.length ≤ c0_0) (hr0_1 : Kd.C (Kd.int .i64) w A0_1 l0_1.length l0_1) (hc0_1 : l0_1.length ≤ c0_1) (hr0_2 : Kd.C (Kd.int .i64) w A0_2 l0_2.length l0_2) (hc0_2 : l0_2.length ≤ c0_2) (hr0_3 : Kd.C (Kd.int .i64) w A0_3 l0_3.length l0_3) (hc0_3 : l0_3.length ≤ c0_3) (hr0_4 : Kd.C k47 w A0_4 l0_4.length l0_4) (hc0_4 : l0_4.length ≤ c0_4) (hr0_5 : Kd.C k47 w A0_5 l0_5.length l0_5) (hc0_5 : l0_5.length ≤ c0_5) (hrt : A_ (r = true)) (h : laws_FnExactTellCredits.f k l0_0 l0_1 l0_2 l0_3 l0_4 l0_5 = some r) :
  Calls Try.prog 5 #[.agg #[.slice A0_0 l0_0.length c0_0, .slice A0_1 l0_1.length c0_1, .slice A0_2 l0_2.length c0_2, .slice A0_3 l0_3.length c0_3, .slice A0_4 l0_4.length c0_4, .slice A0_5 l0_5.length c0_5]] w fun e w' => e = .returned (.bool r) ∧ Below w.heap.size w w' := by
 have HR0_0 := A_.mk hr0_0
 have HC0_0 := A_.mk hc0_0
 clear hr0_0 hc0_0
 have HR0_1 := A_.mk hr0_1
 have HC0_1 := A_.mk hc0_1
 clear hr0_1 hc0_1
 have HR0_2 := A_.mk hr0_2
 have HC0_2 := A_.mk hc0_2
 clear hr0_2 hc0_2
 have HR0_3 := A_.mk hr0_3
 have HC0_3 := A_.mk hc0_3
 clear hr0_3 hc0_3
 have HR0_4 := A_.mk hr0_4
 have HC0_4 := A_.mk hc0_4
 clear hr0_4 hc0_4
 have HR0_5 := A_.mk hr0_5
 have HC0_5 := A_.mk hc0_5
 clear hr0_5 hc0_5
 obtain rfl := hrt.out
 clear hrt
 have HB := A_.mk (Below.refl w.heap.size w)
 unfold laws_FnExactTellCredits.f at h
 have H := h
 clear h
 replace H := oa_ H
 obtain ⟨t1, A2, H⟩ := H
 replace H := A_.mk H
 have hu27 := Try.underlying27
 have hu33 := Try.underlying33
 go_enter Try.func5, Try.ntmps5
 have HS := A_.mk (Nat.le_refl w.heap.size)
 go_wp2_with (first | ((with_reducible refine gd_ (N := 1) rfl ?_); refine by_ 1 (cs := #[.slice A0_0 l0_0.length c0_0, .slice A0_1 l0_1.length c0_1, .slice A0_2 l0_2.length c0_2, .slice A0_3 l0_3.length c0_3, .slice A0_4 l0_4.length c0_4, .slice A0_5 l0_5.length c0_5]) (t := 27) ?_; intro gb1_ hg w1_ hbox hb; replace HS := A_.mk (And.intro HS.out (show gb1_ = w.heap.size ∧ gb1_ < w1_.heap.size from ⟨hg, blk_lt hbox⟩)); replace HB := aHB HB hb; have BK1 := A_.mk hbox; clear hbox hb hg; have Q1 := blk6_ BK1.out))
 (with_reducible refine (laws_szChannel.calls k _ _ l0_0 _ _ l0_1 _ _ l0_2 _ _ l0_3 _ _ l0_4 _ _ l0_5 1048576 t1 _ (Kd.C_below HR0_0.out HB.out) HC0_0.out (Kd.C_below HR0_1.out HB.out) HC0_1.out (Kd.C_below HR0_2.out HB.out) HC0_2.out (Kd.C_below HR0_3.out HB.out) HC0_3.out (Kd.C_below HR0_4.out HB.out) HC0_4.out (Kd.C_below HR0_5.out HB.out) HC0_5.out A2.out).mono ?_)
 rintro e w2_ ⟨rfl, hb⟩
 replace HS := aHs HS hb.size
 replace BK1 := aBb BK1 hb
 replace HB := aHB HB hb
 clear hb  Q1
 have Q1 := blk6_ BK1.out
 replace H := H.out
 by_cases hc1_ : t1 < 0
 case pos =>
  rw [if_pos hc1_] at H
  have hc1_b0 : decide (t1 < 0) = true := decide_eq_true hc1_
  clear H
  go_wp2
  go_ret
  exact ⟨rfl, HB.out⟩
 rw [if_neg hc1_] at H
 have hc1_b0 : decide (t1 < 0) = false := decide_eq_false hc1_
 replace H := oa_ H
 obtain ⟨⟨t2, t3, t4, t5, t6, t7⟩, A3, H⟩ := H
 try dsimp only at H
 replace H := oa_ H
 obtain ⟨⟨t8, t9, t10, t11, t12, t13, t14⟩, A4, H⟩ := H
 try dsimp only at H
 replace H := oa_ H
 obtain ⟨⟨t15, t16, t17, t18, t19, t20⟩, A7, H⟩ := H
 try dsimp only at H
 replace H := oa_ H
 obtain ⟨⟨t21, t22, t23, t24, t25, t26, t27⟩, A10, H⟩ := H
 try dsimp only at H
 replace H := oa_ H
 obtain ⟨t28, A13, H⟩ := H
 replace H := A_.mk H
 go_wp2_with (first | ((with_reducible refine gc_ (f := 10) rfl ?_); refine gl_ (some 21) Try.func10 #[.agg #[.slice A0_0 l0_0.length c0_0, .slice A0_1 l0_1.length c0_1, .slice A0_2 l0_2.length c0_2, .slice A0_3 l0_3.length c0_3, .slice A0_4 l0_4.length c0_4, .slice A0_5 l0_5.length c0_5]] ?_; (with_reducible refine (laws_toChannel.calls k _ _ l0_0 _ _ l0_1 _ _ l0_2 _ _ l0_3 _ _ l0_4 _ _ l0_5 t2 t3 t4 t5 t6 t7 _ (Kd.C_below HR0_0.out HB.out) HC0_0.out (Kd.C_below HR0_1.out HB.out) HC0_1.out (Kd.C_below HR0_2.out HB.out) HC0_2.out (Kd.C_below HR0_3.out HB.out) HC0_3.out (Kd.C_below HR0_4.out HB.out) HC0_4.out (Kd.C_below HR0_5.out HB.out) HC0_5.out A3.out).mono ?_); rintro e w3_ ⟨f3_, v0_, v1_, v2_, v3_, v4_, v5_, rfl, ho0_, ho1_, ho2_, ho3_, ho4_, ho5_, hb⟩; refine ⟨_, rfl, ?_⟩; replace HS := aHs HS hb.size; obtain ⟨Ao3_0, co3_0, ev_⟩ := Kd.R_slice ho0_; subst ev_; have HO3_0 := aRn ho0_ HB.out.size; obtain ⟨Ao3_1, co3_1, ev_⟩ := Kd.R_slice ho1_; subst ev_; have HO3_1 := aRn ho1_ HB.out.size; obtain ⟨Ao3_2, co3_2, ev_⟩ := Kd.R_slice ho2_; subst ev_; have HO3_2 := aRn ho2_ HB.out.size; obtain ⟨Ao3_3, co3_3, ev_⟩ := Kd.R_slice ho3_; subst ev_; have HO3_3 := aRn ho3_ HB.out.size; obtain ⟨Ao3_4, co3_4, ev_⟩ := Kd.S_slice ho4_; subst ev_; have HO3_4 := aSn ho4_ HB.out.size; obtain ⟨Ao3_5, co3_5, ev_⟩ := Kd.S_slice ho5_; subst ev_; have HO3_5 := aSn ho5_ HB.out.size; replace BK1 := aBb BK1 hb; replace HB := aHB HB hb; clear hb ho0_ ho1_ ho2_ ho3_ ho4_ ho5_ Q1; have Q1 := blk6_ BK1.out) | ((with_reducible refine gc_ (f := 20) rfl ?_); refine gl_ (some 22) Try.func20 #[.agg #[.slice Ao3_0 t2.length co3_0, .slice Ao3_1 t3.length co3_1, .slice Ao3_2 t4.length co3_2, .slice Ao3_3 t5.length co3_3, .slice Ao3_4 t6.length co3_4, .slice Ao3_5 t7.length co3_5]] ?_; (with_reducible refine (spec_TellCredits.calls k _ _ t2 _ _ t3 _ _ t4 _ _ t5 (fun k_ => ((w2_.heap.size ≤ k_ ∧ k_ < w3_.heap.size) ∧ f3_ k_ = 4)) _ _ t6 (fun k_ => ((w2_.heap.size ≤ k_ ∧ k_ < w3_.heap.size) ∧ f3_ k_ = 5)) _ _ t7 t8 t9 t10 t11 t12 t13 t14 _ (Kd.R_reads' HO3_0.out).2.2 (Kd.R_reads' HO3_0.out).2.1 (Kd.R_reads' HO3_1.out).2.2 (Kd.R_reads' HO3_1.out).2.1 (Kd.R_reads' HO3_2.out).2.2 (Kd.R_reads' HO3_2.out).2.1 (Kd.R_reads' HO3_3.out).2.2 (Kd.R_reads' HO3_3.out).2.1 (Kd.S_V HO3_4.out) (Kd.S_V HO3_5.out) A4.out).mono ?_); rintro e w4_ ⟨v0_, v1_, v2_, v3_, v4_, v5_, rfl, ho0_, ho1_, ho2_, ho3_, ho4_, ho5_, hb⟩; refine ⟨_, rfl, ?_⟩; replace HS := aHs HS hb.size; obtain ⟨Ao4_0, co4_0, ev_⟩ := Kd.V_slice ho0_; subst ev_; have HO4_0 := aVm ho0_ HB.out.size; obtain ⟨Ao4_1, co4_1, ev_⟩ := Kd.V_slice ho1_; subst ev_; have HO4_1 := aVm ho1_ HB.out.size; obtain ⟨Ao4_2, co4_2, ev_⟩ := Kd.V_slice ho2_; subst ev_; have HO4_2 := aVm ho2_ HB.out.size; obtain ⟨Ao4_3, co4_3, ev_⟩ := Kd.V_slice ho3_; subst ev_; have HO4_3 := aVm ho3_ HB.out.size; obtain ⟨Ao4_4, co4_4, ev_⟩ := Kd.V_slice ho4_; subst ev_; have HO4_4 := aVm ho4_ HB.out.size; obtain ⟨Ao4_5, co4_5, ev_⟩ := Kd.V_slice ho5_; subst ev_; have HO4_5 := aVm ho5_ HB.out.size; replace HO3_0 := aRb HO3_0 hb; replace HO3_1 := aRb HO3_1 hb; replace HO3_2 := aRb HO3_2 hb; replace HO3_3 := aRb HO3_3 hb; replace HO3_4 := aSb HO3_4 hb; replace HO3_5 := aSb HO3_5 hb; replace BK1 := aBb BK1 hb; replace HB := aHB HB hb; clear hb ho0_ ho1_ ho2_ ho3_ ho4_ ho5_ Q1; have Q1 := blk6_ BK1.out) | ((with_reducible refine gd_ (N := 4) rfl ?_); refine by_ 4 (cs := #[.slice none 0 0, .slice none 0 0, .slice none 0 0, .slice none 0 0, .slice none 0 0, .slice none 0 0]) (t := 33) ?_; intro gb5_ hg w5_ hbox hb; replace HS := A_.mk (And.intro HS.out (show gb5_ = w4_.heap.size ∧ gb5_ < w5_.heap.size from ⟨hg, blk_lt hbox⟩)); replace HO4_0 := aVb HO4_0 hb; replace HO4_1 := aVb HO4_1 hb; replace HO4_2 := aVb HO4_2 hb; replace HO4_3 := aVb HO4_3 hb; replace HO4_4 := aVb HO4_4 hb; replace HO4_5 := aVb HO4_5 hb; replace BK1 := aBb BK1 hb; replace HB := aHB HB hb; have BK5 := A_.mk hbox; clear hbox hb hg Q1; have Q1 := blk6_ BK1.out; have Q5 := blk6_ BK5.out) | ((with_reducible refine gs_ (t := 33) (p := 4) rfl ?_); have qf0 := bf_ BK5.out 0; have qf1 := bf_ BK5.out 1; have qf2 := bf_ BK5.out 2; have qf3 := bf_ BK5.out 3; have qf4 := bf_ BK5.out 4; have qf5 := bf_ BK5.out 5; refine se_ (t := 33) (p := 4) (v := ?vo_6) (w1 := (ch6_ w5_ gb5_ (.slice Ao4_0 t8.length co4_0) (.slice Ao4_1 t9.length co4_1) (.slice Ao4_2 t10.length co4_2) (.slice Ao4_3 t11.length co4_3) (.slice Ao4_4 t12.length co4_4) (.slice Ao4_5 t13.length co4_5))) ?hg ?ho ?hn ?hr ?_; (case ho => rfl); (case hg => rfl); (case hn => rfl); (case hr => first | (go_simp; done) | (go_simp; rfl)); intro w6_ hw; clear qf0 qf1 qf2 qf3 qf4 qf5; obtain ⟨hbx, hkp, hbb⟩ := st6_ hw BK5 HB (by have := HS.out; omega); clear hw; replace HO4_0 := aVk HO4_0 hkp HS; replace HO4_1 := aVk HO4_1 hkp HS; replace HO4_2 := aVk HO4_2 hkp HS; replace HO4_3 := aVk HO4_3 hkp HS; replace HO4_4 := aVk HO4_4 hkp HS; replace HO4_5 := aVk HO4_5 hkp HS; replace BK1 := aBk BK1 hkp HS; replace BK5 := A_.mk hbx; replace HB := A_.mk hbb; replace HS := aHs HS hkp.1; clear hkp hbb hbx Q1 Q5; have Q1 := blk6_ BK1.out; have Q5 := blk6_ BK5.out) | ((with_reducible refine gc_ (f := 10) rfl ?_); refine gl_ (some 26) Try.func10 #[.agg #[.slice A0_0 l0_0.length c0_0, .slice A0_1 l0_1.length c0_1, .slice A0_2 l0_2.length c0_2, .slice A0_3 l0_3.length c0_3, .slice A0_4 l0_4.length c0_4, .slice A0_5 l0_5.length c0_5]] ?_; (with_reducible refine (laws_toChannel.calls k _ _ l0_0 _ _ l0_1 _ _ l0_2 _ _ l0_3 _ _ l0_4 _ _ l0_5 t15 t16 t17 t18 t19 t20 _ (Kd.C_below HR0_0.out HB.out) HC0_0.out (Kd.C_below HR0_1.out HB.out) HC0_1.out (Kd.C_below HR0_2.out HB.out) HC0_2.out (Kd.C_below HR0_3.out HB.out) HC0_3.out (Kd.C_below HR0_4.out HB.out) HC0_4.out (Kd.C_below HR0_5.out HB.out) HC0_5.out A7.out).mono ?_); rintro e w7_ ⟨f7_, v0_, v1_, v2_, v3_, v4_, v5_, rfl, ho0_, ho1_, ho2_, ho3_, ho4_, ho5_, hb⟩; refine ⟨_, rfl, ?_⟩; replace HS := aHs HS hb.size; obtain ⟨Ao7_0, co7_0, ev_⟩ := Kd.R_slice ho0_; subst ev_; have HO7_0 := aRn ho0_ HB.out.size; obtain ⟨Ao7_1, co7_1, ev_⟩ := Kd.R_slice ho1_; subst ev_; have HO7_1 := aRn ho1_ HB.out.size; obtain ⟨Ao7_2, co7_2, ev_⟩ := Kd.R_slice ho2_; subst ev_; have HO7_2 := aRn ho2_ HB.out.size; obtain ⟨Ao7_3, co7_3, ev_⟩ := Kd.R_slice ho3_; subst ev_; have HO7_3 := aRn ho3_ HB.out.size; obtain ⟨Ao7_4, co7_4, ev_⟩ := Kd.S_slice ho4_; subst ev_; have HO7_4 := aSn ho4_ HB.out.size; obtain ⟨Ao7_5, co7_5, ev_⟩ := Kd.S_slice ho5_; subst ev_; have HO7_5 := aSn ho5_ HB.out.size; replace HO4_0 := aVb HO4_0 hb; replace HO4_1 := aVb HO4_1 hb; replace HO4_2 := aVb HO4_2 hb; replace HO4_3 := aVb HO4_3 hb; replace HO4_4 := aVb HO4_4 hb; replace HO4_5 := aVb HO4_5 hb; replace BK1 := aBb BK1 hb; replace BK5 := aBb BK5 hb; replace HB := aHB HB hb; clear hb ho0_ ho1_ ho2_ ho3_ ho4_ ho5_ Q1 Q5; have Q1 := blk6_ BK1.out; have Q5 := blk6_ BK5.out) | ((with_reducible refine gd_ (N := 6) rfl ?_); refine by_ 6 (cs := #[.slice none 0 0, .slice none 0 0, .slice none 0 0, .slice none 0 0, .slice none 0 0, .slice none 0 0]) (t := 33) ?_; intro gb8_ hg w8_ hbox hb; replace HS := A_.mk (And.intro HS.out (show gb8_ = w7_.heap.size ∧ gb8_ < w8_.heap.size from ⟨hg, blk_lt hbox⟩)); replace HO4_0 := aVb HO4_0 hb; replace HO4_1 := aVb HO4_1 hb; replace HO4_2 := aVb HO4_2 hb; replace HO4_3 := aVb HO4_3 hb; replace HO4_4 := aVb HO4_4 hb; replace HO4_5 := aVb HO4_5 hb; replace HO7_0 := aRb HO7_0 hb; replace HO7_1 := aRb HO7_1 hb; replace HO7_2 := aRb HO7_2 hb; replace HO7_3 := aRb HO7_3 hb; replace HO7_4 := aSb HO7_4 hb; replace HO7_5 := aSb HO7_5 hb; replace BK1 := aBb BK1 hb; replace BK5 := aBb BK5 hb; replace HB := aHB HB hb; have BK8 := A_.mk hbox; clear hbox hb hg Q1 Q5; have Q1 := blk6_ BK1.out; have Q5 := blk6_ BK5.out; have Q8 := blk6_ BK8.out) | ((with_reducible refine gs_ (t := 33) (p := 6) rfl ?_); have qf0 := bf_ BK8.out 0; have qf1 := bf_ BK8.out 1; have qf2 := bf_ BK8.out 2; have qf3 := bf_ BK8.out 3; have qf4 := bf_ BK8.out 4; have qf5 := bf_ BK8.out 5; refine se_ (t := 33) (p := 6) (v := ?vo_9) (w1 := (ch6_ w8_ gb8_ (.slice Ao7_0 t15.length co7_0) (.slice Ao7_1 t16.length co7_1) (.slice Ao7_2 t17.length co7_2) (.slice Ao7_3 t18.length co7_3) (.slice Ao7_4 t19.length co7_4) (.slice Ao7_5 t20.length co7_5))) ?hg ?ho ?hn ?hr ?_; (case ho => rfl); (case hg => rfl); (case hn => rfl); (case hr => first | (go_simp; done) | (go_simp; rfl)); intro w9_ hw; clear qf0 qf1 qf2 qf3 qf4 qf5; obtain ⟨hbx, hkp, hbb⟩ := st6_ hw BK8 HB (by have := HS.out; omega); clear hw; replace HO4_0 := aVk HO4_0 hkp HS; replace HO4_1 := aVk HO4_1 hkp HS; replace HO4_2 := aVk HO4_2 hkp HS; replace HO4_3 := aVk HO4_3 hkp HS; replace HO4_4 := aVk HO4_4 hkp HS; replace HO4_5 := aVk HO4_5 hkp HS; replace HO7_0 := aRk HO7_0 hkp HS; replace HO7_1 := aRk HO7_1 hkp HS; replace HO7_2 := aRk HO7_2 hkp HS; replace HO7_3 := aRk HO7_3 hkp HS; replace HO7_4 := aSk HO7_4 hkp HS; replace HO7_5 := aSk HO7_5 hkp HS; replace BK1 := aBk BK1 hkp HS; replace BK5 := aBk BK5 hkp HS; replace BK8 := A_.mk hbx; replace HB := A_.mk hbb; replace HS := aHs HS hkp.1; clear hkp hbb hbx Q1 Q5 Q8; have Q1 := blk6_ BK1.out; have Q5 := blk6_ BK5.out; have Q8 := blk6_ BK8.out) | ((with_reducible refine gc_ (f := 21) rfl ?_); refine gl_ (some 29) Try.func21 #[.agg #[.slice Ao7_0 t15.length co7_0, .slice Ao7_1 t16.length co7_1, .slice Ao7_2 t17.length co7_2, .slice Ao7_3 t18.length co7_3, .slice Ao7_4 t19.length co7_4, .slice Ao7_5 t20.length co7_5]] ?_; (with_reducible refine (impl_TellCredits.calls k _ _ t15 _ _ t16 _ _ t17 _ _ t18 (fun k_ => ((w6_.heap.size ≤ k_ ∧ k_ < w7_.heap.size) ∧ f7_ k_ = 4)) _ _ t19 (fun k_ => ((w6_.heap.size ≤ k_ ∧ k_ < w7_.heap.size) ∧ f7_ k_ = 5)) _ _ t20 t21 t22 t23 t24 t25 t26 t27 _ (Kd.R_reads' HO7_0.out).2.2 (Kd.R_reads' HO7_0.out).2.1 (Kd.R_reads' HO7_1.out).2.2 (Kd.R_reads' HO7_1.out).2.1 (Kd.R_reads' HO7_2.out).2.2 (Kd.R_reads' HO7_2.out).2.1 (Kd.R_reads' HO7_3.out).2.2 (Kd.R_reads' HO7_3.out).2.1 (Kd.S_V HO7_4.out) (Kd.S_V HO7_5.out) A10.out).mono ?_); rintro e w10_ ⟨f10_, v0_, v1_, v2_, v3_, v4_, v5_, rfl, ho0_, ho1_, ho2_, ho3_, ho4_, ho5_, hb⟩; refine ⟨_, rfl, ?_⟩; replace HS := aHs HS hb.size; obtain ⟨Ao10_0, co10_0, ev_⟩ := Kd.R_slice ho0_; subst ev_; have HO10_0 := aRn ho0_ HB.out.size; obtain ⟨Ao10_1, co10_1, ev_⟩ := Kd.R_slice ho1_; subst ev_; have HO10_1 := aRn ho1_ HB.out.size; obtain ⟨Ao10_2, co10_2, ev_⟩ := Kd.R_slice ho2_; subst ev_; have HO10_2 := aRn ho2_ HB.out.size; obtain ⟨Ao10_3, co10_3, ev_⟩ := Kd.R_slice ho3_; subst ev_; have HO10_3 := aRn ho3_ HB.out.size; obtain ⟨Ao10_4, co10_4, ev_⟩ := Kd.S_slice ho4_; subst ev_; have HO10_4 := aSn ho4_ HB.out.size; obtain ⟨Ao10_5, co10_5, ev_⟩ := Kd.S_slice ho5_; subst ev_; have HO10_5 := aSn ho5_ HB.out.size; replace HO4_0 := aVb HO4_0 hb; replace HO4_1 := aVb HO4_1 hb; replace HO4_2 := aVb HO4_2 hb; replace HO4_3 := aVb HO4_3 hb; replace HO4_4 := aVb HO4_4 hb; replace HO4_5 := aVb HO4_5 hb; replace HO7_0 := aRb HO7_0 hb; replace HO7_1 := aRb HO7_1 hb; replace HO7_2 := aRb HO7_2 hb; replace HO7_3 := aRb HO7_3 hb; replace HO7_4 := aSb HO7_4 hb; replace HO7_5 := aSb HO7_5 hb; replace BK1 := aBb BK1 hb; replace BK5 := aBb BK5 hb; replace BK8 := aBb BK8 hb; replace HB := aHB HB hb; clear hb ho0_ ho1_ ho2_ ho3_ ho4_ ho5_ Q1 Q5 Q8; have Q1 := blk6_ BK1.out; have Q5 := blk6_ BK5.out; have Q8 := blk6_ BK8.out) | ((with_reducible refine gd_ (N := 7) rfl ?_); refine by_ 7 (cs := #[.slice none 0 0, .slice none 0 0, .slice none 0 0, .slice none 0 0, .slice none 0 0, .slice none 0 0]) (t := 33) ?_; intro gb11_ hg w11_ hbox hb; replace HS := A_.mk (And.intro HS.out (show gb11_ = w10_.heap.size ∧ gb11_ < w11_.heap.size from ⟨hg, blk_lt hbox⟩)); replace HO4_0 := aVb HO4_0 hb; replace HO4_1 := aVb HO4_1 hb; replace HO4_2 := aVb HO4_2 hb; replace HO4_3 := aVb HO4_3 hb; replace HO4_4 := aVb HO4_4 hb; replace HO4_5 := aVb HO4_5 hb; replace HO7_0 := aRb HO7_0 hb; replace HO7_1 := aRb HO7_1 hb; replace HO7_2 := aRb HO7_2 hb; replace HO7_3 := aRb HO7_3 hb; replace HO7_4 := aSb HO7_4 hb; replace HO7_5 := aSb HO7_5 hb; replace HO10_0 := aRb HO10_0 hb; replace HO10_1 := aRb HO10_1 hb; replace HO10_2 := aRb HO10_2 hb; replace HO10_3 := aRb HO10_3 hb; replace HO10_4 := aSb HO10_4 hb; replace HO10_5 := aSb HO10_5 hb; replace BK1 := aBb BK1 hb; replace BK5 := aBb BK5 hb; replace BK8 := aBb BK8 hb; replace HB := aHB HB hb; have BK11 := A_.mk hbox; clear hbox hb hg Q1 Q5 Q8; have Q1 := blk6_ BK1.out; have Q5 := blk6_ BK5.out; have Q8 := blk6_ BK8.out; have Q11 := blk6_ BK11.out) | ((with_reducible refine gs_ (t := 33) (p := 7) rfl ?_); have qf0 := bf_ BK11.out 0; have qf1 := bf_ BK11.out 1; have qf2 := bf_ BK11.out 2; have qf3 := bf_ BK11.out 3; have qf4 := bf_ BK11.out 4; have qf5 := bf_ BK11.out 5; refine se_ (t := 33) (p := 7) (v := ?vo_12) (w1 := (ch6_ w11_ gb11_ (.slice Ao10_0 t21.length co10_0) (.slice Ao10_1 t22.length co10_1) (.slice Ao10_2 t23.length co10_2) (.slice Ao10_3 t24.length co10_3) (.slice Ao10_4 t25.length co10_4) (.slice Ao10_5 t26.length co10_5))) ?hg ?ho ?hn ?hr ?_; (case ho => rfl); (case hg => rfl); (case hn => rfl); (case hr => first | (go_simp; done) | (go_simp; rfl)); intro w12_ hw; clear qf0 qf1 qf2 qf3 qf4 qf5; obtain ⟨hbx, hkp, hbb⟩ := st6_ hw BK11 HB (by have := HS.out; omega); clear hw; replace HO4_0 := aVk HO4_0 hkp HS; replace HO4_1 := aVk HO4_1 hkp HS; replace HO4_2 := aVk HO4_2 hkp HS; replace HO4_3 := aVk HO4_3 hkp HS; replace HO4_4 := aVk HO4_4 hkp HS; replace HO4_5 := aVk HO4_5 hkp HS; replace HO7_0 := aRk HO7_0 hkp HS; replace HO7_1 := aRk HO7_1 hkp HS; replace HO7_2 := aRk HO7_2 hkp HS; replace HO7_3 := aRk HO7_3 hkp HS; replace HO7_4 := aSk HO7_4 hkp HS; replace HO7_5 := aSk HO7_5 hkp HS; replace HO10_0 := aRk HO10_0 hkp HS; replace HO10_1 := aRk HO10_1 hkp HS; replace HO10_2 := aRk HO10_2 hkp HS; replace HO10_3 := aRk HO10_3 hkp HS; replace HO10_4 := aSk HO10_4 hkp HS; replace HO10_5 := aSk HO10_5 hkp HS; replace BK1 := aBk BK1 hkp HS; replace BK5 := aBk BK5 hkp HS; replace BK8 := aBk BK8 hkp HS; replace BK11 := A_.mk hbx; replace HB := A_.mk hbb; replace HS := aHs HS hkp.1; clear hkp hbb hbx Q1 Q5 Q8 Q11; have Q1 := blk6_ BK1.out; have Q5 := blk6_ BK5.out; have Q8 := blk6_ BK8.out; have Q11 := blk6_ BK11.out))
 (with_reducible refine (laws_eqChannel.calls k _ _ t21 _ _ t22 _ _ t23 _ _ t24 _ _ t25 _ _ t26 _ _ t8 _ _ t9 _ _ t10 _ _ t11 _ _ t12 _ _ t13 t28 _ (Kd.R_reads' HO10_0.out).2.2 (Kd.R_reads' HO10_0.out).2.1 (Kd.R_reads' HO10_1.out).2.2 (Kd.R_reads' HO10_1.out).2.1 (Kd.R_reads' HO10_2.out).2.2 (Kd.R_reads' HO10_2.out).2.1 (Kd.R_reads' HO10_3.out).2.2 (Kd.R_reads' HO10_3.out).2.1 (Kd.S_reads' HO10_4.out).2.2 (Kd.S_reads' HO10_4.out).2.1 (Kd.S_reads' HO10_5.out).2.2 (Kd.S_reads' HO10_5.out).2.1 (Kd.V_reads' HO4_0.out).2.2 (Kd.V_reads' HO4_0.out).2.1 (Kd.V_reads' HO4_1.out).2.2 (Kd.V_reads' HO4_1.out).2.1 (Kd.V_reads' HO4_2.out).2.2 (Kd.V_reads' HO4_2.out).2.1 (Kd.V_reads' HO4_3.out).2.2 (Kd.V_reads' HO4_3.out).2.1 (Kd.V_reads' HO4_4.out).2.2 (Kd.V_reads' HO4_4.out).2.1 (Kd.V_reads' HO4_5.out).2.2 (Kd.V_reads' HO4_5.out).2.1 A13.out).mono ?_)
 rintro e w13_ ⟨rfl, hb⟩
 replace HS := aHs HS hb.size
 replace HO4_0 := aVb HO4_0 hb
 replace HO4_1 := aVb HO4_1 hb
 replace HO4_2 := aVb HO4_2 hb
 replace HO4_3 := aVb HO4_3 hb
 replace HO4_4 := aVb HO4_4 hb
 replace HO4_5 := aVb HO4_5 hb
 replace HO7_0 := aRb HO7_0 hb
 replace HO7_1 := aRb HO7_1 hb
 replace HO7_2 := aRb HO7_2 hb
 replace HO7_3 := aRb HO7_3 hb
 replace HO7_4 := aSb HO7_4 hb
 replace HO7_5 := aSb HO7_5 hb
 replace HO10_0 := aRb HO10_0 hb
 replace HO10_1 := aRb HO10_1 hb
 replace HO10_2 := aRb HO10_2 hb
 replace HO10_3 := aRb HO10_3 hb
 replace HO10_4 := aSb HO10_4 hb
 replace HO10_5 := aSb HO10_5 hb
 replace BK1 := aBb BK1 hb
 replace BK5 := aBb BK5 hb
 replace BK8 := aBb BK8 hb
 replace BK11 := aBb BK11 hb
 replace HB := aHB HB hb
 clear hb  Q1 Q5 Q8 Q11
 have Q1 := blk6_ BK1.out
 have Q5 := blk6_ BK5.out
 have Q8 := blk6_ BK8.out
 have Q11 := blk6_ BK11.out
 replace H := H.out
 by_cases hc2_ : t28 = true
 case neg =>
  rw [if_neg hc2_] at H
  replace hc2_ := eq_false_of_ne_true hc2_
  subst hc2_
  exact absurd H (by simp)
 rw [if_pos hc2_] at H
 subst hc2_
 by_cases hc3_ : t27 = t14
 case neg =>
  rw [if_neg hc3_] at H
  have hc3_b0 : (t27 == t14) = false := beq_eq_false_iff_ne.mpr hc3_
  have hc3_b1 : (t27 != t14) = true := bne_iff_ne.mpr hc3_
  replace hc3_ := A_.mk hc3_
  exact absurd H (by simp)
 rw [if_pos hc3_] at H
 have hc3_b0 : (t27 == t14) = true := beq_iff_eq.mpr hc3_
 have hc3_b1 : (t27 != t14) = false := bne_eq_false_iff_eq.mpr hc3_
 replace hc3_ := A_.mk hc3_
 replace H := oa_ H
 obtain ⟨⟨t29, t30, t31, t32, t33, t34⟩, A14, H⟩ := H
 try dsimp only at H
 replace H := oa_ H
 obtain ⟨t35, A15, H⟩ := H
 by_cases hc4_ : t35 = true
 case neg =>
  rw [if_neg hc4_] at H
  replace hc4_ := eq_false_of_ne_true hc4_
  subst hc4_
  exact absurd H (by simp)
 rw [if_pos hc4_] at H
 subst hc4_
 replace H := oa_ H
 obtain ⟨⟨t36, t37, t38, t39, t40, t41, t42⟩, A16, H⟩ := H
 try dsimp only at H
 replace H := A_.mk H
 go_wp2_with (fail)
 refine start_ (n := 5) (S := fun w' => (w'.cell? ⟨gb1_, 0, none⟩ = some (.slice A0_0 l0_0.length c0_0) ∧ w'.cell? ⟨gb1_, 1, none⟩ = some (.slice A0_1 l0_1.length c0_1) ∧ w'.cell? ⟨gb1_, 2, none⟩ = some (.slice A0_2 l0_2.length c0_2) ∧ w'.cell? ⟨gb1_, 3, none⟩ = some (.slice A0_3 l0_3.length c0_3) ∧ w'.cell? ⟨gb1_, 4, none⟩ = some (.slice A0_4 l0_4.length c0_4) ∧ w'.cell? ⟨gb1_, 5, none⟩ = some (.slice A0_5 l0_5.length c0_5)) ∧ (w'.cell? ⟨gb8_, 0, none⟩ = some (.slice Ao7_0 t15.length co7_0) ∧ w'.cell? ⟨gb8_, 1, none⟩ = some (.slice Ao7_1 t16.length co7_1) ∧ w'.cell? ⟨gb8_, 2, none⟩ = some (.slice Ao7_2 t17.length co7_2) ∧ w'.cell? ⟨gb8_, 3, none⟩ = some (.slice Ao7_3 t18.length co7_3) ∧ w'.cell? ⟨gb8_, 4, none⟩ = some (.slice Ao7_4 t19.length co7_4) ∧ w'.cell? ⟨gb8_, 5, none⟩ = some (.slice Ao7_5 t20.length co7_5))) (ds := []) #[F, F, F, F, F] (by kernel_rfl) rfl rfl ⟨blk6_ BK1.out, blk6_ BK8.out⟩ (fun hHeld => ?_)
 clear Q1 Q5 Q8 Q11
 have hb := below_drew (Below.refl w13_.heap.size w13_)
 replace HS := aHs HS hb.size
 replace HO4_0 := aVb HO4_0 hb
 replace HO4_1 := aVb HO4_1 hb
 replace HO4_2 := aVb HO4_2 hb
 replace HO4_3 := aVb HO4_3 hb
 replace HO4_4 := aVb HO4_4 hb
 replace HO4_5 := aVb HO4_5 hb
 replace HO7_0 := aRb HO7_0 hb
 replace HO7_1 := aRb HO7_1 hb
 replace HO7_2 := aRb HO7_2 hb
 replace HO7_3 := aRb HO7_3 hb
 replace HO7_4 := aSb HO7_4 hb
 replace HO7_5 := aSb HO7_5 hb
 replace HO10_0 := aRb HO10_0 hb
 replace HO10_1 := aRb HO10_1 hb
 replace HO10_2 := aRb HO10_2 hb
 replace HO10_3 := aRb HO10_3 hb
 replace HO10_4 := aSb HO10_4 hb
 replace HO10_5 := aSb HO10_5 hb
 replace BK1 := aBb BK1 hb
 replace BK5 := aBb BK5 hb
 replace BK8 := aBb BK8 hb
 replace BK11 := aBb BK11 hb
 replace HB := aHB HB hb
 clear hb
 generalize w13_.drew = w26d_ at HO4_0 HO4_1 HO4_2 HO4_3 HO4_4 HO4_5 HO7_0 HO7_1 HO7_2 HO7_3 HO7_4 HO7_5 HO10_0 HO10_1 HO10_2 HO10_3 HO10_4 HO10_5 BK1 BK5 BK8 BK11 HB HS hHeld ⊢
 refine tl_ (i := 0) (N := some 41) #[T, F, F, F, F] rfl hHeld ?_
 refine tl_ (i := 1) (N := some 42) #[T, T, F, F, F] rfl hHeld ?_
 refine on_ (i := 2) (N := some 43) #[T, T, T, F, F] rfl (fun K hK => ?_)
 refine gz_ Try.func10 #[.agg #[.slice A0_0 l0_0.length c0_0, .slice A0_1 l0_1.length c0_1, .slice A0_2 l0_2.length c0_2, .slice A0_3 l0_3.length c0_3, .slice A0_4 l0_4.length c0_4, .slice A0_5 l0_5.length c0_5]] ?_
 with_reducible refine (laws_toChannel.calls k _ _ l0_0 _ _ l0_1 _ _ l0_2 _ _ l0_3 _ _ l0_4 _ _ l0_5 t29 t30 t31 t32 t33 t34 _ (Kd.C_below HR0_0.out HB.out) HC0_0.out (Kd.C_below HR0_1.out HB.out) HC0_1.out (Kd.C_below HR0_2.out HB.out) HC0_2.out (Kd.C_below HR0_3.out HB.out) HC0_3.out (Kd.C_below HR0_4.out HB.out) HC0_4.out (Kd.C_below HR0_5.out HB.out) HC0_5.out A14.out).mono ?_
 rintro e w14_ ⟨f14_, v0_, v1_, v2_, v3_, v4_, v5_, rfl, ho0_, ho1_, ho2_, ho3_, ho4_, ho5_, hb⟩
 refine ⟨_, rfl, ?_⟩
 replace HS := aHs HS hb.size
 obtain ⟨Ao14_0, co14_0, ev_⟩ := Kd.R_slice ho0_
 subst ev_
 have HO14_0 := aRn ho0_ HB.out.size
 obtain ⟨Ao14_1, co14_1, ev_⟩ := Kd.R_slice ho1_
 subst ev_
 have HO14_1 := aRn ho1_ HB.out.size
 obtain ⟨Ao14_2, co14_2, ev_⟩ := Kd.R_slice ho2_
 subst ev_
 have HO14_2 := aRn ho2_ HB.out.size
 obtain ⟨Ao14_3, co14_3, ev_⟩ := Kd.R_slice ho3_
 subst ev_
 have HO14_3 := aRn ho3_ HB.out.size
 obtain ⟨Ao14_4, co14_4, ev_⟩ := Kd.S_slice ho4_
 subst ev_
 have HO14_4 := aSn ho4_ HB.out.size
 obtain ⟨Ao14_5, co14_5, ev_⟩ := Kd.S_slice ho5_
 subst ev_
 have HO14_5 := aSn ho5_ HB.out.size
 replace HO4_0 := aVb HO4_0 hb
 replace HO4_1 := aVb HO4_1 hb
 replace HO4_2 := aVb HO4_2 hb
 replace HO4_3 := aVb HO4_3 hb
 replace HO4_4 := aVb HO4_4 hb
 replace HO4_5 := aVb HO4_5 hb
 replace HO7_0 := aRb HO7_0 hb
 replace HO7_1 := aRb HO7_1 hb
 replace HO7_2 := aRb HO7_2 hb
 replace HO7_3 := aRb HO7_3 hb
 replace HO7_4 := aSb HO7_4 hb
 replace HO7_5 := aSb HO7_5 hb
 replace HO10_0 := aRb HO10_0 hb
 replace HO10_1 := aRb HO10_1 hb
 replace HO10_2 := aRb HO10_2 hb
 replace HO10_3 := aRb HO10_3 hb
 replace HO10_4 := aSb HO10_4 hb
 replace HO10_5 := aSb HO10_5 hb
 replace BK1 := aBb BK1 hb
 replace BK5 := aBb BK5 hb
 replace BK8 := aBb BK8 hb
 replace BK11 := aBb BK11 hb
 replace HB := aHB HB hb
 clear hb ho0_ ho1_ ho2_ ho3_ ho4_ ho5_
 refine hK.out _ _ ⟨blk6_ BK1.out, blk6_ BK8.out⟩ (fun hHeld => ?_)
 clear hK K
 refine nm_ ?_
 refine on_ (i := 3) (N := some 44) #[T, T, T, T, F] rfl (fun K hK => ?_)
 refine gz_ Try.func12 #[.agg #[.slice Ao7_0 t15.length co7_0, .slice Ao7_1 t16.length co7_1, .slice Ao7_2 t17.length co7_2, .slice Ao7_3 t18.length co7_3, .slice Ao7_4 t19.length co7_4, .slice Ao7_5 t20.length co7_5], .agg #[.slice Ao14_0 t29.length co14_0, .slice Ao14_1 t30.length co14_1, .slice Ao14_2 t31.length co14_2, .slice Ao14_3 t32.length co14_3, .slice Ao14_4 t33.length co14_4, .slice Ao14_5 t34.length co14_5]] ?_
 with_reducible refine (laws_eqChannel.calls k _ _ t15 _ _ t16 _ _ t17 _ _ t18 _ _ t19 _ _ t20 _ _ t29 _ _ t30 _ _ t31 _ _ t32 _ _ t33 _ _ t34 true _ (Kd.R_reads' HO7_0.out).2.2 (Kd.R_reads' HO7_0.out).2.1 (Kd.R_reads' HO7_1.out).2.2 (Kd.R_reads' HO7_1.out).2.1 (Kd.R_reads' HO7_2.out).2.2 (Kd.R_reads' HO7_2.out).2.1 (Kd.R_reads' HO7_3.out).2.2 (Kd.R_reads' HO7_3.out).2.1 (Kd.S_reads' HO7_4.out).2.2 (Kd.S_reads' HO7_4.out).2.1 (Kd.S_reads' HO7_5.out).2.2 (Kd.S_reads' HO7_5.out).2.1 (Kd.R_reads' HO14_0.out).2.2 (Kd.R_reads' HO14_0.out).2.1 (Kd.R_reads' HO14_1.out).2.2 (Kd.R_reads' HO14_1.out).2.1 (Kd.R_reads' HO14_2.out).2.2 (Kd.R_reads' HO14_2.out).2.1 (Kd.R_reads' HO14_3.out).2.2 (Kd.R_reads' HO14_3.out).2.1 (Kd.S_reads' HO14_4.out).2.2 (Kd.S_reads' HO14_4.out).2.1 (Kd.S_reads' HO14_5.out).2.2 (Kd.S_reads' HO14_5.out).2.1 A15.out).mono ?_
 rintro e w15_ ⟨rfl, hb⟩
 refine ⟨_, rfl, ?_⟩
 replace HS := aHs HS hb.size
 replace HO4_0 := aVb HO4_0 hb
 replace HO4_1 := aVb HO4_1 hb
 replace HO4_2 := aVb HO4_2 hb
 replace HO4_3 := aVb HO4_3 hb
 replace HO4_4 := aVb HO4_4 hb
 replace HO4_5 := aVb HO4_5 hb
 replace HO7_0 := aRb HO7_0 hb
 replace HO7_1 := aRb HO7_1 hb
 replace HO7_2 := aRb HO7_2 hb
 replace HO7_3 := aRb HO7_3 hb
 replace HO7_4 := aSb HO7_4 hb
 replace HO7_5 := aSb HO7_5 hb
 replace HO10_0 := aRb HO10_0 hb
 replace HO10_1 := aRb HO10_1 hb
 replace HO10_2 := aRb HO10_2 hb
 replace HO10_3 := aRb HO10_3 hb
 replace HO10_4 := aSb HO10_4 hb
 replace HO10_5 := aSb HO10_5 hb
 replace HO14_0 := aRb HO14_0 hb
 replace HO14_1 := aRb HO14_1 hb
 replace HO14_2 := aRb HO14_2 hb
 replace HO14_3 := aRb HO14_3 hb
 replace HO14_4 := aSb HO14_4 hb
 replace HO14_5 := aSb HO14_5 hb
 replace BK1 := aBb BK1 hb
 replace BK5 := aBb BK5 hb
 replace BK8 := aBb BK8 hb
 replace BK11 := aBb BK11 hb
 replace HB := aHB HB hb
 clear hb 
 refine hK.out _ _ ⟨blk6_ BK1.out, blk6_ BK8.out⟩ (fun hHeld => ?_)
 clear hK K
 refine nm_ ?_
 refine pd_ (i := 4) (N := some 45) #[T, T, T, T, T] rfl ?_
 refine done_ (by kernel_rfl) ?_
 have Q1 := blk6_ BK1.out
 have Q5 := blk6_ BK5.out
 have Q8 := blk6_ BK8.out
 have Q11 := blk6_ BK11.out
 go_wp2_with (fail)
 (with_reducible refine (laws_markChannel.calls k (fun k_ => (w6_.heap.size ≤ k_ ∧ k_ < w7_.heap.size)) f7_ (.slice Ao7_0 t15.length co7_0) t15 (.slice Ao7_1 t16.length co7_1) t16 (.slice Ao7_2 t17.length co7_2) t17 (.slice Ao7_3 t18.length co7_3) t18 (.slice Ao7_4 t19.length co7_4) t19 (.slice Ao7_5 t20.length co7_5) t20 1 t36 t37 t38 t39 t40 t41 t42 w _ HB.out HO7_0.out HO7_1.out HO7_2.out HO7_3.out HO7_4.out HO7_5.out A16.out).mono ?_)
 rintro e w16_ ⟨rfl, ho0_, ho1_, ho2_, ho3_, ho4_, ho5_, ho6_, hkp⟩
 replace HS := aHs HS hkp.1
 replace HO4_0 := aVk HO4_0 hkp HS
 replace HO4_1 := aVk HO4_1 hkp HS
 replace HO4_2 := aVk HO4_2 hkp HS
 replace HO4_3 := aVk HO4_3 hkp HS
 replace HO4_4 := aVk HO4_4 hkp HS
 replace HO4_5 := aVk HO4_5 hkp HS
 replace HO10_0 := aRk HO10_0 hkp HS
 replace HO10_1 := aRk HO10_1 hkp HS
 replace HO10_2 := aRk HO10_2 hkp HS
 replace HO10_3 := aRk HO10_3 hkp HS
 replace HO10_4 := aSk HO10_4 hkp HS
 replace HO10_5 := aSk HO10_5 hkp HS
 replace BK1 := aBk BK1 hkp HS
 replace BK5 := aBk BK5 hkp HS
 replace BK8 := aBk BK8 hkp HS
 replace BK11 := aBk BK11 hkp HS
 replace HO7_0 := A_.mk (Kd.R_reok rfl ho0_ (fun k_ e_ => HO7_0.out.1 k_ e_))
 have LQHO7_0 := A_.mk (Kd.R_reads' HO7_0.out).1.symm
 replace HO7_1 := A_.mk (Kd.R_reok rfl ho1_ (fun k_ e_ => HO7_1.out.1 k_ e_))
 have LQHO7_1 := A_.mk (Kd.R_reads' HO7_1.out).1.symm
 replace HO7_2 := A_.mk (Kd.R_reok rfl ho2_ (fun k_ e_ => HO7_2.out.1 k_ e_))
 have LQHO7_2 := A_.mk (Kd.R_reads' HO7_2.out).1.symm
 replace HO7_3 := A_.mk (Kd.R_reok rfl ho3_ (fun k_ e_ => HO7_3.out.1 k_ e_))
 have LQHO7_3 := A_.mk (Kd.R_reads' HO7_3.out).1.symm
 replace HO7_4 := A_.mk (Kd.S_mono (ok' := (fun k_ => ((w6_.heap.size ≤ k_ ∧ k_ < w7_.heap.size) ∧ f7_ k_ = 4))) ho4_ (fun _ z_ => z_))
 have LQHO7_4 := A_.mk (Kd.S_reads' HO7_4.out).1.symm
 replace HO7_5 := A_.mk (Kd.S_mono (ok' := (fun k_ => ((w6_.heap.size ≤ k_ ∧ k_ < w7_.heap.size) ∧ f7_ k_ = 5))) ho5_ (fun _ z_ => z_))
 have LQHO7_5 := A_.mk (Kd.S_reads' HO7_5.out).1.symm
 replace HB := A_.mk ho6_
 clear hkp ho0_ ho1_ ho2_ ho3_ ho4_ ho5_ ho6_ Q1 Q5 Q8 Q11
 have Q1 := blk6_ BK1.out
 have Q5 := blk6_ BK5.out
 have Q8 := blk6_ BK8.out
 have Q11 := blk6_ BK11.out
 replace H := H.out
 by_cases hc5_ : t36 < 0
 case pos =>
  rw [if_pos hc5_] at H
  have hc5_b0 : decide (t36 < 0) = true := decide_eq_true hc5_
  exact absurd H (by simp)
 rw [if_neg hc5_] at H
 have hc5_b0 : decide (t36 < 0) = false := decide_eq_false hc5_
 replace H := oa_ H
 obtain ⟨t43, A17, H⟩ := H
 replace H := A_.mk H
 go_wp2_with (fail)
 (with_reducible refine (laws_eqChannel.calls k _ _ t21 _ _ t22 _ _ t23 _ _ t24 _ _ t25 _ _ t26 _ _ t8 _ _ t9 _ _ t10 _ _ t11 _ _ t12 _ _ t13 t43 _ (Kd.R_reads' HO10_0.out).2.2 (Kd.R_reads' HO10_0.out).2.1 (Kd.R_reads' HO10_1.out).2.2 (Kd.R_reads' HO10_1.out).2.1 (Kd.R_reads' HO10_2.out).2.2 (Kd.R_reads' HO10_2.out).2.1 (Kd.R_reads' HO10_3.out).2.2 (Kd.R_reads' HO10_3.out).2.1 (Kd.S_reads' HO10_4.out).2.2 (Kd.S_reads' HO10_4.out).2.1 (Kd.S_reads' HO10_5.out).2.2 (Kd.S_reads' HO10_5.out).2.1 (Kd.V_reads' HO4_0.out).2.2 (Kd.V_reads' HO4_0.out).2.1 (Kd.V_reads' HO4_1.out).2.2 (Kd.V_reads' HO4_1.out).2.1 (Kd.V_reads' HO4_2.out).2.2 (Kd.V_reads' HO4_2.out).2.1 (Kd.V_reads' HO4_3.out).2.2 (Kd.V_reads' HO4_3.out).2.1 (Kd.V_reads' HO4_4.out).2.2 (Kd.V_reads' HO4_4.out).2.1 (Kd.V_reads' HO4_5.out).2.2 (Kd.V_reads' HO4_5.out).2.1 A17.out).mono ?_)
 rintro e w17_ ⟨rfl, hb⟩
 replace HS := aHs HS hb.size
 replace HO4_0 := aVb HO4_0 hb
 replace HO4_1 := aVb HO4_1 hb
 replace HO4_2 := aVb HO4_2 hb
 replace HO4_3 := aVb HO4_3 hb
 replace HO4_4 := aVb HO4_4 hb
 replace HO4_5 := aVb HO4_5 hb
 replace HO10_0 := aRb HO10_0 hb
 replace HO10_1 := aRb HO10_1 hb
 replace HO10_2 := aRb HO10_2 hb
 replace HO10_3 := aRb HO10_3 hb
 replace HO10_4 := aSb HO10_4 hb
 replace HO10_5 := aSb HO10_5 hb
 replace BK1 := aBb BK1 hb
 replace BK5 := aBb BK5 hb
 replace BK8 := aBb BK8 hb
 replace BK11 := aBb BK11 hb
 replace HB := aHB HB hb
 clear hb  Q1 Q5 Q8 Q11
 have Q1 := blk6_ BK1.out
 have Q5 := blk6_ BK5.out
 have Q8 := blk6_ BK8.out
 have Q11 := blk6_ BK11.out
 replace H := H.out
 by_cases hc6_ : t43 = true
 case neg =>
  rw [if_neg hc6_] at H
  replace hc6_ := eq_false_of_ne_true hc6_
  subst hc6_
  exact absurd H (by simp)
 rw [if_pos hc6_] at H
 subst hc6_
 replace H := oa_ H
 obtain ⟨⟨t44, t45, t46, t47, t48, t49, t50⟩, A18, H⟩ := H
 try dsimp only at H
 replace H := oa_ H
 obtain ⟨t51, A19, H⟩ := H
 replace H := A_.mk H
 go_wp2_with (fail)
 (with_reducible refine (laws_markChannel.calls k (fun k_ => (w9_.heap.size ≤ k_ ∧ k_ < w10_.heap.size)) f10_ (.slice Ao10_0 t21.length co10_0) t21 (.slice Ao10_1 t22.length co10_1) t22 (.slice Ao10_2 t23.length co10_2) t23 (.slice Ao10_3 t24.length co10_3) t24 (.slice Ao10_4 t25.length co10_4) t25 (.slice Ao10_5 t26.length co10_5) t26 1 t44 t45 t46 t47 t48 t49 t50 w _ HB.out HO10_0.out HO10_1.out HO10_2.out HO10_3.out HO10_4.out HO10_5.out A18.out).mono ?_)
 rintro e w18_ ⟨rfl, ho0_, ho1_, ho2_, ho3_, ho4_, ho5_, ho6_, hkp⟩
 replace HS := aHs HS hkp.1
 replace HO4_0 := aVk HO4_0 hkp HS
 replace HO4_1 := aVk HO4_1 hkp HS
 replace HO4_2 := aVk HO4_2 hkp HS
 replace HO4_3 := aVk HO4_3 hkp HS
 replace HO4_4 := aVk HO4_4 hkp HS
 replace HO4_5 := aVk HO4_5 hkp HS
 replace BK1 := aBk BK1 hkp HS
 replace BK5 := aBk BK5 hkp HS
 replace BK8 := aBk BK8 hkp HS
 replace BK11 := aBk BK11 hkp HS
 replace HO10_0 := A_.mk (Kd.R_reok rfl ho0_ (fun k_ e_ => HO10_0.out.1 k_ e_))
 have LQHO10_0 := A_.mk (Kd.R_reads' HO10_0.out).1.symm
 replace HO10_1 := A_.mk (Kd.R_reok rfl ho1_ (fun k_ e_ => HO10_1.out.1 k_ e_))
 have LQHO10_1 := A_.mk (Kd.R_reads' HO10_1.out).1.symm
 replace HO10_2 := A_.mk (Kd.R_reok rfl ho2_ (fun k_ e_ => HO10_2.out.1 k_ e_))
 have LQHO10_2 := A_.mk (Kd.R_reads' HO10_2.out).1.symm
 replace HO10_3 := A_.mk (Kd.R_reok rfl ho3_ (fun k_ e_ => HO10_3.out.1 k_ e_))
 have LQHO10_3 := A_.mk (Kd.R_reads' HO10_3.out).1.symm
 replace HO10_4 := A_.mk (Kd.S_mono (ok' := (fun k_ => ((w9_.heap.size ≤ k_ ∧ k_ < w10_.heap.size) ∧ f10_ k_ = 4))) ho4_ (fun _ z_ => z_))
 have LQHO10_4 := A_.mk (Kd.S_reads' HO10_4.out).1.symm
 replace HO10_5 := A_.mk (Kd.S_mono (ok' := (fun k_ => ((w9_.heap.size ≤ k_ ∧ k_ < w10_.heap.size) ∧ f10_ k_ = 5))) ho5_ (fun _ z_ => z_))
 have LQHO10_5 := A_.mk (Kd.S_reads' HO10_5.out).1.symm
 replace HB := A_.mk ho6_
 clear hkp ho0_ ho1_ ho2_ ho3_ ho4_ ho5_ ho6_ Q1 Q5 Q8 Q11
 have Q1 := blk6_ BK1.out
 have Q5 := blk6_ BK5.out
 have Q8 := blk6_ BK8.out
 have Q11 := blk6_ BK11.out
 go_wp2_with (fail)
 refine (calls_cast (by rw [LQHO10_0.out, LQHO10_1.out, LQHO10_2.out, LQHO10_3.out, LQHO10_4.out, LQHO10_5.out]) (laws_heldChannel.calls k _ _ t45 _ _ t46 _ _ t47 _ _ t48 _ _ t49 _ _ t50 1 t51 _ (Kd.R_reads' HO10_0.out).2.2 (by rw [LQHO10_0.out]; exact (Kd.R_reads' HO10_0.out).2.1) (Kd.R_reads' HO10_1.out).2.2 (by rw [LQHO10_1.out]; exact (Kd.R_reads' HO10_1.out).2.1) (Kd.R_reads' HO10_2.out).2.2 (by rw [LQHO10_2.out]; exact (Kd.R_reads' HO10_2.out).2.1) (Kd.R_reads' HO10_3.out).2.2 (by rw [LQHO10_3.out]; exact (Kd.R_reads' HO10_3.out).2.1) (Kd.S_reads' HO10_4.out).2.2 (by rw [LQHO10_4.out]; exact (Kd.S_reads' HO10_4.out).2.1) (Kd.S_reads' HO10_5.out).2.2 (by rw [LQHO10_5.out]; exact (Kd.S_reads' HO10_5.out).2.1) A19.out)).mono ?_
 rintro e w19_ ⟨rfl, hb⟩
 replace HS := aHs HS hb.size
 replace HO4_0 := aVb HO4_0 hb
 replace HO4_1 := aVb HO4_1 hb
 replace HO4_2 := aVb HO4_2 hb
 replace HO4_3 := aVb HO4_3 hb
 replace HO4_4 := aVb HO4_4 hb
 replace HO4_5 := aVb HO4_5 hb
 replace HO10_0 := aRb HO10_0 hb
 replace HO10_1 := aRb HO10_1 hb
 replace HO10_2 := aRb HO10_2 hb
 replace HO10_3 := aRb HO10_3 hb
 replace HO10_4 := aSb HO10_4 hb
 replace HO10_5 := aSb HO10_5 hb
 replace BK1 := aBb BK1 hb
 replace BK5 := aBb BK5 hb
 replace BK8 := aBb BK8 hb
 replace BK11 := aBb BK11 hb
 replace HB := aHB HB hb
 clear hb  Q1 Q5 Q8 Q11
 have Q1 := blk6_ BK1.out
 have Q5 := blk6_ BK5.out
 have Q8 := blk6_ BK8.out
 have Q11 := blk6_ BK11.out
 replace H := H.out
 by_cases hc7_ : t51 < 0
 case pos =>
  rw [if_pos hc7_] at H
  have hc7_b0 : decide (t51 < 0) = true := decide_eq_true hc7_
  exact absurd H (by simp)
 rw [if_neg hc7_] at H
 have hc7_b0 : decide (t51 < 0) = false := decide_eq_false hc7_
 by_cases hc8_ : t51 = t44
 case neg =>
  rw [if_neg hc8_] at H
  have hc8_b0 : (t51 == t44) = false := beq_eq_false_iff_ne.mpr hc8_
  have hc8_bn : (t51 != t44) = true := bne_iff_ne.mpr hc8_
  exact absurd H (by simp)
 rw [if_pos hc8_] at H
 have hc8_b0 : (t51 == t44) = true := beq_iff_eq.mpr hc8_
 have hc8_bn : (t51 != t44) = false := bne_eq_false_iff_eq.mpr hc8_
 replace hc8_ := A_.mk hc8_
 replace H := oa_ H
 obtain ⟨⟨t52, t53, t54, t55, t56, t57⟩, A20, H⟩ := H
 try dsimp only at H
 replace H := oa_ H
 obtain ⟨⟨t58, t59, t60, t61, t62, t63, t64⟩, A21, H⟩ := H
 try dsimp only at H
 replace H := oa_ H
 obtain ⟨t65, A24, H⟩ := H
 replace H := A_.mk H
 go_wp2_with (first | ((with_reducible refine gc_ (f := 10) rfl ?_); refine gl_ (some 75) Try.func10 #[.agg #[.slice A0_0 l0_0.length c0_0, .slice A0_1 l0_1.length c0_1, .slice A0_2 l0_2.length c0_2, .slice A0_3 l0_3.length c0_3, .slice A0_4 l0_4.length c0_4, .slice A0_5 l0_5.length c0_5]] ?_; (with_reducible refine (laws_toChannel.calls k _ _ l0_0 _ _ l0_1 _ _ l0_2 _ _ l0_3 _ _ l0_4 _ _ l0_5 t52 t53 t54 t55 t56 t57 _ (Kd.C_below HR0_0.out HB.out) HC0_0.out (Kd.C_below HR0_1.out HB.out) HC0_1.out (Kd.C_below HR0_2.out HB.out) HC0_2.out (Kd.C_below HR0_3.out HB.out) HC0_3.out (Kd.C_below HR0_4.out HB.out) HC0_4.out (Kd.C_below HR0_5.out HB.out) HC0_5.out A20.out).mono ?_); rintro e w20_ ⟨f20_, v0_, v1_, v2_, v3_, v4_, v5_, rfl, ho0_, ho1_, ho2_, ho3_, ho4_, ho5_, hb⟩; refine ⟨_, rfl, ?_⟩; replace HS := aHs HS hb.size; obtain ⟨Ao20_0, co20_0, ev_⟩ := Kd.R_slice ho0_; subst ev_; have HO20_0 := aRn ho0_ HB.out.size; obtain ⟨Ao20_1, co20_1, ev_⟩ := Kd.R_slice ho1_; subst ev_; have HO20_1 := aRn ho1_ HB.out.size; obtain ⟨Ao20_2, co20_2, ev_⟩ := Kd.R_slice ho2_; subst ev_; have HO20_2 := aRn ho2_ HB.out.size; obtain ⟨Ao20_3, co20_3, ev_⟩ := Kd.R_slice ho3_; subst ev_; have HO20_3 := aRn ho3_ HB.out.size; obtain ⟨Ao20_4, co20_4, ev_⟩ := Kd.S_slice ho4_; subst ev_; have HO20_4 := aSn ho4_ HB.out.size; obtain ⟨Ao20_5, co20_5, ev_⟩ := Kd.S_slice ho5_; subst ev_; have HO20_5 := aSn ho5_ HB.out.size; replace HO4_0 := aVb HO4_0 hb; replace HO4_1 := aVb HO4_1 hb; replace HO4_2 := aVb HO4_2 hb; replace HO4_3 := aVb HO4_3 hb; replace HO4_4 := aVb HO4_4 hb; replace HO4_5 := aVb HO4_5 hb; replace HO10_0 := aRb HO10_0 hb; replace HO10_1 := aRb HO10_1 hb; replace HO10_2 := aRb HO10_2 hb; replace HO10_3 := aRb HO10_3 hb; replace HO10_4 := aSb HO10_4 hb; replace HO10_5 := aSb HO10_5 hb; replace BK1 := aBb BK1 hb; replace BK5 := aBb BK5 hb; replace BK8 := aBb BK8 hb; replace BK11 := aBb BK11 hb; replace HB := aHB HB hb; clear hb ho0_ ho1_ ho2_ ho3_ ho4_ ho5_ Q1 Q5 Q8 Q11; have Q1 := blk6_ BK1.out; have Q5 := blk6_ BK5.out; have Q8 := blk6_ BK8.out; have Q11 := blk6_ BK11.out) | ((with_reducible refine gc_ (f := 21) rfl ?_); refine gl_ (some 76) Try.func21 #[.agg #[.slice Ao20_0 t52.length co20_0, .slice Ao20_1 t53.length co20_1, .slice Ao20_2 t54.length co20_2, .slice Ao20_3 t55.length co20_3, .slice Ao20_4 t56.length co20_4, .slice Ao20_5 t57.length co20_5]] ?_; (with_reducible refine (impl_TellCredits.calls k _ _ t52 _ _ t53 _ _ t54 _ _ t55 (fun k_ => ((w19_.heap.size ≤ k_ ∧ k_ < w20_.heap.size) ∧ f20_ k_ = 4)) _ _ t56 (fun k_ => ((w19_.heap.size ≤ k_ ∧ k_ < w20_.heap.size) ∧ f20_ k_ = 5)) _ _ t57 t58 t59 t60 t61 t62 t63 t64 _ (Kd.R_reads' HO20_0.out).2.2 (Kd.R_reads' HO20_0.out).2.1 (Kd.R_reads' HO20_1.out).2.2 (Kd.R_reads' HO20_1.out).2.1 (Kd.R_reads' HO20_2.out).2.2 (Kd.R_reads' HO20_2.out).2.1 (Kd.R_reads' HO20_3.out).2.2 (Kd.R_reads' HO20_3.out).2.1 (Kd.S_V HO20_4.out) (Kd.S_V HO20_5.out) A21.out).mono ?_); rintro e w21_ ⟨f21_, v0_, v1_, v2_, v3_, v4_, v5_, rfl, ho0_, ho1_, ho2_, ho3_, ho4_, ho5_, hb⟩; refine ⟨_, rfl, ?_⟩; replace HS := aHs HS hb.size; obtain ⟨Ao21_0, co21_0, ev_⟩ := Kd.R_slice ho0_; subst ev_; have HO21_0 := aRn ho0_ HB.out.size; obtain ⟨Ao21_1, co21_1, ev_⟩ := Kd.R_slice ho1_; subst ev_; have HO21_1 := aRn ho1_ HB.out.size; obtain ⟨Ao21_2, co21_2, ev_⟩ := Kd.R_slice ho2_; subst ev_; have HO21_2 := aRn ho2_ HB.out.size; obtain ⟨Ao21_3, co21_3, ev_⟩ := Kd.R_slice ho3_; subst ev_; have HO21_3 := aRn ho3_ HB.out.size; obtain ⟨Ao21_4, co21_4, ev_⟩ := Kd.S_slice ho4_; subst ev_; have HO21_4 := aSn ho4_ HB.out.size; obtain ⟨Ao21_5, co21_5, ev_⟩ := Kd.S_slice ho5_; subst ev_; have HO21_5 := aSn ho5_ HB.out.size; replace HO4_0 := aVb HO4_0 hb; replace HO4_1 := aVb HO4_1 hb; replace HO4_2 := aVb HO4_2 hb; replace HO4_3 := aVb HO4_3 hb; replace HO4_4 := aVb HO4_4 hb; replace HO4_5 := aVb HO4_5 hb; replace HO10_0 := aRb HO10_0 hb; replace HO10_1 := aRb HO10_1 hb; replace HO10_2 := aRb HO10_2 hb; replace HO10_3 := aRb HO10_3 hb; replace HO10_4 := aSb HO10_4 hb; replace HO10_5 := aSb HO10_5 hb; replace HO20_0 := aRb HO20_0 hb; replace HO20_1 := aRb HO20_1 hb; replace HO20_2 := aRb HO20_2 hb; replace HO20_3 := aRb HO20_3 hb; replace HO20_4 := aSb HO20_4 hb; replace HO20_5 := aSb HO20_5 hb; replace BK1 := aBb BK1 hb; replace BK5 := aBb BK5 hb; replace BK8 := aBb BK8 hb; replace BK11 := aBb BK11 hb; replace HB := aHB HB hb; clear hb ho0_ ho1_ ho2_ ho3_ ho4_ ho5_ Q1 Q5 Q8 Q11; have Q1 := blk6_ BK1.out; have Q5 := blk6_ BK5.out; have Q8 := blk6_ BK8.out; have Q11 := blk6_ BK11.out) | ((with_reducible refine gd_ (N := 12) rfl ?_); refine by_ 12 (cs := #[.slice none 0 0, .slice none 0 0, .slice none 0 0, .slice none 0 0, .slice none 0 0, .slice none 0 0]) (t := 33) ?_; intro gb22_ hg w22_ hbox hb; replace HS := A_.mk (And.intro HS.out (show gb22_ = w21_.heap.size ∧ gb22_ < w22_.heap.size from ⟨hg, blk_lt hbox⟩)); replace HO4_0 := aVb HO4_0 hb; replace HO4_1 := aVb HO4_1 hb; replace HO4_2 := aVb HO4_2 hb; replace HO4_3 := aVb HO4_3 hb; replace HO4_4 := aVb HO4_4 hb; replace HO4_5 := aVb HO4_5 hb; replace HO10_0 := aRb HO10_0 hb; replace HO10_1 := aRb HO10_1 hb; replace HO10_2 := aRb HO10_2 hb; replace HO10_3 := aRb HO10_3 hb; replace HO10_4 := aSb HO10_4 hb; replace HO10_5 := aSb HO10_5 hb; replace HO21_0 := aRb HO21_0 hb; replace HO21_1 := aRb HO21_1 hb; replace HO21_2 := aRb HO21_2 hb; replace HO21_3 := aRb HO21_3 hb; replace HO21_4 := aSb HO21_4 hb; replace HO21_5 := aSb HO21_5 hb; replace BK1 := aBb BK1 hb; replace BK5 := aBb BK5 hb; replace BK8 := aBb BK8 hb; replace BK11 := aBb BK11 hb; replace HB := aHB HB hb; have BK22 := A_.mk hbox; clear hbox hb hg Q1 Q5 Q8 Q11; have Q1 := blk6_ BK1.out; have Q5 := blk6_ BK5.out; have Q8 := blk6_ BK8.out; have Q11 := blk6_ BK11.out; have Q22 := blk6_ BK22.out) | ((with_reducible refine gs_ (t := 33) (p := 12) rfl ?_); have qf0 := bf_ BK22.out 0; have qf1 := bf_ BK22.out 1; have qf2 := bf_ BK22.out 2; have qf3 := bf_ BK22.out 3; have qf4 := bf_ BK22.out 4; have qf5 := bf_ BK22.out 5; refine se_ (t := 33) (p := 12) (v := ?vo_23) (w1 := (ch6_ w22_ gb22_ (.slice Ao21_0 t58.length co21_0) (.slice Ao21_1 t59.length co21_1) (.slice Ao21_2 t60.length co21_2) (.slice Ao21_3 t61.length co21_3) (.slice Ao21_4 t62.length co21_4) (.slice Ao21_5 t63.length co21_5))) ?hg ?ho ?hn ?hr ?_; (case ho => rfl); (case hg => rfl); (case hn => rfl); (case hr => first | (go_simp; done) | (go_simp; rfl)); intro w23_ hw; clear qf0 qf1 qf2 qf3 qf4 qf5; obtain ⟨hbx, hkp, hbb⟩ := st6_ hw BK22 HB (by have := HS.out; omega); clear hw; replace HO4_0 := aVk HO4_0 hkp HS; replace HO4_1 := aVk HO4_1 hkp HS; replace HO4_2 := aVk HO4_2 hkp HS; replace HO4_3 := aVk HO4_3 hkp HS; replace HO4_4 := aVk HO4_4 hkp HS; replace HO4_5 := aVk HO4_5 hkp HS; replace HO10_0 := aRk HO10_0 hkp HS; replace HO10_1 := aRk HO10_1 hkp HS; replace HO10_2 := aRk HO10_2 hkp HS; replace HO10_3 := aRk HO10_3 hkp HS; replace HO10_4 := aSk HO10_4 hkp HS; replace HO10_5 := aSk HO10_5 hkp HS; replace HO21_0 := aRk HO21_0 hkp HS; replace HO21_1 := aRk HO21_1 hkp HS; replace HO21_2 := aRk HO21_2 hkp HS; replace HO21_3 := aRk HO21_3 hkp HS; replace HO21_4 := aSk HO21_4 hkp HS; replace HO21_5 := aSk HO21_5 hkp HS; replace BK1 := aBk BK1 hkp HS; replace BK5 := aBk BK5 hkp HS; replace BK8 := aBk BK8 hkp HS; replace BK11 := aBk BK11 hkp HS; replace BK22 := A_.mk hbx; replace HB := A_.mk hbb; replace HS := aHs HS hkp.1; clear hkp hbb hbx Q1 Q5 Q8 Q11 Q22; have Q1 := blk6_ BK1.out; have Q5 := blk6_ BK5.out; have Q8 := blk6_ BK8.out; have Q11 := blk6_ BK11.out; have Q22 := blk6_ BK22.out))
 (with_reducible refine (laws_eqChannel.calls k _ _ t58 _ _ t59 _ _ t60 _ _ t61 _ _ t62 _ _ t63 _ _ t8 _ _ t9 _ _ t10 _ _ t11 _ _ t12 _ _ t13 t65 _ (Kd.R_reads' HO21_0.out).2.2 (Kd.R_reads' HO21_0.out).2.1 (Kd.R_reads' HO21_1.out).2.2 (Kd.R_reads' HO21_1.out).2.1 (Kd.R_reads' HO21_2.out).2.2 (Kd.R_reads' HO21_2.out).2.1 (Kd.R_reads' HO21_3.out).2.2 (Kd.R_reads' HO21_3.out).2.1 (Kd.S_reads' HO21_4.out).2.2 (Kd.S_reads' HO21_4.out).2.1 (Kd.S_reads' HO21_5.out).2.2 (Kd.S_reads' HO21_5.out).2.1 (Kd.V_reads' HO4_0.out).2.2 (Kd.V_reads' HO4_0.out).2.1 (Kd.V_reads' HO4_1.out).2.2 (Kd.V_reads' HO4_1.out).2.1 (Kd.V_reads' HO4_2.out).2.2 (Kd.V_reads' HO4_2.out).2.1 (Kd.V_reads' HO4_3.out).2.2 (Kd.V_reads' HO4_3.out).2.1 (Kd.V_reads' HO4_4.out).2.2 (Kd.V_reads' HO4_4.out).2.1 (Kd.V_reads' HO4_5.out).2.2 (Kd.V_reads' HO4_5.out).2.1 A24.out).mono ?_)
 rintro e w24_ ⟨rfl, hb⟩
 replace HS := aHs HS hb.size
 replace HO4_0 := aVb HO4_0 hb
 replace HO4_1 := aVb HO4_1 hb
 replace HO4_2 := aVb HO4_2 hb
 replace HO4_3 := aVb HO4_3 hb
 replace HO4_4 := aVb HO4_4 hb
 replace HO4_5 := aVb HO4_5 hb
 replace HO10_0 := aRb HO10_0 hb
 replace HO10_1 := aRb HO10_1 hb
 replace HO10_2 := aRb HO10_2 hb
 replace HO10_3 := aRb HO10_3 hb
 replace HO10_4 := aSb HO10_4 hb
 replace HO10_5 := aSb HO10_5 hb
 replace HO21_0 := aRb HO21_0 hb
 replace HO21_1 := aRb HO21_1 hb
 replace HO21_2 := aRb HO21_2 hb
 replace HO21_3 := aRb HO21_3 hb
 replace HO21_4 := aSb HO21_4 hb
 replace HO21_5 := aSb HO21_5 hb
 replace BK1 := aBb BK1 hb
 replace BK5 := aBb BK5 hb
 replace BK8 := aBb BK8 hb
 replace BK11 := aBb BK11 hb
 replace BK22 := aBb BK22 hb
 replace HB := aHB HB hb
 clear hb  Q1 Q5 Q8 Q11 Q22
 have Q1 := blk6_ BK1.out
 have Q5 := blk6_ BK5.out
 have Q8 := blk6_ BK8.out
 have Q11 := blk6_ BK11.out
 have Q22 := blk6_ BK22.out
 replace H := H.out
 by_cases hc9_ : t65 = true
 case neg =>
  rw [if_neg hc9_] at H
  replace hc9_ := eq_false_of_ne_true hc9_
  subst hc9_
  exact absurd H (by simp)
 rw [if_pos hc9_] at H
 subst hc9_
 by_cases hc10_ : t64 = t14
 case neg =>
  rw [if_neg hc10_] at H
  have hc10_b0 : (t64 == t14) = false := beq_eq_false_iff_ne.mpr hc10_
  have hc10_b1 : (t64 != t14) = true := bne_iff_ne.mpr hc10_
  replace hc10_ := A_.mk hc10_
  exact absurd H (by simp)
 rw [if_pos hc10_] at H
 have hc10_b0 : (t64 == t14) = true := beq_iff_eq.mpr hc10_
 have hc10_b1 : (t64 != t14) = false := bne_eq_false_iff_eq.mpr hc10_
 replace hc10_ := A_.mk hc10_
 replace H := oa_ H
 obtain ⟨t66, A25, H⟩ := H
 replace H := A_.mk H
 go_wp2_with (fail)
 refine (calls_cast (by rw [LQHO10_0.out, LQHO10_1.out, LQHO10_2.out, LQHO10_3.out, LQHO10_4.out, LQHO10_5.out]) (laws_heldChannel.calls k _ _ t45 _ _ t46 _ _ t47 _ _ t48 _ _ t49 _ _ t50 1 t66 _ (Kd.R_reads' HO10_0.out).2.2 (by rw [LQHO10_0.out]; exact (Kd.R_reads' HO10_0.out).2.1) (Kd.R_reads' HO10_1.out).2.2 (by rw [LQHO10_1.out]; exact (Kd.R_reads' HO10_1.out).2.1) (Kd.R_reads' HO10_2.out).2.2 (by rw [LQHO10_2.out]; exact (Kd.R_reads' HO10_2.out).2.1) (Kd.R_reads' HO10_3.out).2.2 (by rw [LQHO10_3.out]; exact (Kd.R_reads' HO10_3.out).2.1) (Kd.S_reads' HO10_4.out).2.2 (by rw [LQHO10_4.out]; exact (Kd.S_reads' HO10_4.out).2.1) (Kd.S_reads' HO10_5.out).2.2 (by rw [LQHO10_5.out]; exact (Kd.S_reads' HO10_5.out).2.1) A25.out)).mono ?_
 rintro e w25_ ⟨rfl, hb⟩
 replace HS := aHs HS hb.size
 replace HO10_0 := aRb HO10_0 hb
 replace HO10_1 := aRb HO10_1 hb
 replace HO10_2 := aRb HO10_2 hb
 replace HO10_3 := aRb HO10_3 hb
 replace HO10_4 := aSb HO10_4 hb
 replace HO10_5 := aSb HO10_5 hb
 replace BK1 := aBb BK1 hb
 replace BK5 := aBb BK5 hb
 replace BK8 := aBb BK8 hb
 replace BK11 := aBb BK11 hb
 replace BK22 := aBb BK22 hb
 replace HB := aHB HB hb
 clear hb  Q1 Q5 Q8 Q11 Q22
 have Q1 := blk6_ BK1.out
 have Q5 := blk6_ BK5.out
 have Q8 := blk6_ BK8.out
 have Q11 := blk6_ BK11.out
 have Q22 := blk6_ BK22.out
 replace H := H.out
 by_cases hc11_ : t66 < 0
 case pos =>
  rw [if_pos hc11_] at H
  have hc11_b0 : decide (t66 < 0) = true := decide_eq_true hc11_
  exact absurd H (by simp)
 rw [if_neg hc11_] at H
 have hc11_b0 : decide (t66 < 0) = false := decide_eq_false hc11_
 by_cases hc12_ : t66 = t44
 case pos =>
  rw [if_pos hc12_] at H
  have hc12_b0 : (t66 == t44) = true := beq_iff_eq.mpr hc12_
  have hc12_bn : (t66 != t44) = false := bne_eq_false_iff_eq.mpr hc12_
  replace hc12_ := A_.mk hc12_
  clear H
  go_wp2
  go_ret
  exact ⟨rfl, HB.out⟩
 rw [if_neg hc12_] at H
 have hc12_b0 : (t66 == t44) = false := beq_eq_false_iff_ne.mpr hc12_
 have hc12_bn : (t66 != t44) = true := bne_iff_ne.mpr hc12_
 exact absurd H (by simp)
/-- THE ONE PURE STATEMENT of laws_FnExactTellCredits. -/
def laws_FnExactTellCredits.Pure : Prop := ∀ (l0_0 : List Int) (l0_1 : List Int) (l0_2 : List Int) (l0_3 : List Int) (l0_4 : List (S47)) (l0_5 : List (S47)), (l0_0.length ≤ 9223372036854775807 ∧ ∀ e330 ∈ l0_0, (Lit.int .i64 e330).wf = true) → (l0_1.length ≤ 9223372036854775807 ∧ ∀ e331 ∈ l0_1, (Lit.int .i64 e331).wf = true) → (l0_2.length ≤ 9223372036854775807 ∧ ∀ e332 ∈ l0_2, (Lit.int .i64 e332).wf = true) → (l0_3.length ≤ 9223372036854775807 ∧ ∀ e333 ∈ l0_3, (Lit.int .i64 e333).wf = true) → (l0_4.length ≤ 9223372036854775807 ∧ ∀ e334 ∈ l0_4, ((Lit.int .i64 e334.f0).wf = true) ∧ (((Lit.int .i64 e334.f1).wf = true) ∧ (((Lit.int .i64 e334.f2).wf = true) ∧ (((Lit.int .i64 e334.f3).wf = true) ∧ (((Lit.int .i64 e334.f4).wf = true) ∧ (((Lit.int .i64 e334.f5).wf = true) ∧ (((Lit.int .i64 e334.f6).wf = true) ∧ ((e334.f7.length ≤ 9223372036854775807 ∧ ∀ e335 ∈ e334.f7, (Lit.int .i64 e335).wf = true))))))))) → (l0_5.length ≤ 9223372036854775807 ∧ ∀ e336 ∈ l0_5, ((Lit.int .i64 e336.f0).wf = true) ∧ (((Lit.int .i64 e336.f1).wf = true) ∧ (((Lit.int .i64 e336.f2).wf = true) ∧ (((Lit.int .i64 e336.f3).wf = true) ∧ (((Lit.int .i64 e336.f4).wf = true) ∧ (((Lit.int .i64 e336.f5).wf = true) ∧ (((Lit.int .i64 e336.f6).wf = true) ∧ ((e336.f7.length ≤ 9223372036854775807 ∧ ∀ e337 ∈ e336.f7, (Lit.int .i64 e337).wf = true))))))))) → ∃ k, laws_FnExactTellCredits.f k l0_0 l0_1 l0_2 l0_3 l0_4 l0_5 = some true

end Go.Proofs.Ytlombfmebinjbaa.PFnExactTellCredits
