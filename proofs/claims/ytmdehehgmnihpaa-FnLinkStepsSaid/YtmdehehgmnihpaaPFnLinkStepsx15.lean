-- Written by a program of this session (wip/xp): not trusted, Lean checks it.
import Derived.Test.YtmdehehgmnihpaaPFnLinkStepsx0
import Derived.Test.YtmdehehgmnihpaaPFnLinkStepsx3
import Derived.Test.YtmdehehgmnihpaaPFnLinkStepsx4
import Derived.Test.YtmdehehgmnihpaaPFnLinkStepsx6
import Derived.Test.YtmdehehgmnihpaaPFnLinkStepsx10
import Derived.Test.YtmdehehgmnihpaaPFnLinkStepsx11
import Derived.Test.YtmdehehgmnihpaaPFnLinkStepsx13
namespace Go.Proofs.Ytmdehehgmnihpaa.PFnLinkSteps
open Go.RowKit Go.Proofs.YtmdehehgmnihpaaW.PrintWords Go.Proofs.YtmdehehgmnihpaaW.PrintLast Go.Proofs.YtmdehehgmnihpaaW.PrintMore
attribute [local go_sem] max2_int min2_int max_two min_two max_three min_three max_four min_four   -- for this text's walks alone
set_option linter.unusedVariables false
set_option linter.unusedSimpArgs false

/-! ### impl_DrainLink: function 9, its calls in a row -/
def impl_DrainLink.l9 : Nat → (Int) → (List S66) → (Int) → (Int) → (List (List Int)) → (List (List Int)) → (List Int) → Option ((Int) × (List S66) × (Int) × (Int) × (List (List Int)) × (List (List Int)) × (List Int))
 | 0, _, _, _, _, _, _, _ => none
 | k + 1, x9_0, x9_1, x9_2, x9_3, x9_4, x9_5, x9_6 => ((impl_Link_send.f k x9_0 x9_1 x9_2 x9_3 x9_4 x9_5 x9_6).bind fun ⟨t17, t18, t19, t20, t21, t22, t23, t24⟩ => (if t17 = true then (impl_DrainLink.l9 k t18 t19 t20 t21 t22 t23 t24) else (some (t18, t19, t20, t21, t22, t23, t24))))
def impl_DrainLink.l11 : Nat → (Int) → (List S66) → (Int) → (Int) → (List (List Int)) → (List (List Int)) → (List Int) → Option ((Int) × (List S66) × (Int) × (Int) × (List (List Int)) × (List (List Int)) × (List Int))
 | 0, _, _, _, _, _, _, _ => none
 | k + 1, x11_0, x11_1, x11_2, x11_3, x11_4, x11_5, x11_6 => ((impl_Link_deliver.f k x11_0 x11_1 x11_2 x11_3 x11_4 x11_5 x11_6).bind fun ⟨t25, t26, t27, t28, t29, t30, t31, t32⟩ => (if t25 = true then (impl_DrainLink.l11 k t26 t27 t28 t29 t30 t31 t32) else (some (t26, t27, t28, t29, t30, t31, t32))))
def impl_DrainLink.l13 : Nat → (Int) → (List S66) → (Int) → (Int) → (List (List Int)) → (List (List Int)) → (List Int) → Option ((Int) × (List S66) × (Int) × (Int) × (List (List Int)) × (List (List Int)) × (List Int))
 | 0, _, _, _, _, _, _, _ => none
 | k + 1, x13_0, x13_1, x13_2, x13_3, x13_4, x13_5, x13_6 => ((impl_Link_answer.f k x13_0 x13_1 x13_2 x13_3 x13_4 x13_5 x13_6).bind fun ⟨t33, t34, t35, t36, t37, t38, t39, t40⟩ => (if t33 = true then (impl_DrainLink.l13 k t34 t35 t36 t37 t38 t39 t40) else (some (t34, t35, t36, t37, t38, t39, t40))))
def impl_DrainLink.l7 : Nat → (Int) → (Int) → (List S66) → (Int) → (Int) → (List (List Int)) → (List (List Int)) → (List Int) → Option ((Int) × (Int) × (List S66) × (Int) × (Int) × (List (List Int)) × (List (List Int)) × (List Int))
 | 0, _, _, _, _, _, _, _, _ => none
 | k + 1, x7_s10, x7_0, x7_1, x7_2, x7_3, x7_4, x7_5, x7_6 => (if x7_s10 < 200 then (if (x7_1.length : Int) = 0 then (if (x7_5.length : Int) = 0 then (if (x7_6.length : Int) = 0 then (some (x7_s10, x7_0, x7_1, x7_2, x7_3, x7_4, x7_5, x7_6)) else ((impl_Link_step.f k x7_0 x7_1 x7_2 x7_3 x7_4 x7_5 x7_6 6 0).bind fun ⟨t9, t10, t11, t12, t13, t14, t15, t16⟩ => ((impl_DrainLink.l9 k t10 t11 t12 t13 t14 t15 t16).bind fun ⟨z9_0, z9_1, z9_2, z9_3, z9_4, z9_5, z9_6⟩ => ((impl_DrainLink.l11 k z9_0 z9_1 z9_2 z9_3 z9_4 z9_5 z9_6).bind fun ⟨z11_0, z11_1, z11_2, z11_3, z11_4, z11_5, z11_6⟩ => ((impl_DrainLink.l13 k z11_0 z11_1 z11_2 z11_3 z11_4 z11_5 z11_6).bind fun ⟨z13_0, z13_1, z13_2, z13_3, z13_4, z13_5, z13_6⟩ => (impl_DrainLink.l7 k (wrap64 (x7_s10 + 1)) z13_0 z13_1 z13_2 z13_3 z13_4 z13_5 z13_6)))))) else ((impl_Link_step.f k x7_0 x7_1 x7_2 x7_3 x7_4 x7_5 x7_6 6 0).bind fun ⟨t41, t42, t43, t44, t45, t46, t47, t48⟩ => ((impl_DrainLink.l9 k t42 t43 t44 t45 t46 t47 t48).bind fun ⟨z16_0, z16_1, z16_2, z16_3, z16_4, z16_5, z16_6⟩ => ((impl_DrainLink.l11 k z16_0 z16_1 z16_2 z16_3 z16_4 z16_5 z16_6).bind fun ⟨z18_0, z18_1, z18_2, z18_3, z18_4, z18_5, z18_6⟩ => ((impl_DrainLink.l13 k z18_0 z18_1 z18_2 z18_3 z18_4 z18_5 z18_6).bind fun ⟨z20_0, z20_1, z20_2, z20_3, z20_4, z20_5, z20_6⟩ => (impl_DrainLink.l7 k (wrap64 (x7_s10 + 1)) z20_0 z20_1 z20_2 z20_3 z20_4 z20_5 z20_6)))))) else ((impl_Link_step.f k x7_0 x7_1 x7_2 x7_3 x7_4 x7_5 x7_6 6 0).bind fun ⟨t73, t74, t75, t76, t77, t78, t79, t80⟩ => ((impl_DrainLink.l9 k t74 t75 t76 t77 t78 t79 t80).bind fun ⟨z23_0, z23_1, z23_2, z23_3, z23_4, z23_5, z23_6⟩ => ((impl_DrainLink.l11 k z23_0 z23_1 z23_2 z23_3 z23_4 z23_5 z23_6).bind fun ⟨z25_0, z25_1, z25_2, z25_3, z25_4, z25_5, z25_6⟩ => ((impl_DrainLink.l13 k z25_0 z25_1 z25_2 z25_3 z25_4 z25_5 z25_6).bind fun ⟨z27_0, z27_1, z27_2, z27_3, z27_4, z27_5, z27_6⟩ => (impl_DrainLink.l7 k (wrap64 (x7_s10 + 1)) z27_0 z27_1 z27_2 z27_3 z27_4 z27_5 z27_6)))))) else (some (x7_s10, x7_0, x7_1, x7_2, x7_3, x7_4, x7_5, x7_6)))
def impl_DrainLink.f (k : Nat) (a0_0 : Int) (l0_1 : List (S66)) (a0_2 : Int) (a0_3 : Int) (l0_4 : List (List Int)) (l0_5 : List (List Int)) (l0_6 : List Int) : Option ((Int) × (List (S66)) × (Int) × (Int) × (List (List Int)) × (List (List Int)) × (List Int)) := ((impl_copyLink.f k a0_0 l0_1 a0_2 a0_3 l0_4 l0_5 l0_6).bind fun ⟨t1, t2, t3, t4, t5, t6, t7⟩ => ((impl_LinkOk.f k a0_0 l0_1 a0_2 a0_3 l0_4 l0_5 l0_6).bind fun t8 => (if t8 = true then ((impl_DrainLink.l7 k 0 t1 t2 t3 t4 t5 t6 t7).bind fun ⟨z7_s10, z7_0, z7_1, z7_2, z7_3, z7_4, z7_5, z7_6⟩ => (some (z7_0, z7_1, z7_2, z7_3, z7_4, z7_5, z7_6))) else (some (t1, t2, t3, t4, t5, t6, t7)))))
set_option maxHeartbeats 8000000 in
set_option maxRecDepth 100000 in
theorem impl_DrainLink.calls (k : Nat) (a0_0 : Int) (A0_1 : Option Addr) (c0_1 : Nat) (l0_1 : List (S66)) (a0_2 : Int) (a0_3 : Int) (A0_4 : Option Addr) (c0_4 : Nat) (l0_4 : List (List Int)) (A0_5 : Option Addr) (c0_5 : Nat) (l0_5 : List (List Int)) (A0_6 : Option Addr) (c0_6 : Nat) (l0_6 : List Int) (r1 : Int) (r2 : List (S66)) (r3 : Int) (r4 : Int) (r5 : List (List Int)) (r6 : List (List Int)) (r7 : List Int) (w : World) (hr0_1 : Kd.C k66 w A0_1 l0_1.length l0_1) (hc0_1 : l0_1.length ≤ c0_1) (hr0_4 : Kd.C (Kd.slice 3 (Kd.int .i64)) w A0_4 l0_4.length l0_4) (hc0_4 : l0_4.length ≤ c0_4) (hr0_5 : Kd.C (Kd.slice 3 (Kd.int .i64)) w A0_5 l0_5.length l0_5) (hc0_5 : l0_5.length ≤ c0_5) (hr0_6 : Kd.C (Kd.int .i64) w A0_6 l0_6.length l0_6) (hc0_6 : l0_6.length ≤ c0_6) (h : impl_DrainLink.f k a0_0 l0_1 a0_2 a0_3 l0_4 l0_5 l0_6 = some (r1, r2, r3, r4, r5, r6, r7)) :
  Calls Try.prog 9 #[.agg #[.int .i64 a0_0, .slice A0_1 l0_1.length c0_1, .int .i64 a0_2, .int .i64 a0_3, .slice A0_4 l0_4.length c0_4, .slice A0_5 l0_5.length c0_5, .slice A0_6 l0_6.length c0_6]] w fun e w' => ∃ f_ : Nat → Nat, ∃ v0_ v1_ v2_ v3_ : Value, e = .returned (.agg #[.int .i64 r1, v0_, .int .i64 r3, .int .i64 r4, v1_, v2_, v3_]) ∧ Kd.S k66 66 w' w.heap.size (fun k_ => f_ k_ = 0) v0_ r2 ∧ Kd.S (Kd.slice 3 (Kd.int .i64)) 32 w' w.heap.size (fun k_ => f_ k_ = 1) v1_ r5 ∧ Kd.S (Kd.slice 3 (Kd.int .i64)) 32 w' w.heap.size (fun k_ => f_ k_ = 2) v2_ r6 ∧ Kd.R (Kd.int .i64) 3 w' w.heap.size (fun k_ => f_ k_ = 3) v3_ r7 ∧ Below w.heap.size w w' := by
 have HR0_1 := A_.mk hr0_1
 have HC0_1 := A_.mk hc0_1
 clear hr0_1 hc0_1
 have HR0_4 := A_.mk hr0_4
 have HC0_4 := A_.mk hc0_4
 clear hr0_4 hc0_4
 have HR0_5 := A_.mk hr0_5
 have HC0_5 := A_.mk hc0_5
 clear hr0_5 hc0_5
 have HR0_6 := A_.mk hr0_6
 have HC0_6 := A_.mk hc0_6
 clear hr0_6 hc0_6
 have HB := A_.mk (Below.refl w.heap.size w)
 unfold impl_DrainLink.f at h
 have H := h
 clear h
 replace H := oa_ H
 obtain ⟨⟨t1, t2, t3, t4, t5, t6, t7⟩, A3, H⟩ := H
 try dsimp only at H
 replace H := oa_ H
 obtain ⟨t8, A6, H⟩ := H
 replace H := A_.mk H
 have hu34 := Try.underlying34
 go_enter Try.func9, Try.ntmps9
 have HS := A_.mk (Nat.le_refl w.heap.size)
 go_wp2_with (first | ((with_reducible refine gd_ (N := 1) rfl ?_); refine by_ 1 (cs := #[.int .i64 a0_0, .slice A0_1 l0_1.length c0_1, .int .i64 a0_2, .int .i64 a0_3, .slice A0_4 l0_4.length c0_4, .slice A0_5 l0_5.length c0_5, .slice A0_6 l0_6.length c0_6]) (t := 34) ?_; intro gb1_ hg w1_ hbox hb; replace HS := A_.mk (And.intro HS.out (show gb1_ = w.heap.size ∧ gb1_ < w1_.heap.size from ⟨hg, blk_lt hbox⟩)); replace HB := aHB HB hb; have BK1 := A_.mk hbox; clear hbox hb hg; have Q1 := blk7_ BK1.out) | ((with_reducible refine gd_ (N := 2) rfl ?_); refine by_ 2 (cs := #[.int .i64 0, .slice none 0 0, .int .i64 0, .int .i64 0, .slice none 0 0, .slice none 0 0, .slice none 0 0]) (t := 34) ?_; intro gb2_ hg w2_ hbox hb; replace HS := A_.mk (And.intro HS.out (show gb2_ = w1_.heap.size ∧ gb2_ < w2_.heap.size from ⟨hg, blk_lt hbox⟩)); replace BK1 := aBb BK1 hb; replace HB := aHB HB hb; have BK2 := A_.mk hbox; clear hbox hb hg Q1; have Q1 := blk7_ BK1.out; have Q2 := blk7_ BK2.out) | ((with_reducible refine gc_ (f := 12) rfl ?_); refine gl_ (some 5) Try.func12 #[.agg #[.int .i64 a0_0, .slice A0_1 l0_1.length c0_1, .int .i64 a0_2, .int .i64 a0_3, .slice A0_4 l0_4.length c0_4, .slice A0_5 l0_5.length c0_5, .slice A0_6 l0_6.length c0_6]] ?_; (with_reducible refine (impl_copyLink.calls k a0_0 _ _ l0_1 a0_2 a0_3 _ _ l0_4 _ _ l0_5 _ _ l0_6 t1 t2 t3 t4 t5 t6 t7 _ (Kd.C_below HR0_1.out HB.out) HC0_1.out (Kd.C_below HR0_4.out HB.out) HC0_4.out (Kd.C_below HR0_5.out HB.out) HC0_5.out (Kd.C_below HR0_6.out HB.out) HC0_6.out A3.out).mono ?_); rintro e w3_ ⟨f3_, v0_, v1_, v2_, v3_, rfl, ho0_, ho1_, ho2_, ho3_, hb⟩; refine ⟨_, rfl, ?_⟩; replace HS := aHs HS hb.size; obtain ⟨Ao3_0, co3_0, ev_⟩ := Kd.S_slice ho0_; subst ev_; have HO3_0 := aSn ho0_ HB.out.size; obtain ⟨Ao3_1, co3_1, ev_⟩ := Kd.S_slice ho1_; subst ev_; have HO3_1 := aSn ho1_ HB.out.size; obtain ⟨Ao3_2, co3_2, ev_⟩ := Kd.S_slice ho2_; subst ev_; have HO3_2 := aSn ho2_ HB.out.size; obtain ⟨Ao3_3, co3_3, ev_⟩ := Kd.R_slice ho3_; subst ev_; have HO3_3 := aRn ho3_ HB.out.size; replace BK1 := aBb BK1 hb; replace BK2 := aBb BK2 hb; replace HB := aHB HB hb; clear hb ho0_ ho1_ ho2_ ho3_ Q1 Q2; have Q1 := blk7_ BK1.out; have Q2 := blk7_ BK2.out) | ((with_reducible refine gd_ (N := 3) rfl ?_); refine by_ 3 (cs := #[.int .i64 0, .slice none 0 0, .int .i64 0, .int .i64 0, .slice none 0 0, .slice none 0 0, .slice none 0 0]) (t := 34) ?_; intro gb4_ hg w4_ hbox hb; replace HS := A_.mk (And.intro HS.out (show gb4_ = w3_.heap.size ∧ gb4_ < w4_.heap.size from ⟨hg, blk_lt hbox⟩)); replace HO3_0 := aSb HO3_0 hb; replace HO3_1 := aSb HO3_1 hb; replace HO3_2 := aSb HO3_2 hb; replace HO3_3 := aRb HO3_3 hb; replace BK1 := aBb BK1 hb; replace BK2 := aBb BK2 hb; replace HB := aHB HB hb; have BK4 := A_.mk hbox; clear hbox hb hg Q1 Q2; have Q1 := blk7_ BK1.out; have Q2 := blk7_ BK2.out; have Q4 := blk7_ BK4.out) | ((with_reducible refine gate_store (t := 34) (p := 3) rfl ?_); have qf0 := bf_ BK4.out 0; have qf1 := bf_ BK4.out 1; have qf2 := bf_ BK4.out 2; have qf3 := bf_ BK4.out 3; have qf4 := bf_ BK4.out 4; have qf5 := bf_ BK4.out 5; have qf6 := bf_ BK4.out 6; refine se_ (t := 34) (p := 3) (v := ?vo_5) (w1 := (ch7_ w4_ gb4_ (.int .i64 t1) (.slice Ao3_0 t2.length co3_0) (.int .i64 t3) (.int .i64 t4) (.slice Ao3_1 t5.length co3_1) (.slice Ao3_2 t6.length co3_2) (.slice Ao3_3 t7.length co3_3))) ?hg ?ho ?hn ?hr ?_; (case ho => rfl); (case hg => rfl); (case hn => rfl); (case hr => first | (go_simp; done) | (go_simp; rfl)); intro w5_ hw; clear qf0 qf1 qf2 qf3 qf4 qf5 qf6; obtain ⟨hbx, hkp, hbb⟩ := st7_ hw BK4 HB (by have := HS.out; omega); clear hw; replace HO3_0 := aSk HO3_0 hkp HS; replace HO3_1 := aSk HO3_1 hkp HS; replace HO3_2 := aSk HO3_2 hkp HS; replace HO3_3 := aRk HO3_3 hkp HS; replace BK1 := aBk BK1 hkp HS; replace BK2 := aBk BK2 hkp HS; replace BK4 := A_.mk hbx; replace HB := A_.mk hbb; replace HS := aHs HS hkp.1; clear hkp hbb hbx Q1 Q2 Q4; have Q1 := blk7_ BK1.out; have Q2 := blk7_ BK2.out; have Q4 := blk7_ BK4.out))
 (with_reducible refine (impl_LinkOk.calls k a0_0 _ _ l0_1 a0_2 a0_3 _ _ l0_4 _ _ l0_5 _ _ l0_6 t8 _ (Kd.C_below HR0_1.out HB.out) HC0_1.out (Kd.C_below HR0_4.out HB.out) HC0_4.out (Kd.C_below HR0_5.out HB.out) HC0_5.out (Kd.C_below HR0_6.out HB.out) HC0_6.out A6.out).mono ?_)
 rintro e w6_ ⟨rfl, hb⟩
 replace HS := aHs HS hb.size
 replace HO3_0 := aSb HO3_0 hb
 replace HO3_1 := aSb HO3_1 hb
 replace HO3_2 := aSb HO3_2 hb
 replace HO3_3 := aRb HO3_3 hb
 replace BK1 := aBb BK1 hb
 replace BK2 := aBb BK2 hb
 replace BK4 := aBb BK4 hb
 replace HB := aHB HB hb
 clear hb  Q1 Q2 Q4
 have Q1 := blk7_ BK1.out
 have Q2 := blk7_ BK2.out
 have Q4 := blk7_ BK4.out
 replace H := H.out
 by_cases hc1_ : t8 = true
 case neg =>
  rw [if_neg hc1_] at H
  replace hc1_ := eq_false_of_ne_true hc1_
  subst hc1_
  simp only [Option.some.injEq, Prod.mk.injEq] at H
  obtain ⟨rfl, rfl, rfl, rfl, rfl, rfl, rfl⟩ := H
  go_wp2_with (first | ((with_reducible refine gate_store (t := 34) (p := 2) rfl ?_); have qf0 := bf_ BK2.out 0; have qf1 := bf_ BK2.out 1; have qf2 := bf_ BK2.out 2; have qf3 := bf_ BK2.out 3; have qf4 := bf_ BK2.out 4; have qf5 := bf_ BK2.out 5; have qf6 := bf_ BK2.out 6; refine se_ (t := 34) (p := 2) (v := ?vo_30) (w1 := (ch7_ w6_ gb2_ (.int .i64 t1) (.slice Ao3_0 t2.length co3_0) (.int .i64 t3) (.int .i64 t4) (.slice Ao3_1 t5.length co3_1) (.slice Ao3_2 t6.length co3_2) (.slice Ao3_3 t7.length co3_3))) ?hg ?ho ?hn ?hr ?_; (case ho => rfl); (case hg => rfl); (case hn => rfl); (case hr => first | (go_simp; done) | (go_simp; rfl)); intro w30_ hw; clear qf0 qf1 qf2 qf3 qf4 qf5 qf6; obtain ⟨hbx, hkp, hbb⟩ := st7_ hw BK2 HB (by have := HS.out; omega); clear hw; replace HO3_0 := aSk HO3_0 hkp HS; replace HO3_1 := aSk HO3_1 hkp HS; replace HO3_2 := aSk HO3_2 hkp HS; replace HO3_3 := aRk HO3_3 hkp HS; replace BK1 := aBk BK1 hkp HS; replace BK4 := aBk BK4 hkp HS; replace BK2 := A_.mk hbx; replace HB := A_.mk hbb; replace HS := aHs HS hkp.1; clear hkp hbb hbx Q1 Q2 Q4; have Q1 := blk7_ BK1.out; have Q2 := blk7_ BK2.out; have Q4 := blk7_ BK4.out))
  refine bodyPost_ret (results_cell_row rfl _ _ gb2_ 34 #[.int .i64 t1, .slice Ao3_0 t2.length co3_0, .int .i64 t3, .int .i64 t4, .slice Ao3_1 t5.length co3_1, .slice Ao3_2 t6.length co3_2, .slice Ao3_3 t7.length co3_3] (0, 0) _ rfl BK2.out Try.underlying34 rfl (by kernel_rfl)) rfl ?_
  obtain ⟨f_, hf_⟩ : ∃ f_ : Nat → Nat, ∀ k_, f_ k_ = (if ((w2_.heap.size ≤ k_ ∧ k_ < w3_.heap.size) ∧ f3_ k_ = 0) then 0 else (if ((w2_.heap.size ≤ k_ ∧ k_ < w3_.heap.size) ∧ f3_ k_ = 1) then 1 else (if ((w2_.heap.size ≤ k_ ∧ k_ < w3_.heap.size) ∧ f3_ k_ = 2) then 2 else (if ((w2_.heap.size ≤ k_ ∧ k_ < w3_.heap.size) ∧ f3_ k_ = 3) then 3 else 0)))) := ⟨fun k_ => (if ((w2_.heap.size ≤ k_ ∧ k_ < w3_.heap.size) ∧ f3_ k_ = 0) then 0 else (if ((w2_.heap.size ≤ k_ ∧ k_ < w3_.heap.size) ∧ f3_ k_ = 1) then 1 else (if ((w2_.heap.size ≤ k_ ∧ k_ < w3_.heap.size) ∧ f3_ k_ = 2) then 2 else (if ((w2_.heap.size ≤ k_ ∧ k_ < w3_.heap.size) ∧ f3_ k_ = 3) then 3 else 0)))), fun _ => rfl⟩
  have hcol0_ : ∀ k_, (((w2_.heap.size ≤ k_ ∧ k_ < w3_.heap.size) ∧ f3_ k_ = 0)) → f_ k_ = 0 := fun k_ hk_ => by rw [hf_]; have := HS.out; repeat' (first | omega | split)
  have hcol1_ : ∀ k_, (((w2_.heap.size ≤ k_ ∧ k_ < w3_.heap.size) ∧ f3_ k_ = 1)) → f_ k_ = 1 := fun k_ hk_ => by rw [hf_]; have := HS.out; repeat' (first | omega | split)
  have hcol2_ : ∀ k_, (((w2_.heap.size ≤ k_ ∧ k_ < w3_.heap.size) ∧ f3_ k_ = 2)) → f_ k_ = 2 := fun k_ hk_ => by rw [hf_]; have := HS.out; repeat' (first | omega | split)
  have hcol3_ : ∀ k_, (((w2_.heap.size ≤ k_ ∧ k_ < w3_.heap.size) ∧ f3_ k_ = 3)) → f_ k_ = 3 := fun k_ hk_ => by rw [hf_]; have := HS.out; repeat' (first | omega | split)
  exact ⟨f_, _, _, _, _, rfl, Kd.S_mono HO3_0.out hcol0_, Kd.S_mono HO3_1.out hcol1_, Kd.S_mono HO3_2.out hcol2_, Kd.R_mono HO3_3.out hcol3_, HB.out⟩
 rw [if_pos hc1_] at H
 subst hc1_
 replace H := ob_ H
 obtain ⟨⟨z7_s10, z7_0, z7_1, z7_2, z7_3, z7_4, z7_5, z7_6⟩, AL_, H⟩ := H
 have HRL7 := A_.mk H
 have AL7 := A_.mk AL_
 clear H AL_
 go_wp2
 obtain ⟨fp31_, hfp_⟩ : ∃ f_ : Nat → Nat, ∀ k_, f_ k_ = (if ((w2_.heap.size ≤ k_ ∧ k_ < w3_.heap.size) ∧ f3_ k_ = 0) then 0 else (if ((w2_.heap.size ≤ k_ ∧ k_ < w3_.heap.size) ∧ f3_ k_ = 1) then 1 else (if ((w2_.heap.size ≤ k_ ∧ k_ < w3_.heap.size) ∧ f3_ k_ = 2) then 2 else (if ((w2_.heap.size ≤ k_ ∧ k_ < w3_.heap.size) ∧ f3_ k_ = 3) then 3 else 4)))) := ⟨fun k_ => (if ((w2_.heap.size ≤ k_ ∧ k_ < w3_.heap.size) ∧ f3_ k_ = 0) then 0 else (if ((w2_.heap.size ≤ k_ ∧ k_ < w3_.heap.size) ∧ f3_ k_ = 1) then 1 else (if ((w2_.heap.size ≤ k_ ∧ k_ < w3_.heap.size) ∧ f3_ k_ = 2) then 2 else (if ((w2_.heap.size ≤ k_ ∧ k_ < w3_.heap.size) ∧ f3_ k_ = 3) then 3 else 4)))), fun _ => rfl⟩
 have hcp1_ : ∀ k_, (((w2_.heap.size ≤ k_ ∧ k_ < w3_.heap.size) ∧ f3_ k_ = 0)) → ((w.heap.size ≤ k_ ∧ k_ < w6_.heap.size) ∧ k_ ≠ gb4_ ∧ fp31_ k_ = 0) := fun k_ hk_ => ⟨by have := HS.out; omega, by have := HS.out; omega, by rw [hfp_]; have := HS.out; repeat' (first | omega | split)⟩
 have hcp4_ : ∀ k_, (((w2_.heap.size ≤ k_ ∧ k_ < w3_.heap.size) ∧ f3_ k_ = 1)) → ((w.heap.size ≤ k_ ∧ k_ < w6_.heap.size) ∧ k_ ≠ gb4_ ∧ fp31_ k_ = 1) := fun k_ hk_ => ⟨by have := HS.out; omega, by have := HS.out; omega, by rw [hfp_]; have := HS.out; repeat' (first | omega | split)⟩
 have hcp5_ : ∀ k_, (((w2_.heap.size ≤ k_ ∧ k_ < w3_.heap.size) ∧ f3_ k_ = 2)) → ((w.heap.size ≤ k_ ∧ k_ < w6_.heap.size) ∧ k_ ≠ gb4_ ∧ fp31_ k_ = 2) := fun k_ hk_ => ⟨by have := HS.out; omega, by have := HS.out; omega, by rw [hfp_]; have := HS.out; repeat' (first | omega | split)⟩
 have hcp6_ : ∀ k_, (((w2_.heap.size ≤ k_ ∧ k_ < w3_.heap.size) ∧ f3_ k_ = 3)) → ((w.heap.size ≤ k_ ∧ k_ < w6_.heap.size) ∧ k_ ≠ gb4_ ∧ fp31_ k_ = 3) := fun k_ hk_ => ⟨by have := HS.out; omega, by have := HS.out; omega, by rw [hfp_]; have := HS.out; repeat' (first | omega | split)⟩
 have hfb1_ : fp31_ gb1_ = 4 := by rw [hfp_]; have := HS.out; repeat' (first | omega | split)
 have hfb2_ : fp31_ gb2_ = 4 := by rw [hfp_]; have := HS.out; repeat' (first | omega | split)
 go_loopg [10] k (fun kq v10 w' => ∃ (fx7_ : Nat → Nat) (Ax7_1 : Option Addr) (Ax7_4 : Option Addr) (Ax7_5 : Option Addr) (Ax7_6 : Option Addr) (cx7_1 : Nat) (cx7_4 : Nat) (cx7_5 : Nat) (cx7_6 : Nat) (x7_s10 : Int) (x7_0 : Int) (x7_1 : List S66) (x7_2 : Int) (x7_3 : Int) (x7_4 : List (List Int)) (x7_5 : List (List Int)) (x7_6 : List Int), v10 = .int .i64 x7_s10 ∧ A_ (impl_DrainLink.l7 kq x7_s10 x7_0 x7_1 x7_2 x7_3 x7_4 x7_5 x7_6 = some (z7_s10, z7_0, z7_1, z7_2, z7_3, z7_4, z7_5, z7_6)) ∧ A_ (kq ≤ k) ∧ A_ (w'.heap[gb4_]? = some (.cells #[.int .i64 x7_0, .slice Ax7_1 x7_1.length cx7_1, .int .i64 x7_2, .int .i64 x7_3, .slice Ax7_4 x7_4.length cx7_4, .slice Ax7_5 x7_5.length cx7_5, .slice Ax7_6 x7_6.length cx7_6] 34 (0, 0))) ∧ A_ (Kd.S k66 66 w' w.heap.size (fun k_ => (w.heap.size ≤ k_ ∧ k_ < w'.heap.size) ∧ k_ ≠ gb4_ ∧ fx7_ k_ = 0) (.slice Ax7_1 x7_1.length cx7_1) x7_1) ∧ A_ (Kd.S (Kd.slice 3 (Kd.int .i64)) 32 w' w.heap.size (fun k_ => (w.heap.size ≤ k_ ∧ k_ < w'.heap.size) ∧ k_ ≠ gb4_ ∧ fx7_ k_ = 1) (.slice Ax7_4 x7_4.length cx7_4) x7_4) ∧ A_ (Kd.S (Kd.slice 3 (Kd.int .i64)) 32 w' w.heap.size (fun k_ => (w.heap.size ≤ k_ ∧ k_ < w'.heap.size) ∧ k_ ≠ gb4_ ∧ fx7_ k_ = 2) (.slice Ax7_5 x7_5.length cx7_5) x7_5) ∧ A_ (Kd.R (Kd.int .i64) 3 w' w.heap.size (fun k_ => (w.heap.size ≤ k_ ∧ k_ < w'.heap.size) ∧ k_ ≠ gb4_ ∧ fx7_ k_ = 3) (.slice Ax7_6 x7_6.length cx7_6) x7_6) ∧ A_ (w'.heap[gb1_]? = some (.cells #[.int .i64 a0_0, .slice A0_1 l0_1.length c0_1, .int .i64 a0_2, .int .i64 a0_3, .slice A0_4 l0_4.length c0_4, .slice A0_5 l0_5.length c0_5, .slice A0_6 l0_6.length c0_6] 34 (0, 0))) ∧ A_ (w'.heap[gb2_]? = some (.cells #[.int .i64 0, .slice none 0 0, .int .i64 0, .int .i64 0, .slice none 0 0, .slice none 0 0, .slice none 0 0] 34 (0, 0))) ∧ A_ (4 ≤ fx7_ gb1_) ∧ A_ (4 ≤ fx7_ gb2_) ∧ A_ (Below w.heap.size w w') ∧ A_ (w6_.heap.size ≤ w'.heap.size))
 case atStart => exact ⟨fp31_, Ao3_0, Ao3_1, Ao3_2, Ao3_3, co3_0, co3_1, co3_2, co3_3, 0, t1, t2, t3, t4, t5, t6, t7, (by first | rfl | (simp; done) | (simp [*]; done)), AL7, ⟨Nat.le_refl _⟩, BK4, ⟨Kd.S_mono HO3_0.out hcp1_⟩, ⟨Kd.S_mono HO3_1.out hcp4_⟩, ⟨Kd.S_mono HO3_2.out hcp5_⟩, ⟨Kd.R_mono HO3_3.out hcp6_⟩, BK1, BK2, ⟨Nat.le_of_eq hfb1_.symm⟩, ⟨Nat.le_of_eq hfb2_.symm⟩, HB, ⟨Nat.le_refl _⟩⟩
 case round =>
  clear AL7 HB BK1 BK2 BK4 HO3_0 HO3_1 HO3_2 HO3_3 Q1 Q2 Q4 hfp_ hcp1_ hcp4_ hcp5_ hcp6_ hfb1_ hfb2_
  obtain ⟨fx7_, Ax7_1, Ax7_4, Ax7_5, Ax7_6, cx7_1, cx7_4, cx7_5, cx7_6, x7_s10, x7_0, x7_1, x7_2, x7_3, x7_4, x7_5, x7_6, rfl, HA, HKL7, BK4, HOx7_1, HOx7_4, HOx7_5, HOx7_6, BK1, BK2, HG1_, HG2_, HB, HSL_⟩ := hrel
  rename World => wq7_
  replace HS := A_.mk (And.intro HS.out HSL_.out)
  clear HSL_
  replace HS := aHs HS HG1_.out
  clear HG1_
  replace HS := aHs HS HG2_.out
  clear HG2_
  cases gk with
  | zero => exact absurd HA.out (by simp [impl_DrainLink.l7])
  | succ kq7_ =>
   have H := HA.out
   clear HA
   simp only [impl_DrainLink.l7] at H
   have Q1 := blk7_ BK1.out
   have Q2 := blk7_ BK2.out
   have Q4 := blk7_ BK4.out
   by_cases hc2_ : x7_s10 < 200
   case neg =>
    rw [if_neg hc2_] at H
    have hc2_b0 : decide (x7_s10 < 200) = false := decide_eq_false hc2_
    replace hc2_ := A_.mk hc2_
    simp only [Option.some.injEq, Prod.mk.injEq] at H
    obtain ⟨rfl, rfl, rfl, rfl, rfl, rfl, rfl, rfl⟩ := H
    have H := HRL7.out
    clear HRL7
    (try dsimp only at H)
    simp only [Option.some.injEq, Prod.mk.injEq] at H
    obtain ⟨rfl, rfl, rfl, rfl, rfl, rfl, rfl⟩ := H
    go_wp2_with (first | ((with_reducible refine gate_store (t := 34) (p := 2) rfl ?_); have qf0 := bf_ BK2.out 0; have qf1 := bf_ BK2.out 1; have qf2 := bf_ BK2.out 2; have qf3 := bf_ BK2.out 3; have qf4 := bf_ BK2.out 4; have qf5 := bf_ BK2.out 5; have qf6 := bf_ BK2.out 6; refine se_ (t := 34) (p := 2) (v := ?vo_29) (w1 := (ch7_ wq7_ gb2_ (.int .i64 x7_0) (.slice Ax7_1 x7_1.length cx7_1) (.int .i64 x7_2) (.int .i64 x7_3) (.slice Ax7_4 x7_4.length cx7_4) (.slice Ax7_5 x7_5.length cx7_5) (.slice Ax7_6 x7_6.length cx7_6))) ?hg ?ho ?hn ?hr ?_; (case ho => rfl); (case hg => rfl); (case hn => rfl); (case hr => first | (go_simp; done) | (go_simp; rfl)); intro w29_ hw; clear qf0 qf1 qf2 qf3 qf4 qf5 qf6; obtain ⟨hbx, hkp, hbb⟩ := st7_ hw BK2 HB (by have := HS.out; omega); clear hw; replace HOx7_1 := aSk HOx7_1 hkp HS; replace HOx7_4 := aSk HOx7_4 hkp HS; replace HOx7_5 := aSk HOx7_5 hkp HS; replace HOx7_6 := aRk HOx7_6 hkp HS; replace BK1 := aBk BK1 hkp HS; replace BK4 := aBk BK4 hkp HS; replace BK2 := A_.mk hbx; replace HB := A_.mk hbb; replace HS := aHs HS hkp.1; clear hkp hbb hbx Q1 Q2 Q4; have Q1 := blk7_ BK1.out; have Q2 := blk7_ BK2.out; have Q4 := blk7_ BK4.out))
    refine bodyPost_ret (results_cell_row rfl _ _ gb2_ 34 #[.int .i64 x7_0, .slice Ax7_1 x7_1.length cx7_1, .int .i64 x7_2, .int .i64 x7_3, .slice Ax7_4 x7_4.length cx7_4, .slice Ax7_5 x7_5.length cx7_5, .slice Ax7_6 x7_6.length cx7_6] (0, 0) _ rfl BK2.out Try.underlying34 rfl (by kernel_rfl)) rfl ?_
    obtain ⟨f_, hf_⟩ : ∃ f_ : Nat → Nat, ∀ k_, f_ k_ = (if ((w.heap.size ≤ k_ ∧ k_ < wq7_.heap.size) ∧ k_ ≠ gb4_ ∧ fx7_ k_ = 0) then 0 else (if ((w.heap.size ≤ k_ ∧ k_ < wq7_.heap.size) ∧ k_ ≠ gb4_ ∧ fx7_ k_ = 1) then 1 else (if ((w.heap.size ≤ k_ ∧ k_ < wq7_.heap.size) ∧ k_ ≠ gb4_ ∧ fx7_ k_ = 2) then 2 else (if ((w.heap.size ≤ k_ ∧ k_ < wq7_.heap.size) ∧ k_ ≠ gb4_ ∧ fx7_ k_ = 3) then 3 else 0)))) := ⟨fun k_ => (if ((w.heap.size ≤ k_ ∧ k_ < wq7_.heap.size) ∧ k_ ≠ gb4_ ∧ fx7_ k_ = 0) then 0 else (if ((w.heap.size ≤ k_ ∧ k_ < wq7_.heap.size) ∧ k_ ≠ gb4_ ∧ fx7_ k_ = 1) then 1 else (if ((w.heap.size ≤ k_ ∧ k_ < wq7_.heap.size) ∧ k_ ≠ gb4_ ∧ fx7_ k_ = 2) then 2 else (if ((w.heap.size ≤ k_ ∧ k_ < wq7_.heap.size) ∧ k_ ≠ gb4_ ∧ fx7_ k_ = 3) then 3 else 0)))), fun _ => rfl⟩
    have hcol0_ : ∀ k_, (((w.heap.size ≤ k_ ∧ k_ < wq7_.heap.size) ∧ k_ ≠ gb4_ ∧ fx7_ k_ = 0)) → f_ k_ = 0 := fun k_ hk_ => by rw [hf_]; have := HS.out; repeat' (first | omega | split)
    have hcol1_ : ∀ k_, (((w.heap.size ≤ k_ ∧ k_ < wq7_.heap.size) ∧ k_ ≠ gb4_ ∧ fx7_ k_ = 1)) → f_ k_ = 1 := fun k_ hk_ => by rw [hf_]; have := HS.out; repeat' (first | omega | split)
    have hcol2_ : ∀ k_, (((w.heap.size ≤ k_ ∧ k_ < wq7_.heap.size) ∧ k_ ≠ gb4_ ∧ fx7_ k_ = 2)) → f_ k_ = 2 := fun k_ hk_ => by rw [hf_]; have := HS.out; repeat' (first | omega | split)
    have hcol3_ : ∀ k_, (((w.heap.size ≤ k_ ∧ k_ < wq7_.heap.size) ∧ k_ ≠ gb4_ ∧ fx7_ k_ = 3)) → f_ k_ = 3 := fun k_ hk_ => by rw [hf_]; have := HS.out; repeat' (first | omega | split)
    exact ⟨f_, _, _, _, _, rfl, Kd.S_mono HOx7_1.out hcol0_, Kd.S_mono HOx7_4.out hcol1_, Kd.S_mono HOx7_5.out hcol2_, Kd.R_mono HOx7_6.out hcol3_, HB.out⟩
   rw [if_pos hc2_] at H
   have hc2_b0 : decide (x7_s10 < 200) = true := decide_eq_true hc2_
   replace hc2_ := A_.mk hc2_
   by_cases hc3_ : (x7_1.length : Int) = 0
   case neg =>
    rw [if_neg hc3_] at H
    have hc3_b0 : ((x7_1.length : Int) == 0) = false := beq_eq_false_iff_ne.mpr hc3_
    have hc3_bn : ((x7_1.length : Int) != 0) = true := bne_iff_ne.mpr hc3_
    have hc3_b1 : (x7_1.length == 0) = false := by first | simpa using hc3_ | (simp at hc3_ ⊢; omega)
    replace H := oa_ H
    obtain ⟨⟨t73, t74, t75, t76, t77, t78, t79, t80⟩, A22, H⟩ := H
    try dsimp only at H
    replace H := ob_ H
    obtain ⟨⟨z23_0, z23_1, z23_2, z23_3, z23_4, z23_5, z23_6⟩, AL_, H⟩ := H
    have HRL23 := A_.mk H
    have AL23 := A_.mk AL_
    clear H AL_
    go_wp2_with (fail)
    obtain ⟨fp22_, hfp_⟩ : ∃ f_ : Nat → Nat, ∀ k_, f_ k_ = (if ((w.heap.size ≤ k_ ∧ k_ < wq7_.heap.size) ∧ k_ ≠ gb4_ ∧ fx7_ k_ = 0) then 0 else (if ((w.heap.size ≤ k_ ∧ k_ < wq7_.heap.size) ∧ k_ ≠ gb4_ ∧ fx7_ k_ = 1) then 1 else (if ((w.heap.size ≤ k_ ∧ k_ < wq7_.heap.size) ∧ k_ ≠ gb4_ ∧ fx7_ k_ = 2) then 2 else (if ((w.heap.size ≤ k_ ∧ k_ < wq7_.heap.size) ∧ k_ ≠ gb4_ ∧ fx7_ k_ = 3) then 3 else 4)))) := ⟨fun k_ => (if ((w.heap.size ≤ k_ ∧ k_ < wq7_.heap.size) ∧ k_ ≠ gb4_ ∧ fx7_ k_ = 0) then 0 else (if ((w.heap.size ≤ k_ ∧ k_ < wq7_.heap.size) ∧ k_ ≠ gb4_ ∧ fx7_ k_ = 1) then 1 else (if ((w.heap.size ≤ k_ ∧ k_ < wq7_.heap.size) ∧ k_ ≠ gb4_ ∧ fx7_ k_ = 2) then 2 else (if ((w.heap.size ≤ k_ ∧ k_ < wq7_.heap.size) ∧ k_ ≠ gb4_ ∧ fx7_ k_ = 3) then 3 else 4)))), fun _ => rfl⟩
    have hcp1_ : ∀ k_, (((w.heap.size ≤ k_ ∧ k_ < wq7_.heap.size) ∧ k_ ≠ gb4_ ∧ fx7_ k_ = 0)) → ((w.heap.size ≤ k_ ∧ k_ < wq7_.heap.size) ∧ k_ ≠ gb4_ ∧ fp22_ k_ = 0) := fun k_ hk_ => ⟨by have := HS.out; omega, by have := HS.out; omega, by rw [hfp_]; have := HS.out; repeat' (first | omega | split)⟩
    have hcp4_ : ∀ k_, (((w.heap.size ≤ k_ ∧ k_ < wq7_.heap.size) ∧ k_ ≠ gb4_ ∧ fx7_ k_ = 1)) → ((w.heap.size ≤ k_ ∧ k_ < wq7_.heap.size) ∧ k_ ≠ gb4_ ∧ fp22_ k_ = 1) := fun k_ hk_ => ⟨by have := HS.out; omega, by have := HS.out; omega, by rw [hfp_]; have := HS.out; repeat' (first | omega | split)⟩
    have hcp5_ : ∀ k_, (((w.heap.size ≤ k_ ∧ k_ < wq7_.heap.size) ∧ k_ ≠ gb4_ ∧ fx7_ k_ = 2)) → ((w.heap.size ≤ k_ ∧ k_ < wq7_.heap.size) ∧ k_ ≠ gb4_ ∧ fp22_ k_ = 2) := fun k_ hk_ => ⟨by have := HS.out; omega, by have := HS.out; omega, by rw [hfp_]; have := HS.out; repeat' (first | omega | split)⟩
    have hcp6_ : ∀ k_, (((w.heap.size ≤ k_ ∧ k_ < wq7_.heap.size) ∧ k_ ≠ gb4_ ∧ fx7_ k_ = 3)) → ((w.heap.size ≤ k_ ∧ k_ < wq7_.heap.size) ∧ k_ ≠ gb4_ ∧ fp22_ k_ = 3) := fun k_ hk_ => ⟨by have := HS.out; omega, by have := HS.out; omega, by rw [hfp_]; have := HS.out; repeat' (first | omega | split)⟩
    have hfb1_ : fp22_ gb1_ = 4 := by rw [hfp_]; have := HS.out; repeat' (first | omega | split)
    have hfb2_ : fp22_ gb2_ = 4 := by rw [hfp_]; have := HS.out; repeat' (first | omega | split)
    refine (impl_Link_step.calls kq7_ gb4_ fp22_ x7_0 _ _ x7_1 x7_2 x7_3 _ _ x7_4 _ _ x7_5 _ _ x7_6 6 0 t73 t74 t75 t76 t77 t78 t79 t80 w _ HB.out (by have := HS.out; omega) BK4.out (Kd.S_mono HOx7_1.out hcp1_) (Kd.S_mono HOx7_4.out hcp4_) (Kd.S_mono HOx7_5.out hcp5_) (Kd.R_mono HOx7_6.out hcp6_) A22.out).mono ?_
    rintro e w22_ ⟨f22_, v0_, v1_, v2_, v3_, rfl, hbx_, ho1_, ho2_, ho3_, ho4_, hfk_, hbb, hkp⟩
    have hge1_ : 4 ≤ f22_ gb1_ := by have h1_ := hfk_ gb1_ (blk_lt BK1.out); have := hfb1_; have := HS.out; omega
    have hge2_ : 4 ≤ f22_ gb2_ := by have h1_ := hfk_ gb2_ (blk_lt BK2.out); have := hfb2_; have := HS.out; omega
    replace BK1 := A_.mk ((hkp.2 _ (blk_lt BK1.out) (fun _ => by have := hfb1_; have := HS.out; omega)).trans BK1.out)
    replace BK2 := A_.mk ((hkp.2 _ (blk_lt BK2.out) (fun _ => by have := hfb2_; have := HS.out; omega)).trans BK2.out)
    replace BK4 := A_.mk hbx_
    replace HB := A_.mk hbb
    replace HS := aHs HS hkp.1
    replace HS := aHs HS hge1_
    replace HS := aHs HS hge2_
    clear hfk_ hge1_ hge2_
    obtain ⟨Ao22_0, co22_0, ev_⟩ := Kd.S_slice ho1_
    subst ev_
    have HO22_0 := A_.mk ho1_
    obtain ⟨Ao22_1, co22_1, ev_⟩ := Kd.S_slice ho2_
    subst ev_
    have HO22_1 := A_.mk ho2_
    obtain ⟨Ao22_2, co22_2, ev_⟩ := Kd.S_slice ho3_
    subst ev_
    have HO22_2 := A_.mk ho3_
    obtain ⟨Ao22_3, co22_3, ev_⟩ := Kd.R_slice ho4_
    subst ev_
    have HO22_3 := A_.mk ho4_
    clear hkp hbx_ hbb hfp_ hcp1_ hcp4_ hcp5_ hcp6_ ho1_ ho2_ ho3_ ho4_ hfb1_ hfb2_ Q1 Q2 Q4
    have Q1 := blk7_ BK1.out
    have Q2 := blk7_ BK2.out
    have Q4 := blk7_ BK4.out
    go_wp2
    obtain ⟨fp32_, hfp_⟩ : ∃ f_ : Nat → Nat, ∀ k_, f_ k_ = (if ((w.heap.size ≤ k_ ∧ k_ < w22_.heap.size) ∧ k_ ≠ gb4_ ∧ f22_ k_ = 0) then 0 else (if ((w.heap.size ≤ k_ ∧ k_ < w22_.heap.size) ∧ k_ ≠ gb4_ ∧ f22_ k_ = 1) then 1 else (if ((w.heap.size ≤ k_ ∧ k_ < w22_.heap.size) ∧ k_ ≠ gb4_ ∧ f22_ k_ = 2) then 2 else (if ((w.heap.size ≤ k_ ∧ k_ < w22_.heap.size) ∧ k_ ≠ gb4_ ∧ f22_ k_ = 3) then 3 else 4)))) := ⟨fun k_ => (if ((w.heap.size ≤ k_ ∧ k_ < w22_.heap.size) ∧ k_ ≠ gb4_ ∧ f22_ k_ = 0) then 0 else (if ((w.heap.size ≤ k_ ∧ k_ < w22_.heap.size) ∧ k_ ≠ gb4_ ∧ f22_ k_ = 1) then 1 else (if ((w.heap.size ≤ k_ ∧ k_ < w22_.heap.size) ∧ k_ ≠ gb4_ ∧ f22_ k_ = 2) then 2 else (if ((w.heap.size ≤ k_ ∧ k_ < w22_.heap.size) ∧ k_ ≠ gb4_ ∧ f22_ k_ = 3) then 3 else 4)))), fun _ => rfl⟩
    have hcp1_ : ∀ k_, (((w.heap.size ≤ k_ ∧ k_ < w22_.heap.size) ∧ k_ ≠ gb4_ ∧ f22_ k_ = 0)) → ((w.heap.size ≤ k_ ∧ k_ < w22_.heap.size) ∧ k_ ≠ gb4_ ∧ fp32_ k_ = 0) := fun k_ hk_ => ⟨by have := HS.out; omega, by have := HS.out; omega, by rw [hfp_]; have := HS.out; repeat' (first | omega | split)⟩
    have hcp4_ : ∀ k_, (((w.heap.size ≤ k_ ∧ k_ < w22_.heap.size) ∧ k_ ≠ gb4_ ∧ f22_ k_ = 1)) → ((w.heap.size ≤ k_ ∧ k_ < w22_.heap.size) ∧ k_ ≠ gb4_ ∧ fp32_ k_ = 1) := fun k_ hk_ => ⟨by have := HS.out; omega, by have := HS.out; omega, by rw [hfp_]; have := HS.out; repeat' (first | omega | split)⟩
    have hcp5_ : ∀ k_, (((w.heap.size ≤ k_ ∧ k_ < w22_.heap.size) ∧ k_ ≠ gb4_ ∧ f22_ k_ = 2)) → ((w.heap.size ≤ k_ ∧ k_ < w22_.heap.size) ∧ k_ ≠ gb4_ ∧ fp32_ k_ = 2) := fun k_ hk_ => ⟨by have := HS.out; omega, by have := HS.out; omega, by rw [hfp_]; have := HS.out; repeat' (first | omega | split)⟩
    have hcp6_ : ∀ k_, (((w.heap.size ≤ k_ ∧ k_ < w22_.heap.size) ∧ k_ ≠ gb4_ ∧ f22_ k_ = 3)) → ((w.heap.size ≤ k_ ∧ k_ < w22_.heap.size) ∧ k_ ≠ gb4_ ∧ fp32_ k_ = 3) := fun k_ hk_ => ⟨by have := HS.out; omega, by have := HS.out; omega, by rw [hfp_]; have := HS.out; repeat' (first | omega | split)⟩
    have hfb1_ : fp32_ gb1_ = 4 := by rw [hfp_]; have := HS.out; repeat' (first | omega | split)
    have hfb2_ : fp32_ gb2_ = 4 := by rw [hfp_]; have := HS.out; repeat' (first | omega | split)
    go_loopg [] kq7_ (fun kq  w' => ∃ (fx23_ : Nat → Nat) (Ax23_1 : Option Addr) (Ax23_4 : Option Addr) (Ax23_5 : Option Addr) (Ax23_6 : Option Addr) (cx23_1 : Nat) (cx23_4 : Nat) (cx23_5 : Nat) (cx23_6 : Nat) (x23_0 : Int) (x23_1 : List S66) (x23_2 : Int) (x23_3 : Int) (x23_4 : List (List Int)) (x23_5 : List (List Int)) (x23_6 : List Int), A_ (impl_DrainLink.l9 kq x23_0 x23_1 x23_2 x23_3 x23_4 x23_5 x23_6 = some (z23_0, z23_1, z23_2, z23_3, z23_4, z23_5, z23_6)) ∧ A_ (kq ≤ kq7_) ∧ A_ (w'.heap[gb4_]? = some (.cells #[.int .i64 x23_0, .slice Ax23_1 x23_1.length cx23_1, .int .i64 x23_2, .int .i64 x23_3, .slice Ax23_4 x23_4.length cx23_4, .slice Ax23_5 x23_5.length cx23_5, .slice Ax23_6 x23_6.length cx23_6] 34 (0, 0))) ∧ A_ (Kd.S k66 66 w' w.heap.size (fun k_ => (w.heap.size ≤ k_ ∧ k_ < w'.heap.size) ∧ k_ ≠ gb4_ ∧ fx23_ k_ = 0) (.slice Ax23_1 x23_1.length cx23_1) x23_1) ∧ A_ (Kd.S (Kd.slice 3 (Kd.int .i64)) 32 w' w.heap.size (fun k_ => (w.heap.size ≤ k_ ∧ k_ < w'.heap.size) ∧ k_ ≠ gb4_ ∧ fx23_ k_ = 1) (.slice Ax23_4 x23_4.length cx23_4) x23_4) ∧ A_ (Kd.S (Kd.slice 3 (Kd.int .i64)) 32 w' w.heap.size (fun k_ => (w.heap.size ≤ k_ ∧ k_ < w'.heap.size) ∧ k_ ≠ gb4_ ∧ fx23_ k_ = 2) (.slice Ax23_5 x23_5.length cx23_5) x23_5) ∧ A_ (Kd.R (Kd.int .i64) 3 w' w.heap.size (fun k_ => (w.heap.size ≤ k_ ∧ k_ < w'.heap.size) ∧ k_ ≠ gb4_ ∧ fx23_ k_ = 3) (.slice Ax23_6 x23_6.length cx23_6) x23_6) ∧ A_ (w'.heap[gb1_]? = some (.cells #[.int .i64 a0_0, .slice A0_1 l0_1.length c0_1, .int .i64 a0_2, .int .i64 a0_3, .slice A0_4 l0_4.length c0_4, .slice A0_5 l0_5.length c0_5, .slice A0_6 l0_6.length c0_6] 34 (0, 0))) ∧ A_ (w'.heap[gb2_]? = some (.cells #[.int .i64 0, .slice none 0 0, .int .i64 0, .int .i64 0, .slice none 0 0, .slice none 0 0, .slice none 0 0] 34 (0, 0))) ∧ A_ (4 ≤ fx23_ gb1_) ∧ A_ (4 ≤ fx23_ gb2_) ∧ A_ (Below w.heap.size w w') ∧ A_ (w22_.heap.size ≤ w'.heap.size))
    case atStart => exact ⟨fp32_, Ao22_0, Ao22_1, Ao22_2, Ao22_3, co22_0, co22_1, co22_2, co22_3, t74, t75, t76, t77, t78, t79, t80, AL23, ⟨Nat.le_refl _⟩, BK4, ⟨Kd.S_mono HO22_0.out hcp1_⟩, ⟨Kd.S_mono HO22_1.out hcp4_⟩, ⟨Kd.S_mono HO22_2.out hcp5_⟩, ⟨Kd.R_mono HO22_3.out hcp6_⟩, BK1, BK2, ⟨Nat.le_of_eq hfb1_.symm⟩, ⟨Nat.le_of_eq hfb2_.symm⟩, HB, ⟨Nat.le_refl _⟩⟩
    case round =>
     clear AL23 HB BK1 BK2 BK4 HO22_0 HO22_1 HO22_2 HO22_3 Q1 Q2 Q4 hfp_ hcp1_ hcp4_ hcp5_ hcp6_ hfb1_ hfb2_
     obtain ⟨fx23_, Ax23_1, Ax23_4, Ax23_5, Ax23_6, cx23_1, cx23_4, cx23_5, cx23_6, x23_0, x23_1, x23_2, x23_3, x23_4, x23_5, x23_6, HA, HKL23, BK4, HOx23_1, HOx23_4, HOx23_5, HOx23_6, BK1, BK2, HG1_, HG2_, HB, HSL_⟩ := hrel
     rename World => wq23_
     replace HS := A_.mk (And.intro HS.out HSL_.out)
     clear HSL_
     replace HS := aHs HS HG1_.out
     clear HG1_
     replace HS := aHs HS HG2_.out
     clear HG2_
     cases gk with
     | zero => exact absurd HA.out (by simp [impl_DrainLink.l9])
     | succ kq23_ =>
      have H := HA.out
      clear HA
      simp only [impl_DrainLink.l9] at H
      have Q1 := blk7_ BK1.out
      have Q2 := blk7_ BK2.out
      have Q4 := blk7_ BK4.out
      replace H := oa_ H
      obtain ⟨⟨t81, t82, t83, t84, t85, t86, t87, t88⟩, A24, H⟩ := H
      try dsimp only at H
      replace H := A_.mk H
      go_wp2_with (fail)
      obtain ⟨fp24_, hfp_⟩ : ∃ f_ : Nat → Nat, ∀ k_, f_ k_ = (if ((w.heap.size ≤ k_ ∧ k_ < wq23_.heap.size) ∧ k_ ≠ gb4_ ∧ fx23_ k_ = 0) then 0 else (if ((w.heap.size ≤ k_ ∧ k_ < wq23_.heap.size) ∧ k_ ≠ gb4_ ∧ fx23_ k_ = 1) then 1 else (if ((w.heap.size ≤ k_ ∧ k_ < wq23_.heap.size) ∧ k_ ≠ gb4_ ∧ fx23_ k_ = 2) then 2 else (if ((w.heap.size ≤ k_ ∧ k_ < wq23_.heap.size) ∧ k_ ≠ gb4_ ∧ fx23_ k_ = 3) then 3 else 4)))) := ⟨fun k_ => (if ((w.heap.size ≤ k_ ∧ k_ < wq23_.heap.size) ∧ k_ ≠ gb4_ ∧ fx23_ k_ = 0) then 0 else (if ((w.heap.size ≤ k_ ∧ k_ < wq23_.heap.size) ∧ k_ ≠ gb4_ ∧ fx23_ k_ = 1) then 1 else (if ((w.heap.size ≤ k_ ∧ k_ < wq23_.heap.size) ∧ k_ ≠ gb4_ ∧ fx23_ k_ = 2) then 2 else (if ((w.heap.size ≤ k_ ∧ k_ < wq23_.heap.size) ∧ k_ ≠ gb4_ ∧ fx23_ k_ = 3) then 3 else 4)))), fun _ => rfl⟩
      have hcp1_ : ∀ k_, (((w.heap.size ≤ k_ ∧ k_ < wq23_.heap.size) ∧ k_ ≠ gb4_ ∧ fx23_ k_ = 0)) → ((w.heap.size ≤ k_ ∧ k_ < wq23_.heap.size) ∧ k_ ≠ gb4_ ∧ fp24_ k_ = 0) := fun k_ hk_ => ⟨by have := HS.out; omega, by have := HS.out; omega, by rw [hfp_]; have := HS.out; repeat' (first | omega | split)⟩
      have hcp4_ : ∀ k_, (((w.heap.size ≤ k_ ∧ k_ < wq23_.heap.size) ∧ k_ ≠ gb4_ ∧ fx23_ k_ = 1)) → ((w.heap.size ≤ k_ ∧ k_ < wq23_.heap.size) ∧ k_ ≠ gb4_ ∧ fp24_ k_ = 1) := fun k_ hk_ => ⟨by have := HS.out; omega, by have := HS.out; omega, by rw [hfp_]; have := HS.out; repeat' (first | omega | split)⟩
      have hcp5_ : ∀ k_, (((w.heap.size ≤ k_ ∧ k_ < wq23_.heap.size) ∧ k_ ≠ gb4_ ∧ fx23_ k_ = 2)) → ((w.heap.size ≤ k_ ∧ k_ < wq23_.heap.size) ∧ k_ ≠ gb4_ ∧ fp24_ k_ = 2) := fun k_ hk_ => ⟨by have := HS.out; omega, by have := HS.out; omega, by rw [hfp_]; have := HS.out; repeat' (first | omega | split)⟩
      have hcp6_ : ∀ k_, (((w.heap.size ≤ k_ ∧ k_ < wq23_.heap.size) ∧ k_ ≠ gb4_ ∧ fx23_ k_ = 3)) → ((w.heap.size ≤ k_ ∧ k_ < wq23_.heap.size) ∧ k_ ≠ gb4_ ∧ fp24_ k_ = 3) := fun k_ hk_ => ⟨by have := HS.out; omega, by have := HS.out; omega, by rw [hfp_]; have := HS.out; repeat' (first | omega | split)⟩
      have hfb1_ : fp24_ gb1_ = 4 := by rw [hfp_]; have := HS.out; repeat' (first | omega | split)
      have hfb2_ : fp24_ gb2_ = 4 := by rw [hfp_]; have := HS.out; repeat' (first | omega | split)
      refine (impl_Link_send.calls kq23_ gb4_ fp24_ x23_0 _ _ x23_1 x23_2 x23_3 _ _ x23_4 _ _ x23_5 _ _ x23_6 t81 t82 t83 t84 t85 t86 t87 t88 w _ HB.out (by have := HS.out; omega) BK4.out (Kd.S_mono HOx23_1.out hcp1_) (Kd.S_mono HOx23_4.out hcp4_) (Kd.S_mono HOx23_5.out hcp5_) (Kd.R_mono HOx23_6.out hcp6_) A24.out).mono ?_
      rintro e w24_ ⟨f24_, v0_, v1_, v2_, v3_, rfl, hbx_, ho1_, ho2_, ho3_, ho4_, hfk_, hbb, hkp⟩
      have hge1_ : 4 ≤ f24_ gb1_ := by have h1_ := hfk_ gb1_ (blk_lt BK1.out); have := hfb1_; have := HS.out; omega
      have hge2_ : 4 ≤ f24_ gb2_ := by have h1_ := hfk_ gb2_ (blk_lt BK2.out); have := hfb2_; have := HS.out; omega
      replace BK1 := A_.mk ((hkp.2 _ (blk_lt BK1.out) (fun _ => by have := hfb1_; have := HS.out; omega)).trans BK1.out)
      replace BK2 := A_.mk ((hkp.2 _ (blk_lt BK2.out) (fun _ => by have := hfb2_; have := HS.out; omega)).trans BK2.out)
      replace BK4 := A_.mk hbx_
      replace HB := A_.mk hbb
      replace HS := aHs HS hkp.1
      replace HS := aHs HS hge1_
      replace HS := aHs HS hge2_
      clear hfk_ hge1_ hge2_
      obtain ⟨Ao24_0, co24_0, ev_⟩ := Kd.S_slice ho1_
      subst ev_
      have HO24_0 := A_.mk ho1_
      obtain ⟨Ao24_1, co24_1, ev_⟩ := Kd.S_slice ho2_
      subst ev_
      have HO24_1 := A_.mk ho2_
      obtain ⟨Ao24_2, co24_2, ev_⟩ := Kd.S_slice ho3_
      subst ev_
      have HO24_2 := A_.mk ho3_
      obtain ⟨Ao24_3, co24_3, ev_⟩ := Kd.R_slice ho4_
      subst ev_
      have HO24_3 := A_.mk ho4_
      clear hkp hbx_ hbb hfp_ hcp1_ hcp4_ hcp5_ hcp6_ ho1_ ho2_ ho3_ ho4_ hfb1_ hfb2_ Q1 Q2 Q4
      have Q1 := blk7_ BK1.out
      have Q2 := blk7_ BK2.out
      have Q4 := blk7_ BK4.out
      replace H := H.out
      by_cases hc4_ : t81 = true
      case pos =>
       rw [if_pos hc4_] at H
       subst hc4_
       have HA := A_.mk H
       clear H
       go_wp2
       obtain ⟨fp33_, hfp_⟩ : ∃ f_ : Nat → Nat, ∀ k_, f_ k_ = (if ((w.heap.size ≤ k_ ∧ k_ < w24_.heap.size) ∧ k_ ≠ gb4_ ∧ f24_ k_ = 0) then 0 else (if ((w.heap.size ≤ k_ ∧ k_ < w24_.heap.size) ∧ k_ ≠ gb4_ ∧ f24_ k_ = 1) then 1 else (if ((w.heap.size ≤ k_ ∧ k_ < w24_.heap.size) ∧ k_ ≠ gb4_ ∧ f24_ k_ = 2) then 2 else (if ((w.heap.size ≤ k_ ∧ k_ < w24_.heap.size) ∧ k_ ≠ gb4_ ∧ f24_ k_ = 3) then 3 else 4)))) := ⟨fun k_ => (if ((w.heap.size ≤ k_ ∧ k_ < w24_.heap.size) ∧ k_ ≠ gb4_ ∧ f24_ k_ = 0) then 0 else (if ((w.heap.size ≤ k_ ∧ k_ < w24_.heap.size) ∧ k_ ≠ gb4_ ∧ f24_ k_ = 1) then 1 else (if ((w.heap.size ≤ k_ ∧ k_ < w24_.heap.size) ∧ k_ ≠ gb4_ ∧ f24_ k_ = 2) then 2 else (if ((w.heap.size ≤ k_ ∧ k_ < w24_.heap.size) ∧ k_ ≠ gb4_ ∧ f24_ k_ = 3) then 3 else 4)))), fun _ => rfl⟩
       have hcp1_ : ∀ k_, (((w.heap.size ≤ k_ ∧ k_ < w24_.heap.size) ∧ k_ ≠ gb4_ ∧ f24_ k_ = 0)) → ((w.heap.size ≤ k_ ∧ k_ < w24_.heap.size) ∧ k_ ≠ gb4_ ∧ fp33_ k_ = 0) := fun k_ hk_ => ⟨by have := HS.out; omega, by have := HS.out; omega, by rw [hfp_]; have := HS.out; repeat' (first | omega | split)⟩
       have hcp4_ : ∀ k_, (((w.heap.size ≤ k_ ∧ k_ < w24_.heap.size) ∧ k_ ≠ gb4_ ∧ f24_ k_ = 1)) → ((w.heap.size ≤ k_ ∧ k_ < w24_.heap.size) ∧ k_ ≠ gb4_ ∧ fp33_ k_ = 1) := fun k_ hk_ => ⟨by have := HS.out; omega, by have := HS.out; omega, by rw [hfp_]; have := HS.out; repeat' (first | omega | split)⟩
       have hcp5_ : ∀ k_, (((w.heap.size ≤ k_ ∧ k_ < w24_.heap.size) ∧ k_ ≠ gb4_ ∧ f24_ k_ = 2)) → ((w.heap.size ≤ k_ ∧ k_ < w24_.heap.size) ∧ k_ ≠ gb4_ ∧ fp33_ k_ = 2) := fun k_ hk_ => ⟨by have := HS.out; omega, by have := HS.out; omega, by rw [hfp_]; have := HS.out; repeat' (first | omega | split)⟩
       have hcp6_ : ∀ k_, (((w.heap.size ≤ k_ ∧ k_ < w24_.heap.size) ∧ k_ ≠ gb4_ ∧ f24_ k_ = 3)) → ((w.heap.size ≤ k_ ∧ k_ < w24_.heap.size) ∧ k_ ≠ gb4_ ∧ fp33_ k_ = 3) := fun k_ hk_ => ⟨by have := HS.out; omega, by have := HS.out; omega, by rw [hfp_]; have := HS.out; repeat' (first | omega | split)⟩
       have hfb1_ : fp33_ gb1_ = 4 := by rw [hfp_]; have := HS.out; repeat' (first | omega | split)
       have hfb2_ : fp33_ gb2_ = 4 := by rw [hfp_]; have := HS.out; repeat' (first | omega | split)
       go_roundg kq23_
       case measure => have := HKL23.out; omega
       case rel => exact ⟨fp33_, Ao24_0, Ao24_1, Ao24_2, Ao24_3, co24_0, co24_1, co24_2, co24_3, t82, t83, t84, t85, t86, t87, t88, HA, ⟨by have := HKL23.out; omega⟩, BK4, ⟨Kd.S_mono HO24_0.out hcp1_⟩, ⟨Kd.S_mono HO24_1.out hcp4_⟩, ⟨Kd.S_mono HO24_2.out hcp5_⟩, ⟨Kd.R_mono HO24_3.out hcp6_⟩, BK1, BK2, ⟨Nat.le_of_eq hfb1_.symm⟩, ⟨Nat.le_of_eq hfb2_.symm⟩, HB, ⟨(by have := HS.out; omega)⟩⟩
      rw [if_neg hc4_] at H
      replace hc4_ := eq_false_of_ne_true hc4_
      subst hc4_
      simp only [Option.some.injEq, Prod.mk.injEq] at H
      obtain ⟨rfl, rfl, rfl, rfl, rfl, rfl, rfl⟩ := H
      have H := HRL23.out
      clear HRL23
      (try dsimp only at H)
      replace H := ob_ H
      obtain ⟨⟨z25_0, z25_1, z25_2, z25_3, z25_4, z25_5, z25_6⟩, AL_, H⟩ := H
      have HRL25 := A_.mk H
      have AL25 := A_.mk AL_
      clear H AL_
      go_wp2
      obtain ⟨fp34_, hfp_⟩ : ∃ f_ : Nat → Nat, ∀ k_, f_ k_ = (if ((w.heap.size ≤ k_ ∧ k_ < w24_.heap.size) ∧ k_ ≠ gb4_ ∧ f24_ k_ = 0) then 0 else (if ((w.heap.size ≤ k_ ∧ k_ < w24_.heap.size) ∧ k_ ≠ gb4_ ∧ f24_ k_ = 1) then 1 else (if ((w.heap.size ≤ k_ ∧ k_ < w24_.heap.size) ∧ k_ ≠ gb4_ ∧ f24_ k_ = 2) then 2 else (if ((w.heap.size ≤ k_ ∧ k_ < w24_.heap.size) ∧ k_ ≠ gb4_ ∧ f24_ k_ = 3) then 3 else 4)))) := ⟨fun k_ => (if ((w.heap.size ≤ k_ ∧ k_ < w24_.heap.size) ∧ k_ ≠ gb4_ ∧ f24_ k_ = 0) then 0 else (if ((w.heap.size ≤ k_ ∧ k_ < w24_.heap.size) ∧ k_ ≠ gb4_ ∧ f24_ k_ = 1) then 1 else (if ((w.heap.size ≤ k_ ∧ k_ < w24_.heap.size) ∧ k_ ≠ gb4_ ∧ f24_ k_ = 2) then 2 else (if ((w.heap.size ≤ k_ ∧ k_ < w24_.heap.size) ∧ k_ ≠ gb4_ ∧ f24_ k_ = 3) then 3 else 4)))), fun _ => rfl⟩
      have hcp1_ : ∀ k_, (((w.heap.size ≤ k_ ∧ k_ < w24_.heap.size) ∧ k_ ≠ gb4_ ∧ f24_ k_ = 0)) → ((w.heap.size ≤ k_ ∧ k_ < w24_.heap.size) ∧ k_ ≠ gb4_ ∧ fp34_ k_ = 0) := fun k_ hk_ => ⟨by have := HS.out; omega, by have := HS.out; omega, by rw [hfp_]; have := HS.out; repeat' (first | omega | split)⟩
      have hcp4_ : ∀ k_, (((w.heap.size ≤ k_ ∧ k_ < w24_.heap.size) ∧ k_ ≠ gb4_ ∧ f24_ k_ = 1)) → ((w.heap.size ≤ k_ ∧ k_ < w24_.heap.size) ∧ k_ ≠ gb4_ ∧ fp34_ k_ = 1) := fun k_ hk_ => ⟨by have := HS.out; omega, by have := HS.out; omega, by rw [hfp_]; have := HS.out; repeat' (first | omega | split)⟩
      have hcp5_ : ∀ k_, (((w.heap.size ≤ k_ ∧ k_ < w24_.heap.size) ∧ k_ ≠ gb4_ ∧ f24_ k_ = 2)) → ((w.heap.size ≤ k_ ∧ k_ < w24_.heap.size) ∧ k_ ≠ gb4_ ∧ fp34_ k_ = 2) := fun k_ hk_ => ⟨by have := HS.out; omega, by have := HS.out; omega, by rw [hfp_]; have := HS.out; repeat' (first | omega | split)⟩
      have hcp6_ : ∀ k_, (((w.heap.size ≤ k_ ∧ k_ < w24_.heap.size) ∧ k_ ≠ gb4_ ∧ f24_ k_ = 3)) → ((w.heap.size ≤ k_ ∧ k_ < w24_.heap.size) ∧ k_ ≠ gb4_ ∧ fp34_ k_ = 3) := fun k_ hk_ => ⟨by have := HS.out; omega, by have := HS.out; omega, by rw [hfp_]; have := HS.out; repeat' (first | omega | split)⟩
      have hfb1_ : fp34_ gb1_ = 4 := by rw [hfp_]; have := HS.out; repeat' (first | omega | split)
      have hfb2_ : fp34_ gb2_ = 4 := by rw [hfp_]; have := HS.out; repeat' (first | omega | split)
      go_loopg [] kq7_ (fun kq  w' => ∃ (fx25_ : Nat → Nat) (Ax25_1 : Option Addr) (Ax25_4 : Option Addr) (Ax25_5 : Option Addr) (Ax25_6 : Option Addr) (cx25_1 : Nat) (cx25_4 : Nat) (cx25_5 : Nat) (cx25_6 : Nat) (x25_0 : Int) (x25_1 : List S66) (x25_2 : Int) (x25_3 : Int) (x25_4 : List (List Int)) (x25_5 : List (List Int)) (x25_6 : List Int), A_ (impl_DrainLink.l11 kq x25_0 x25_1 x25_2 x25_3 x25_4 x25_5 x25_6 = some (z25_0, z25_1, z25_2, z25_3, z25_4, z25_5, z25_6)) ∧ A_ (kq ≤ kq7_) ∧ A_ (w'.heap[gb4_]? = some (.cells #[.int .i64 x25_0, .slice Ax25_1 x25_1.length cx25_1, .int .i64 x25_2, .int .i64 x25_3, .slice Ax25_4 x25_4.length cx25_4, .slice Ax25_5 x25_5.length cx25_5, .slice Ax25_6 x25_6.length cx25_6] 34 (0, 0))) ∧ A_ (Kd.S k66 66 w' w.heap.size (fun k_ => (w.heap.size ≤ k_ ∧ k_ < w'.heap.size) ∧ k_ ≠ gb4_ ∧ fx25_ k_ = 0) (.slice Ax25_1 x25_1.length cx25_1) x25_1) ∧ A_ (Kd.S (Kd.slice 3 (Kd.int .i64)) 32 w' w.heap.size (fun k_ => (w.heap.size ≤ k_ ∧ k_ < w'.heap.size) ∧ k_ ≠ gb4_ ∧ fx25_ k_ = 1) (.slice Ax25_4 x25_4.length cx25_4) x25_4) ∧ A_ (Kd.S (Kd.slice 3 (Kd.int .i64)) 32 w' w.heap.size (fun k_ => (w.heap.size ≤ k_ ∧ k_ < w'.heap.size) ∧ k_ ≠ gb4_ ∧ fx25_ k_ = 2) (.slice Ax25_5 x25_5.length cx25_5) x25_5) ∧ A_ (Kd.R (Kd.int .i64) 3 w' w.heap.size (fun k_ => (w.heap.size ≤ k_ ∧ k_ < w'.heap.size) ∧ k_ ≠ gb4_ ∧ fx25_ k_ = 3) (.slice Ax25_6 x25_6.length cx25_6) x25_6) ∧ A_ (w'.heap[gb1_]? = some (.cells #[.int .i64 a0_0, .slice A0_1 l0_1.length c0_1, .int .i64 a0_2, .int .i64 a0_3, .slice A0_4 l0_4.length c0_4, .slice A0_5 l0_5.length c0_5, .slice A0_6 l0_6.length c0_6] 34 (0, 0))) ∧ A_ (w'.heap[gb2_]? = some (.cells #[.int .i64 0, .slice none 0 0, .int .i64 0, .int .i64 0, .slice none 0 0, .slice none 0 0, .slice none 0 0] 34 (0, 0))) ∧ A_ (4 ≤ fx25_ gb1_) ∧ A_ (4 ≤ fx25_ gb2_) ∧ A_ (Below w.heap.size w w') ∧ A_ (w24_.heap.size ≤ w'.heap.size))
      case atStart => exact ⟨fp34_, Ao24_0, Ao24_1, Ao24_2, Ao24_3, co24_0, co24_1, co24_2, co24_3, t82, t83, t84, t85, t86, t87, t88, AL25, ⟨Nat.le_refl _⟩, BK4, ⟨Kd.S_mono HO24_0.out hcp1_⟩, ⟨Kd.S_mono HO24_1.out hcp4_⟩, ⟨Kd.S_mono HO24_2.out hcp5_⟩, ⟨Kd.R_mono HO24_3.out hcp6_⟩, BK1, BK2, ⟨Nat.le_of_eq hfb1_.symm⟩, ⟨Nat.le_of_eq hfb2_.symm⟩, HB, ⟨Nat.le_refl _⟩⟩
      case round =>
       clear AL25 HB BK1 BK2 BK4 HO24_0 HO24_1 HO24_2 HO24_3 Q1 Q2 Q4 hfp_ hcp1_ hcp4_ hcp5_ hcp6_ hfb1_ hfb2_
       obtain ⟨fx25_, Ax25_1, Ax25_4, Ax25_5, Ax25_6, cx25_1, cx25_4, cx25_5, cx25_6, x25_0, x25_1, x25_2, x25_3, x25_4, x25_5, x25_6, HA, HKL25, BK4, HOx25_1, HOx25_4, HOx25_5, HOx25_6, BK1, BK2, HG1_, HG2_, HB, HSL_⟩ := hrel
       rename World => wq25_
       replace HS := A_.mk (And.intro HS.out HSL_.out)
       clear HSL_
       replace HS := aHs HS HG1_.out
       clear HG1_
       replace HS := aHs HS HG2_.out
       clear HG2_
       cases gk with
       | zero => exact absurd HA.out (by simp [impl_DrainLink.l11])
       | succ kq25_ =>
        have H := HA.out
        clear HA
        simp only [impl_DrainLink.l11] at H
        have Q1 := blk7_ BK1.out
        have Q2 := blk7_ BK2.out
        have Q4 := blk7_ BK4.out
        replace H := oa_ H
        obtain ⟨⟨t89, t90, t91, t92, t93, t94, t95, t96⟩, A26, H⟩ := H
        try dsimp only at H
        replace H := A_.mk H
        go_wp2_with (fail)
        obtain ⟨fp26_, hfp_⟩ : ∃ f_ : Nat → Nat, ∀ k_, f_ k_ = (if ((w.heap.size ≤ k_ ∧ k_ < wq25_.heap.size) ∧ k_ ≠ gb4_ ∧ fx25_ k_ = 0) then 0 else (if ((w.heap.size ≤ k_ ∧ k_ < wq25_.heap.size) ∧ k_ ≠ gb4_ ∧ fx25_ k_ = 1) then 1 else (if ((w.heap.size ≤ k_ ∧ k_ < wq25_.heap.size) ∧ k_ ≠ gb4_ ∧ fx25_ k_ = 2) then 2 else (if ((w.heap.size ≤ k_ ∧ k_ < wq25_.heap.size) ∧ k_ ≠ gb4_ ∧ fx25_ k_ = 3) then 3 else 4)))) := ⟨fun k_ => (if ((w.heap.size ≤ k_ ∧ k_ < wq25_.heap.size) ∧ k_ ≠ gb4_ ∧ fx25_ k_ = 0) then 0 else (if ((w.heap.size ≤ k_ ∧ k_ < wq25_.heap.size) ∧ k_ ≠ gb4_ ∧ fx25_ k_ = 1) then 1 else (if ((w.heap.size ≤ k_ ∧ k_ < wq25_.heap.size) ∧ k_ ≠ gb4_ ∧ fx25_ k_ = 2) then 2 else (if ((w.heap.size ≤ k_ ∧ k_ < wq25_.heap.size) ∧ k_ ≠ gb4_ ∧ fx25_ k_ = 3) then 3 else 4)))), fun _ => rfl⟩
        have hcp1_ : ∀ k_, (((w.heap.size ≤ k_ ∧ k_ < wq25_.heap.size) ∧ k_ ≠ gb4_ ∧ fx25_ k_ = 0)) → ((w.heap.size ≤ k_ ∧ k_ < wq25_.heap.size) ∧ k_ ≠ gb4_ ∧ fp26_ k_ = 0) := fun k_ hk_ => ⟨by have := HS.out; omega, by have := HS.out; omega, by rw [hfp_]; have := HS.out; repeat' (first | omega | split)⟩
        have hcp4_ : ∀ k_, (((w.heap.size ≤ k_ ∧ k_ < wq25_.heap.size) ∧ k_ ≠ gb4_ ∧ fx25_ k_ = 1)) → ((w.heap.size ≤ k_ ∧ k_ < wq25_.heap.size) ∧ k_ ≠ gb4_ ∧ fp26_ k_ = 1) := fun k_ hk_ => ⟨by have := HS.out; omega, by have := HS.out; omega, by rw [hfp_]; have := HS.out; repeat' (first | omega | split)⟩
        have hcp5_ : ∀ k_, (((w.heap.size ≤ k_ ∧ k_ < wq25_.heap.size) ∧ k_ ≠ gb4_ ∧ fx25_ k_ = 2)) → ((w.heap.size ≤ k_ ∧ k_ < wq25_.heap.size) ∧ k_ ≠ gb4_ ∧ fp26_ k_ = 2) := fun k_ hk_ => ⟨by have := HS.out; omega, by have := HS.out; omega, by rw [hfp_]; have := HS.out; repeat' (first | omega | split)⟩
        have hcp6_ : ∀ k_, (((w.heap.size ≤ k_ ∧ k_ < wq25_.heap.size) ∧ k_ ≠ gb4_ ∧ fx25_ k_ = 3)) → ((w.heap.size ≤ k_ ∧ k_ < wq25_.heap.size) ∧ k_ ≠ gb4_ ∧ fp26_ k_ = 3) := fun k_ hk_ => ⟨by have := HS.out; omega, by have := HS.out; omega, by rw [hfp_]; have := HS.out; repeat' (first | omega | split)⟩
        have hfb1_ : fp26_ gb1_ = 4 := by rw [hfp_]; have := HS.out; repeat' (first | omega | split)
        have hfb2_ : fp26_ gb2_ = 4 := by rw [hfp_]; have := HS.out; repeat' (first | omega | split)
        refine (impl_Link_deliver.calls kq25_ gb4_ fp26_ x25_0 _ _ x25_1 x25_2 x25_3 _ _ x25_4 _ _ x25_5 _ _ x25_6 t89 t90 t91 t92 t93 t94 t95 t96 w _ HB.out (by have := HS.out; omega) BK4.out (Kd.S_mono HOx25_1.out hcp1_) (Kd.S_mono HOx25_4.out hcp4_) (Kd.S_mono HOx25_5.out hcp5_) (Kd.R_mono HOx25_6.out hcp6_) A26.out).mono ?_
        rintro e w26_ ⟨f26_, v0_, v1_, v2_, v3_, rfl, hbx_, ho1_, ho2_, ho3_, ho4_, hfk_, hbb, hkp⟩
        have hge1_ : 4 ≤ f26_ gb1_ := by have h1_ := hfk_ gb1_ (blk_lt BK1.out); have := hfb1_; have := HS.out; omega
        have hge2_ : 4 ≤ f26_ gb2_ := by have h1_ := hfk_ gb2_ (blk_lt BK2.out); have := hfb2_; have := HS.out; omega
        replace BK1 := A_.mk ((hkp.2 _ (blk_lt BK1.out) (fun _ => by have := hfb1_; have := HS.out; omega)).trans BK1.out)
        replace BK2 := A_.mk ((hkp.2 _ (blk_lt BK2.out) (fun _ => by have := hfb2_; have := HS.out; omega)).trans BK2.out)
        replace BK4 := A_.mk hbx_
        replace HB := A_.mk hbb
        replace HS := aHs HS hkp.1
        replace HS := aHs HS hge1_
        replace HS := aHs HS hge2_
        clear hfk_ hge1_ hge2_
        obtain ⟨Ao26_0, co26_0, ev_⟩ := Kd.S_slice ho1_
        subst ev_
        have HO26_0 := A_.mk ho1_
        obtain ⟨Ao26_1, co26_1, ev_⟩ := Kd.S_slice ho2_
        subst ev_
        have HO26_1 := A_.mk ho2_
        obtain ⟨Ao26_2, co26_2, ev_⟩ := Kd.S_slice ho3_
        subst ev_
        have HO26_2 := A_.mk ho3_
        obtain ⟨Ao26_3, co26_3, ev_⟩ := Kd.R_slice ho4_
        subst ev_
        have HO26_3 := A_.mk ho4_
        clear hkp hbx_ hbb hfp_ hcp1_ hcp4_ hcp5_ hcp6_ ho1_ ho2_ ho3_ ho4_ hfb1_ hfb2_ Q1 Q2 Q4
        have Q1 := blk7_ BK1.out
        have Q2 := blk7_ BK2.out
        have Q4 := blk7_ BK4.out
        replace H := H.out
        by_cases hc5_ : t89 = true
        case pos =>
         rw [if_pos hc5_] at H
         subst hc5_
         have HA := A_.mk H
         clear H
         go_wp2
         obtain ⟨fp35_, hfp_⟩ : ∃ f_ : Nat → Nat, ∀ k_, f_ k_ = (if ((w.heap.size ≤ k_ ∧ k_ < w26_.heap.size) ∧ k_ ≠ gb4_ ∧ f26_ k_ = 0) then 0 else (if ((w.heap.size ≤ k_ ∧ k_ < w26_.heap.size) ∧ k_ ≠ gb4_ ∧ f26_ k_ = 1) then 1 else (if ((w.heap.size ≤ k_ ∧ k_ < w26_.heap.size) ∧ k_ ≠ gb4_ ∧ f26_ k_ = 2) then 2 else (if ((w.heap.size ≤ k_ ∧ k_ < w26_.heap.size) ∧ k_ ≠ gb4_ ∧ f26_ k_ = 3) then 3 else 4)))) := ⟨fun k_ => (if ((w.heap.size ≤ k_ ∧ k_ < w26_.heap.size) ∧ k_ ≠ gb4_ ∧ f26_ k_ = 0) then 0 else (if ((w.heap.size ≤ k_ ∧ k_ < w26_.heap.size) ∧ k_ ≠ gb4_ ∧ f26_ k_ = 1) then 1 else (if ((w.heap.size ≤ k_ ∧ k_ < w26_.heap.size) ∧ k_ ≠ gb4_ ∧ f26_ k_ = 2) then 2 else (if ((w.heap.size ≤ k_ ∧ k_ < w26_.heap.size) ∧ k_ ≠ gb4_ ∧ f26_ k_ = 3) then 3 else 4)))), fun _ => rfl⟩
         have hcp1_ : ∀ k_, (((w.heap.size ≤ k_ ∧ k_ < w26_.heap.size) ∧ k_ ≠ gb4_ ∧ f26_ k_ = 0)) → ((w.heap.size ≤ k_ ∧ k_ < w26_.heap.size) ∧ k_ ≠ gb4_ ∧ fp35_ k_ = 0) := fun k_ hk_ => ⟨by have := HS.out; omega, by have := HS.out; omega, by rw [hfp_]; have := HS.out; repeat' (first | omega | split)⟩
         have hcp4_ : ∀ k_, (((w.heap.size ≤ k_ ∧ k_ < w26_.heap.size) ∧ k_ ≠ gb4_ ∧ f26_ k_ = 1)) → ((w.heap.size ≤ k_ ∧ k_ < w26_.heap.size) ∧ k_ ≠ gb4_ ∧ fp35_ k_ = 1) := fun k_ hk_ => ⟨by have := HS.out; omega, by have := HS.out; omega, by rw [hfp_]; have := HS.out; repeat' (first | omega | split)⟩
         have hcp5_ : ∀ k_, (((w.heap.size ≤ k_ ∧ k_ < w26_.heap.size) ∧ k_ ≠ gb4_ ∧ f26_ k_ = 2)) → ((w.heap.size ≤ k_ ∧ k_ < w26_.heap.size) ∧ k_ ≠ gb4_ ∧ fp35_ k_ = 2) := fun k_ hk_ => ⟨by have := HS.out; omega, by have := HS.out; omega, by rw [hfp_]; have := HS.out; repeat' (first | omega | split)⟩
         have hcp6_ : ∀ k_, (((w.heap.size ≤ k_ ∧ k_ < w26_.heap.size) ∧ k_ ≠ gb4_ ∧ f26_ k_ = 3)) → ((w.heap.size ≤ k_ ∧ k_ < w26_.heap.size) ∧ k_ ≠ gb4_ ∧ fp35_ k_ = 3) := fun k_ hk_ => ⟨by have := HS.out; omega, by have := HS.out; omega, by rw [hfp_]; have := HS.out; repeat' (first | omega | split)⟩
         have hfb1_ : fp35_ gb1_ = 4 := by rw [hfp_]; have := HS.out; repeat' (first | omega | split)
         have hfb2_ : fp35_ gb2_ = 4 := by rw [hfp_]; have := HS.out; repeat' (first | omega | split)
         go_roundg kq25_
         case measure => have := HKL25.out; omega
         case rel => exact ⟨fp35_, Ao26_0, Ao26_1, Ao26_2, Ao26_3, co26_0, co26_1, co26_2, co26_3, t90, t91, t92, t93, t94, t95, t96, HA, ⟨by have := HKL25.out; omega⟩, BK4, ⟨Kd.S_mono HO26_0.out hcp1_⟩, ⟨Kd.S_mono HO26_1.out hcp4_⟩, ⟨Kd.S_mono HO26_2.out hcp5_⟩, ⟨Kd.R_mono HO26_3.out hcp6_⟩, BK1, BK2, ⟨Nat.le_of_eq hfb1_.symm⟩, ⟨Nat.le_of_eq hfb2_.symm⟩, HB, ⟨(by have := HS.out; omega)⟩⟩
        rw [if_neg hc5_] at H
        replace hc5_ := eq_false_of_ne_true hc5_
        subst hc5_
        simp only [Option.some.injEq, Prod.mk.injEq] at H
        obtain ⟨rfl, rfl, rfl, rfl, rfl, rfl, rfl⟩ := H
        have H := HRL25.out
        clear HRL25
        (try dsimp only at H)
        replace H := ob_ H
        obtain ⟨⟨z27_0, z27_1, z27_2, z27_3, z27_4, z27_5, z27_6⟩, AL_, H⟩ := H
        have HRL27 := A_.mk H
        have AL27 := A_.mk AL_
        clear H AL_
        go_wp2
        obtain ⟨fp36_, hfp_⟩ : ∃ f_ : Nat → Nat, ∀ k_, f_ k_ = (if ((w.heap.size ≤ k_ ∧ k_ < w26_.heap.size) ∧ k_ ≠ gb4_ ∧ f26_ k_ = 0) then 0 else (if ((w.heap.size ≤ k_ ∧ k_ < w26_.heap.size) ∧ k_ ≠ gb4_ ∧ f26_ k_ = 1) then 1 else (if ((w.heap.size ≤ k_ ∧ k_ < w26_.heap.size) ∧ k_ ≠ gb4_ ∧ f26_ k_ = 2) then 2 else (if ((w.heap.size ≤ k_ ∧ k_ < w26_.heap.size) ∧ k_ ≠ gb4_ ∧ f26_ k_ = 3) then 3 else 4)))) := ⟨fun k_ => (if ((w.heap.size ≤ k_ ∧ k_ < w26_.heap.size) ∧ k_ ≠ gb4_ ∧ f26_ k_ = 0) then 0 else (if ((w.heap.size ≤ k_ ∧ k_ < w26_.heap.size) ∧ k_ ≠ gb4_ ∧ f26_ k_ = 1) then 1 else (if ((w.heap.size ≤ k_ ∧ k_ < w26_.heap.size) ∧ k_ ≠ gb4_ ∧ f26_ k_ = 2) then 2 else (if ((w.heap.size ≤ k_ ∧ k_ < w26_.heap.size) ∧ k_ ≠ gb4_ ∧ f26_ k_ = 3) then 3 else 4)))), fun _ => rfl⟩
        have hcp1_ : ∀ k_, (((w.heap.size ≤ k_ ∧ k_ < w26_.heap.size) ∧ k_ ≠ gb4_ ∧ f26_ k_ = 0)) → ((w.heap.size ≤ k_ ∧ k_ < w26_.heap.size) ∧ k_ ≠ gb4_ ∧ fp36_ k_ = 0) := fun k_ hk_ => ⟨by have := HS.out; omega, by have := HS.out; omega, by rw [hfp_]; have := HS.out; repeat' (first | omega | split)⟩
        have hcp4_ : ∀ k_, (((w.heap.size ≤ k_ ∧ k_ < w26_.heap.size) ∧ k_ ≠ gb4_ ∧ f26_ k_ = 1)) → ((w.heap.size ≤ k_ ∧ k_ < w26_.heap.size) ∧ k_ ≠ gb4_ ∧ fp36_ k_ = 1) := fun k_ hk_ => ⟨by have := HS.out; omega, by have := HS.out; omega, by rw [hfp_]; have := HS.out; repeat' (first | omega | split)⟩
        have hcp5_ : ∀ k_, (((w.heap.size ≤ k_ ∧ k_ < w26_.heap.size) ∧ k_ ≠ gb4_ ∧ f26_ k_ = 2)) → ((w.heap.size ≤ k_ ∧ k_ < w26_.heap.size) ∧ k_ ≠ gb4_ ∧ fp36_ k_ = 2) := fun k_ hk_ => ⟨by have := HS.out; omega, by have := HS.out; omega, by rw [hfp_]; have := HS.out; repeat' (first | omega | split)⟩
        have hcp6_ : ∀ k_, (((w.heap.size ≤ k_ ∧ k_ < w26_.heap.size) ∧ k_ ≠ gb4_ ∧ f26_ k_ = 3)) → ((w.heap.size ≤ k_ ∧ k_ < w26_.heap.size) ∧ k_ ≠ gb4_ ∧ fp36_ k_ = 3) := fun k_ hk_ => ⟨by have := HS.out; omega, by have := HS.out; omega, by rw [hfp_]; have := HS.out; repeat' (first | omega | split)⟩
        have hfb1_ : fp36_ gb1_ = 4 := by rw [hfp_]; have := HS.out; repeat' (first | omega | split)
        have hfb2_ : fp36_ gb2_ = 4 := by rw [hfp_]; have := HS.out; repeat' (first | omega | split)
        go_loopg [] kq7_ (fun kq  w' => ∃ (fx27_ : Nat → Nat) (Ax27_1 : Option Addr) (Ax27_4 : Option Addr) (Ax27_5 : Option Addr) (Ax27_6 : Option Addr) (cx27_1 : Nat) (cx27_4 : Nat) (cx27_5 : Nat) (cx27_6 : Nat) (x27_0 : Int) (x27_1 : List S66) (x27_2 : Int) (x27_3 : Int) (x27_4 : List (List Int)) (x27_5 : List (List Int)) (x27_6 : List Int), A_ (impl_DrainLink.l13 kq x27_0 x27_1 x27_2 x27_3 x27_4 x27_5 x27_6 = some (z27_0, z27_1, z27_2, z27_3, z27_4, z27_5, z27_6)) ∧ A_ (kq ≤ kq7_) ∧ A_ (w'.heap[gb4_]? = some (.cells #[.int .i64 x27_0, .slice Ax27_1 x27_1.length cx27_1, .int .i64 x27_2, .int .i64 x27_3, .slice Ax27_4 x27_4.length cx27_4, .slice Ax27_5 x27_5.length cx27_5, .slice Ax27_6 x27_6.length cx27_6] 34 (0, 0))) ∧ A_ (Kd.S k66 66 w' w.heap.size (fun k_ => (w.heap.size ≤ k_ ∧ k_ < w'.heap.size) ∧ k_ ≠ gb4_ ∧ fx27_ k_ = 0) (.slice Ax27_1 x27_1.length cx27_1) x27_1) ∧ A_ (Kd.S (Kd.slice 3 (Kd.int .i64)) 32 w' w.heap.size (fun k_ => (w.heap.size ≤ k_ ∧ k_ < w'.heap.size) ∧ k_ ≠ gb4_ ∧ fx27_ k_ = 1) (.slice Ax27_4 x27_4.length cx27_4) x27_4) ∧ A_ (Kd.S (Kd.slice 3 (Kd.int .i64)) 32 w' w.heap.size (fun k_ => (w.heap.size ≤ k_ ∧ k_ < w'.heap.size) ∧ k_ ≠ gb4_ ∧ fx27_ k_ = 2) (.slice Ax27_5 x27_5.length cx27_5) x27_5) ∧ A_ (Kd.R (Kd.int .i64) 3 w' w.heap.size (fun k_ => (w.heap.size ≤ k_ ∧ k_ < w'.heap.size) ∧ k_ ≠ gb4_ ∧ fx27_ k_ = 3) (.slice Ax27_6 x27_6.length cx27_6) x27_6) ∧ A_ (w'.heap[gb1_]? = some (.cells #[.int .i64 a0_0, .slice A0_1 l0_1.length c0_1, .int .i64 a0_2, .int .i64 a0_3, .slice A0_4 l0_4.length c0_4, .slice A0_5 l0_5.length c0_5, .slice A0_6 l0_6.length c0_6] 34 (0, 0))) ∧ A_ (w'.heap[gb2_]? = some (.cells #[.int .i64 0, .slice none 0 0, .int .i64 0, .int .i64 0, .slice none 0 0, .slice none 0 0, .slice none 0 0] 34 (0, 0))) ∧ A_ (4 ≤ fx27_ gb1_) ∧ A_ (4 ≤ fx27_ gb2_) ∧ A_ (Below w.heap.size w w') ∧ A_ (w26_.heap.size ≤ w'.heap.size))
        case atStart => exact ⟨fp36_, Ao26_0, Ao26_1, Ao26_2, Ao26_3, co26_0, co26_1, co26_2, co26_3, t90, t91, t92, t93, t94, t95, t96, AL27, ⟨Nat.le_refl _⟩, BK4, ⟨Kd.S_mono HO26_0.out hcp1_⟩, ⟨Kd.S_mono HO26_1.out hcp4_⟩, ⟨Kd.S_mono HO26_2.out hcp5_⟩, ⟨Kd.R_mono HO26_3.out hcp6_⟩, BK1, BK2, ⟨Nat.le_of_eq hfb1_.symm⟩, ⟨Nat.le_of_eq hfb2_.symm⟩, HB, ⟨Nat.le_refl _⟩⟩
        case round =>
         clear AL27 HB BK1 BK2 BK4 HO26_0 HO26_1 HO26_2 HO26_3 Q1 Q2 Q4 hfp_ hcp1_ hcp4_ hcp5_ hcp6_ hfb1_ hfb2_
         obtain ⟨fx27_, Ax27_1, Ax27_4, Ax27_5, Ax27_6, cx27_1, cx27_4, cx27_5, cx27_6, x27_0, x27_1, x27_2, x27_3, x27_4, x27_5, x27_6, HA, HKL27, BK4, HOx27_1, HOx27_4, HOx27_5, HOx27_6, BK1, BK2, HG1_, HG2_, HB, HSL_⟩ := hrel
         rename World => wq27_
         replace HS := A_.mk (And.intro HS.out HSL_.out)
         clear HSL_
         replace HS := aHs HS HG1_.out
         clear HG1_
         replace HS := aHs HS HG2_.out
         clear HG2_
         cases gk with
         | zero => exact absurd HA.out (by simp [impl_DrainLink.l13])
         | succ kq27_ =>
          have H := HA.out
          clear HA
          simp only [impl_DrainLink.l13] at H
          have Q1 := blk7_ BK1.out
          have Q2 := blk7_ BK2.out
          have Q4 := blk7_ BK4.out
          replace H := oa_ H
          obtain ⟨⟨t97, t98, t99, t100, t101, t102, t103, t104⟩, A28, H⟩ := H
          try dsimp only at H
          replace H := A_.mk H
          go_wp2_with (fail)
          obtain ⟨fp28_, hfp_⟩ : ∃ f_ : Nat → Nat, ∀ k_, f_ k_ = (if ((w.heap.size ≤ k_ ∧ k_ < wq27_.heap.size) ∧ k_ ≠ gb4_ ∧ fx27_ k_ = 0) then 0 else (if ((w.heap.size ≤ k_ ∧ k_ < wq27_.heap.size) ∧ k_ ≠ gb4_ ∧ fx27_ k_ = 1) then 1 else (if ((w.heap.size ≤ k_ ∧ k_ < wq27_.heap.size) ∧ k_ ≠ gb4_ ∧ fx27_ k_ = 2) then 2 else (if ((w.heap.size ≤ k_ ∧ k_ < wq27_.heap.size) ∧ k_ ≠ gb4_ ∧ fx27_ k_ = 3) then 3 else 4)))) := ⟨fun k_ => (if ((w.heap.size ≤ k_ ∧ k_ < wq27_.heap.size) ∧ k_ ≠ gb4_ ∧ fx27_ k_ = 0) then 0 else (if ((w.heap.size ≤ k_ ∧ k_ < wq27_.heap.size) ∧ k_ ≠ gb4_ ∧ fx27_ k_ = 1) then 1 else (if ((w.heap.size ≤ k_ ∧ k_ < wq27_.heap.size) ∧ k_ ≠ gb4_ ∧ fx27_ k_ = 2) then 2 else (if ((w.heap.size ≤ k_ ∧ k_ < wq27_.heap.size) ∧ k_ ≠ gb4_ ∧ fx27_ k_ = 3) then 3 else 4)))), fun _ => rfl⟩
          have hcp1_ : ∀ k_, (((w.heap.size ≤ k_ ∧ k_ < wq27_.heap.size) ∧ k_ ≠ gb4_ ∧ fx27_ k_ = 0)) → ((w.heap.size ≤ k_ ∧ k_ < wq27_.heap.size) ∧ k_ ≠ gb4_ ∧ fp28_ k_ = 0) := fun k_ hk_ => ⟨by have := HS.out; omega, by have := HS.out; omega, by rw [hfp_]; have := HS.out; repeat' (first | omega | split)⟩
          have hcp4_ : ∀ k_, (((w.heap.size ≤ k_ ∧ k_ < wq27_.heap.size) ∧ k_ ≠ gb4_ ∧ fx27_ k_ = 1)) → ((w.heap.size ≤ k_ ∧ k_ < wq27_.heap.size) ∧ k_ ≠ gb4_ ∧ fp28_ k_ = 1) := fun k_ hk_ => ⟨by have := HS.out; omega, by have := HS.out; omega, by rw [hfp_]; have := HS.out; repeat' (first | omega | split)⟩
          have hcp5_ : ∀ k_, (((w.heap.size ≤ k_ ∧ k_ < wq27_.heap.size) ∧ k_ ≠ gb4_ ∧ fx27_ k_ = 2)) → ((w.heap.size ≤ k_ ∧ k_ < wq27_.heap.size) ∧ k_ ≠ gb4_ ∧ fp28_ k_ = 2) := fun k_ hk_ => ⟨by have := HS.out; omega, by have := HS.out; omega, by rw [hfp_]; have := HS.out; repeat' (first | omega | split)⟩
          have hcp6_ : ∀ k_, (((w.heap.size ≤ k_ ∧ k_ < wq27_.heap.size) ∧ k_ ≠ gb4_ ∧ fx27_ k_ = 3)) → ((w.heap.size ≤ k_ ∧ k_ < wq27_.heap.size) ∧ k_ ≠ gb4_ ∧ fp28_ k_ = 3) := fun k_ hk_ => ⟨by have := HS.out; omega, by have := HS.out; omega, by rw [hfp_]; have := HS.out; repeat' (first | omega | split)⟩
          have hfb1_ : fp28_ gb1_ = 4 := by rw [hfp_]; have := HS.out; repeat' (first | omega | split)
          have hfb2_ : fp28_ gb2_ = 4 := by rw [hfp_]; have := HS.out; repeat' (first | omega | split)
          refine (impl_Link_answer.calls kq27_ gb4_ fp28_ x27_0 _ _ x27_1 x27_2 x27_3 _ _ x27_4 _ _ x27_5 _ _ x27_6 t97 t98 t99 t100 t101 t102 t103 t104 w _ HB.out (by have := HS.out; omega) BK4.out (Kd.S_mono HOx27_1.out hcp1_) (Kd.S_mono HOx27_4.out hcp4_) (Kd.S_mono HOx27_5.out hcp5_) (Kd.R_mono HOx27_6.out hcp6_) A28.out).mono ?_
          rintro e w28_ ⟨f28_, v0_, v1_, v2_, v3_, rfl, hbx_, ho1_, ho2_, ho3_, ho4_, hfk_, hbb, hkp⟩
          have hge1_ : 4 ≤ f28_ gb1_ := by have h1_ := hfk_ gb1_ (blk_lt BK1.out); have := hfb1_; have := HS.out; omega
          have hge2_ : 4 ≤ f28_ gb2_ := by have h1_ := hfk_ gb2_ (blk_lt BK2.out); have := hfb2_; have := HS.out; omega
          replace BK1 := A_.mk ((hkp.2 _ (blk_lt BK1.out) (fun _ => by have := hfb1_; have := HS.out; omega)).trans BK1.out)
          replace BK2 := A_.mk ((hkp.2 _ (blk_lt BK2.out) (fun _ => by have := hfb2_; have := HS.out; omega)).trans BK2.out)
          replace BK4 := A_.mk hbx_
          replace HB := A_.mk hbb
          replace HS := aHs HS hkp.1
          replace HS := aHs HS hge1_
          replace HS := aHs HS hge2_
          clear hfk_ hge1_ hge2_
          obtain ⟨Ao28_0, co28_0, ev_⟩ := Kd.S_slice ho1_
          subst ev_
          have HO28_0 := A_.mk ho1_
          obtain ⟨Ao28_1, co28_1, ev_⟩ := Kd.S_slice ho2_
          subst ev_
          have HO28_1 := A_.mk ho2_
          obtain ⟨Ao28_2, co28_2, ev_⟩ := Kd.S_slice ho3_
          subst ev_
          have HO28_2 := A_.mk ho3_
          obtain ⟨Ao28_3, co28_3, ev_⟩ := Kd.R_slice ho4_
          subst ev_
          have HO28_3 := A_.mk ho4_
          clear hkp hbx_ hbb hfp_ hcp1_ hcp4_ hcp5_ hcp6_ ho1_ ho2_ ho3_ ho4_ hfb1_ hfb2_ Q1 Q2 Q4
          have Q1 := blk7_ BK1.out
          have Q2 := blk7_ BK2.out
          have Q4 := blk7_ BK4.out
          replace H := H.out
          by_cases hc6_ : t97 = true
          case pos =>
           rw [if_pos hc6_] at H
           subst hc6_
           have HA := A_.mk H
           clear H
           go_wp2
           obtain ⟨fp37_, hfp_⟩ : ∃ f_ : Nat → Nat, ∀ k_, f_ k_ = (if ((w.heap.size ≤ k_ ∧ k_ < w28_.heap.size) ∧ k_ ≠ gb4_ ∧ f28_ k_ = 0) then 0 else (if ((w.heap.size ≤ k_ ∧ k_ < w28_.heap.size) ∧ k_ ≠ gb4_ ∧ f28_ k_ = 1) then 1 else (if ((w.heap.size ≤ k_ ∧ k_ < w28_.heap.size) ∧ k_ ≠ gb4_ ∧ f28_ k_ = 2) then 2 else (if ((w.heap.size ≤ k_ ∧ k_ < w28_.heap.size) ∧ k_ ≠ gb4_ ∧ f28_ k_ = 3) then 3 else 4)))) := ⟨fun k_ => (if ((w.heap.size ≤ k_ ∧ k_ < w28_.heap.size) ∧ k_ ≠ gb4_ ∧ f28_ k_ = 0) then 0 else (if ((w.heap.size ≤ k_ ∧ k_ < w28_.heap.size) ∧ k_ ≠ gb4_ ∧ f28_ k_ = 1) then 1 else (if ((w.heap.size ≤ k_ ∧ k_ < w28_.heap.size) ∧ k_ ≠ gb4_ ∧ f28_ k_ = 2) then 2 else (if ((w.heap.size ≤ k_ ∧ k_ < w28_.heap.size) ∧ k_ ≠ gb4_ ∧ f28_ k_ = 3) then 3 else 4)))), fun _ => rfl⟩
           have hcp1_ : ∀ k_, (((w.heap.size ≤ k_ ∧ k_ < w28_.heap.size) ∧ k_ ≠ gb4_ ∧ f28_ k_ = 0)) → ((w.heap.size ≤ k_ ∧ k_ < w28_.heap.size) ∧ k_ ≠ gb4_ ∧ fp37_ k_ = 0) := fun k_ hk_ => ⟨by have := HS.out; omega, by have := HS.out; omega, by rw [hfp_]; have := HS.out; repeat' (first | omega | split)⟩
           have hcp4_ : ∀ k_, (((w.heap.size ≤ k_ ∧ k_ < w28_.heap.size) ∧ k_ ≠ gb4_ ∧ f28_ k_ = 1)) → ((w.heap.size ≤ k_ ∧ k_ < w28_.heap.size) ∧ k_ ≠ gb4_ ∧ fp37_ k_ = 1) := fun k_ hk_ => ⟨by have := HS.out; omega, by have := HS.out; omega, by rw [hfp_]; have := HS.out; repeat' (first | omega | split)⟩
           have hcp5_ : ∀ k_, (((w.heap.size ≤ k_ ∧ k_ < w28_.heap.size) ∧ k_ ≠ gb4_ ∧ f28_ k_ = 2)) → ((w.heap.size ≤ k_ ∧ k_ < w28_.heap.size) ∧ k_ ≠ gb4_ ∧ fp37_ k_ = 2) := fun k_ hk_ => ⟨by have := HS.out; omega, by have := HS.out; omega, by rw [hfp_]; have := HS.out; repeat' (first | omega | split)⟩
           have hcp6_ : ∀ k_, (((w.heap.size ≤ k_ ∧ k_ < w28_.heap.size) ∧ k_ ≠ gb4_ ∧ f28_ k_ = 3)) → ((w.heap.size ≤ k_ ∧ k_ < w28_.heap.size) ∧ k_ ≠ gb4_ ∧ fp37_ k_ = 3) := fun k_ hk_ => ⟨by have := HS.out; omega, by have := HS.out; omega, by rw [hfp_]; have := HS.out; repeat' (first | omega | split)⟩
           have hfb1_ : fp37_ gb1_ = 4 := by rw [hfp_]; have := HS.out; repeat' (first | omega | split)
           have hfb2_ : fp37_ gb2_ = 4 := by rw [hfp_]; have := HS.out; repeat' (first | omega | split)
           go_roundg kq27_
           case measure => have := HKL27.out; omega
           case rel => exact ⟨fp37_, Ao28_0, Ao28_1, Ao28_2, Ao28_3, co28_0, co28_1, co28_2, co28_3, t98, t99, t100, t101, t102, t103, t104, HA, ⟨by have := HKL27.out; omega⟩, BK4, ⟨Kd.S_mono HO28_0.out hcp1_⟩, ⟨Kd.S_mono HO28_1.out hcp4_⟩, ⟨Kd.S_mono HO28_2.out hcp5_⟩, ⟨Kd.R_mono HO28_3.out hcp6_⟩, BK1, BK2, ⟨Nat.le_of_eq hfb1_.symm⟩, ⟨Nat.le_of_eq hfb2_.symm⟩, HB, ⟨(by have := HS.out; omega)⟩⟩
          rw [if_neg hc6_] at H
          replace hc6_ := eq_false_of_ne_true hc6_
          subst hc6_
          simp only [Option.some.injEq, Prod.mk.injEq] at H
          obtain ⟨rfl, rfl, rfl, rfl, rfl, rfl, rfl⟩ := H
          have H := HRL27.out
          clear HRL27
          (try dsimp only at H)
          have HA := A_.mk H
          clear H
          go_wp2
          obtain ⟨fp38_, hfp_⟩ : ∃ f_ : Nat → Nat, ∀ k_, f_ k_ = (if ((w.heap.size ≤ k_ ∧ k_ < w28_.heap.size) ∧ k_ ≠ gb4_ ∧ f28_ k_ = 0) then 0 else (if ((w.heap.size ≤ k_ ∧ k_ < w28_.heap.size) ∧ k_ ≠ gb4_ ∧ f28_ k_ = 1) then 1 else (if ((w.heap.size ≤ k_ ∧ k_ < w28_.heap.size) ∧ k_ ≠ gb4_ ∧ f28_ k_ = 2) then 2 else (if ((w.heap.size ≤ k_ ∧ k_ < w28_.heap.size) ∧ k_ ≠ gb4_ ∧ f28_ k_ = 3) then 3 else 4)))) := ⟨fun k_ => (if ((w.heap.size ≤ k_ ∧ k_ < w28_.heap.size) ∧ k_ ≠ gb4_ ∧ f28_ k_ = 0) then 0 else (if ((w.heap.size ≤ k_ ∧ k_ < w28_.heap.size) ∧ k_ ≠ gb4_ ∧ f28_ k_ = 1) then 1 else (if ((w.heap.size ≤ k_ ∧ k_ < w28_.heap.size) ∧ k_ ≠ gb4_ ∧ f28_ k_ = 2) then 2 else (if ((w.heap.size ≤ k_ ∧ k_ < w28_.heap.size) ∧ k_ ≠ gb4_ ∧ f28_ k_ = 3) then 3 else 4)))), fun _ => rfl⟩
          have hcp1_ : ∀ k_, (((w.heap.size ≤ k_ ∧ k_ < w28_.heap.size) ∧ k_ ≠ gb4_ ∧ f28_ k_ = 0)) → ((w.heap.size ≤ k_ ∧ k_ < w28_.heap.size) ∧ k_ ≠ gb4_ ∧ fp38_ k_ = 0) := fun k_ hk_ => ⟨by have := HS.out; omega, by have := HS.out; omega, by rw [hfp_]; have := HS.out; repeat' (first | omega | split)⟩
          have hcp4_ : ∀ k_, (((w.heap.size ≤ k_ ∧ k_ < w28_.heap.size) ∧ k_ ≠ gb4_ ∧ f28_ k_ = 1)) → ((w.heap.size ≤ k_ ∧ k_ < w28_.heap.size) ∧ k_ ≠ gb4_ ∧ fp38_ k_ = 1) := fun k_ hk_ => ⟨by have := HS.out; omega, by have := HS.out; omega, by rw [hfp_]; have := HS.out; repeat' (first | omega | split)⟩
          have hcp5_ : ∀ k_, (((w.heap.size ≤ k_ ∧ k_ < w28_.heap.size) ∧ k_ ≠ gb4_ ∧ f28_ k_ = 2)) → ((w.heap.size ≤ k_ ∧ k_ < w28_.heap.size) ∧ k_ ≠ gb4_ ∧ fp38_ k_ = 2) := fun k_ hk_ => ⟨by have := HS.out; omega, by have := HS.out; omega, by rw [hfp_]; have := HS.out; repeat' (first | omega | split)⟩
          have hcp6_ : ∀ k_, (((w.heap.size ≤ k_ ∧ k_ < w28_.heap.size) ∧ k_ ≠ gb4_ ∧ f28_ k_ = 3)) → ((w.heap.size ≤ k_ ∧ k_ < w28_.heap.size) ∧ k_ ≠ gb4_ ∧ fp38_ k_ = 3) := fun k_ hk_ => ⟨by have := HS.out; omega, by have := HS.out; omega, by rw [hfp_]; have := HS.out; repeat' (first | omega | split)⟩
          have hfb1_ : fp38_ gb1_ = 4 := by rw [hfp_]; have := HS.out; repeat' (first | omega | split)
          have hfb2_ : fp38_ gb2_ = 4 := by rw [hfp_]; have := HS.out; repeat' (first | omega | split)
          go_roundg kq7_
          case measure => have := HKL7.out; omega
          case rel => exact ⟨fp38_, Ao28_0, Ao28_1, Ao28_2, Ao28_3, co28_0, co28_1, co28_2, co28_3, (wrap64 (x7_s10 + 1)), t98, t99, t100, t101, t102, t103, t104, (by first | rfl | (simp; done) | (simp [*]; done)), HA, ⟨by have := HKL7.out; omega⟩, BK4, ⟨Kd.S_mono HO28_0.out hcp1_⟩, ⟨Kd.S_mono HO28_1.out hcp4_⟩, ⟨Kd.S_mono HO28_2.out hcp5_⟩, ⟨Kd.R_mono HO28_3.out hcp6_⟩, BK1, BK2, ⟨Nat.le_of_eq hfb1_.symm⟩, ⟨Nat.le_of_eq hfb2_.symm⟩, HB, ⟨(by have := HS.out; omega)⟩⟩
   rw [if_pos hc3_] at H
   have hc3_b0 : ((x7_1.length : Int) == 0) = true := beq_iff_eq.mpr hc3_
   have hc3_bn : ((x7_1.length : Int) != 0) = false := bne_eq_false_iff_eq.mpr hc3_
   have hc3_b1 : (x7_1.length == 0) = true := by first | simpa using hc3_ | (simp at hc3_ ⊢; omega)
   replace hc3_ := A_.mk hc3_
   by_cases hc7_ : (x7_5.length : Int) = 0
   case neg =>
    rw [if_neg hc7_] at H
    have hc7_b0 : ((x7_5.length : Int) == 0) = false := beq_eq_false_iff_ne.mpr hc7_
    have hc7_bn : ((x7_5.length : Int) != 0) = true := bne_iff_ne.mpr hc7_
    have hc7_b1 : (x7_5.length == 0) = false := by first | simpa using hc7_ | (simp at hc7_ ⊢; omega)
    replace H := oa_ H
    obtain ⟨⟨t41, t42, t43, t44, t45, t46, t47, t48⟩, A15, H⟩ := H
    try dsimp only at H
    replace H := ob_ H
    obtain ⟨⟨z16_0, z16_1, z16_2, z16_3, z16_4, z16_5, z16_6⟩, AL_, H⟩ := H
    have HRL16 := A_.mk H
    have AL16 := A_.mk AL_
    clear H AL_
    go_wp2_with (fail)
    obtain ⟨fp15_, hfp_⟩ : ∃ f_ : Nat → Nat, ∀ k_, f_ k_ = (if ((w.heap.size ≤ k_ ∧ k_ < wq7_.heap.size) ∧ k_ ≠ gb4_ ∧ fx7_ k_ = 0) then 0 else (if ((w.heap.size ≤ k_ ∧ k_ < wq7_.heap.size) ∧ k_ ≠ gb4_ ∧ fx7_ k_ = 1) then 1 else (if ((w.heap.size ≤ k_ ∧ k_ < wq7_.heap.size) ∧ k_ ≠ gb4_ ∧ fx7_ k_ = 2) then 2 else (if ((w.heap.size ≤ k_ ∧ k_ < wq7_.heap.size) ∧ k_ ≠ gb4_ ∧ fx7_ k_ = 3) then 3 else 4)))) := ⟨fun k_ => (if ((w.heap.size ≤ k_ ∧ k_ < wq7_.heap.size) ∧ k_ ≠ gb4_ ∧ fx7_ k_ = 0) then 0 else (if ((w.heap.size ≤ k_ ∧ k_ < wq7_.heap.size) ∧ k_ ≠ gb4_ ∧ fx7_ k_ = 1) then 1 else (if ((w.heap.size ≤ k_ ∧ k_ < wq7_.heap.size) ∧ k_ ≠ gb4_ ∧ fx7_ k_ = 2) then 2 else (if ((w.heap.size ≤ k_ ∧ k_ < wq7_.heap.size) ∧ k_ ≠ gb4_ ∧ fx7_ k_ = 3) then 3 else 4)))), fun _ => rfl⟩
    have hcp1_ : ∀ k_, (((w.heap.size ≤ k_ ∧ k_ < wq7_.heap.size) ∧ k_ ≠ gb4_ ∧ fx7_ k_ = 0)) → ((w.heap.size ≤ k_ ∧ k_ < wq7_.heap.size) ∧ k_ ≠ gb4_ ∧ fp15_ k_ = 0) := fun k_ hk_ => ⟨by have := HS.out; omega, by have := HS.out; omega, by rw [hfp_]; have := HS.out; repeat' (first | omega | split)⟩
    have hcp4_ : ∀ k_, (((w.heap.size ≤ k_ ∧ k_ < wq7_.heap.size) ∧ k_ ≠ gb4_ ∧ fx7_ k_ = 1)) → ((w.heap.size ≤ k_ ∧ k_ < wq7_.heap.size) ∧ k_ ≠ gb4_ ∧ fp15_ k_ = 1) := fun k_ hk_ => ⟨by have := HS.out; omega, by have := HS.out; omega, by rw [hfp_]; have := HS.out; repeat' (first | omega | split)⟩
    have hcp5_ : ∀ k_, (((w.heap.size ≤ k_ ∧ k_ < wq7_.heap.size) ∧ k_ ≠ gb4_ ∧ fx7_ k_ = 2)) → ((w.heap.size ≤ k_ ∧ k_ < wq7_.heap.size) ∧ k_ ≠ gb4_ ∧ fp15_ k_ = 2) := fun k_ hk_ => ⟨by have := HS.out; omega, by have := HS.out; omega, by rw [hfp_]; have := HS.out; repeat' (first | omega | split)⟩
    have hcp6_ : ∀ k_, (((w.heap.size ≤ k_ ∧ k_ < wq7_.heap.size) ∧ k_ ≠ gb4_ ∧ fx7_ k_ = 3)) → ((w.heap.size ≤ k_ ∧ k_ < wq7_.heap.size) ∧ k_ ≠ gb4_ ∧ fp15_ k_ = 3) := fun k_ hk_ => ⟨by have := HS.out; omega, by have := HS.out; omega, by rw [hfp_]; have := HS.out; repeat' (first | omega | split)⟩
    have hfb1_ : fp15_ gb1_ = 4 := by rw [hfp_]; have := HS.out; repeat' (first | omega | split)
    have hfb2_ : fp15_ gb2_ = 4 := by rw [hfp_]; have := HS.out; repeat' (first | omega | split)
    refine (impl_Link_step.calls kq7_ gb4_ fp15_ x7_0 _ _ x7_1 x7_2 x7_3 _ _ x7_4 _ _ x7_5 _ _ x7_6 6 0 t41 t42 t43 t44 t45 t46 t47 t48 w _ HB.out (by have := HS.out; omega) BK4.out (Kd.S_mono HOx7_1.out hcp1_) (Kd.S_mono HOx7_4.out hcp4_) (Kd.S_mono HOx7_5.out hcp5_) (Kd.R_mono HOx7_6.out hcp6_) A15.out).mono ?_
    rintro e w15_ ⟨f15_, v0_, v1_, v2_, v3_, rfl, hbx_, ho1_, ho2_, ho3_, ho4_, hfk_, hbb, hkp⟩
    have hge1_ : 4 ≤ f15_ gb1_ := by have h1_ := hfk_ gb1_ (blk_lt BK1.out); have := hfb1_; have := HS.out; omega
    have hge2_ : 4 ≤ f15_ gb2_ := by have h1_ := hfk_ gb2_ (blk_lt BK2.out); have := hfb2_; have := HS.out; omega
    replace BK1 := A_.mk ((hkp.2 _ (blk_lt BK1.out) (fun _ => by have := hfb1_; have := HS.out; omega)).trans BK1.out)
    replace BK2 := A_.mk ((hkp.2 _ (blk_lt BK2.out) (fun _ => by have := hfb2_; have := HS.out; omega)).trans BK2.out)
    replace BK4 := A_.mk hbx_
    replace HB := A_.mk hbb
    replace HS := aHs HS hkp.1
    replace HS := aHs HS hge1_
    replace HS := aHs HS hge2_
    clear hfk_ hge1_ hge2_
    obtain ⟨Ao15_0, co15_0, ev_⟩ := Kd.S_slice ho1_
    subst ev_
    have HO15_0 := A_.mk ho1_
    obtain ⟨Ao15_1, co15_1, ev_⟩ := Kd.S_slice ho2_
    subst ev_
    have HO15_1 := A_.mk ho2_
    obtain ⟨Ao15_2, co15_2, ev_⟩ := Kd.S_slice ho3_
    subst ev_
    have HO15_2 := A_.mk ho3_
    obtain ⟨Ao15_3, co15_3, ev_⟩ := Kd.R_slice ho4_
    subst ev_
    have HO15_3 := A_.mk ho4_
    clear hkp hbx_ hbb hfp_ hcp1_ hcp4_ hcp5_ hcp6_ ho1_ ho2_ ho3_ ho4_ hfb1_ hfb2_ Q1 Q2 Q4
    have Q1 := blk7_ BK1.out
    have Q2 := blk7_ BK2.out
    have Q4 := blk7_ BK4.out
    go_wp2
    obtain ⟨fp39_, hfp_⟩ : ∃ f_ : Nat → Nat, ∀ k_, f_ k_ = (if ((w.heap.size ≤ k_ ∧ k_ < w15_.heap.size) ∧ k_ ≠ gb4_ ∧ f15_ k_ = 0) then 0 else (if ((w.heap.size ≤ k_ ∧ k_ < w15_.heap.size) ∧ k_ ≠ gb4_ ∧ f15_ k_ = 1) then 1 else (if ((w.heap.size ≤ k_ ∧ k_ < w15_.heap.size) ∧ k_ ≠ gb4_ ∧ f15_ k_ = 2) then 2 else (if ((w.heap.size ≤ k_ ∧ k_ < w15_.heap.size) ∧ k_ ≠ gb4_ ∧ f15_ k_ = 3) then 3 else 4)))) := ⟨fun k_ => (if ((w.heap.size ≤ k_ ∧ k_ < w15_.heap.size) ∧ k_ ≠ gb4_ ∧ f15_ k_ = 0) then 0 else (if ((w.heap.size ≤ k_ ∧ k_ < w15_.heap.size) ∧ k_ ≠ gb4_ ∧ f15_ k_ = 1) then 1 else (if ((w.heap.size ≤ k_ ∧ k_ < w15_.heap.size) ∧ k_ ≠ gb4_ ∧ f15_ k_ = 2) then 2 else (if ((w.heap.size ≤ k_ ∧ k_ < w15_.heap.size) ∧ k_ ≠ gb4_ ∧ f15_ k_ = 3) then 3 else 4)))), fun _ => rfl⟩
    have hcp1_ : ∀ k_, (((w.heap.size ≤ k_ ∧ k_ < w15_.heap.size) ∧ k_ ≠ gb4_ ∧ f15_ k_ = 0)) → ((w.heap.size ≤ k_ ∧ k_ < w15_.heap.size) ∧ k_ ≠ gb4_ ∧ fp39_ k_ = 0) := fun k_ hk_ => ⟨by have := HS.out; omega, by have := HS.out; omega, by rw [hfp_]; have := HS.out; repeat' (first | omega | split)⟩
    have hcp4_ : ∀ k_, (((w.heap.size ≤ k_ ∧ k_ < w15_.heap.size) ∧ k_ ≠ gb4_ ∧ f15_ k_ = 1)) → ((w.heap.size ≤ k_ ∧ k_ < w15_.heap.size) ∧ k_ ≠ gb4_ ∧ fp39_ k_ = 1) := fun k_ hk_ => ⟨by have := HS.out; omega, by have := HS.out; omega, by rw [hfp_]; have := HS.out; repeat' (first | omega | split)⟩
    have hcp5_ : ∀ k_, (((w.heap.size ≤ k_ ∧ k_ < w15_.heap.size) ∧ k_ ≠ gb4_ ∧ f15_ k_ = 2)) → ((w.heap.size ≤ k_ ∧ k_ < w15_.heap.size) ∧ k_ ≠ gb4_ ∧ fp39_ k_ = 2) := fun k_ hk_ => ⟨by have := HS.out; omega, by have := HS.out; omega, by rw [hfp_]; have := HS.out; repeat' (first | omega | split)⟩
    have hcp6_ : ∀ k_, (((w.heap.size ≤ k_ ∧ k_ < w15_.heap.size) ∧ k_ ≠ gb4_ ∧ f15_ k_ = 3)) → ((w.heap.size ≤ k_ ∧ k_ < w15_.heap.size) ∧ k_ ≠ gb4_ ∧ fp39_ k_ = 3) := fun k_ hk_ => ⟨by have := HS.out; omega, by have := HS.out; omega, by rw [hfp_]; have := HS.out; repeat' (first | omega | split)⟩
    have hfb1_ : fp39_ gb1_ = 4 := by rw [hfp_]; have := HS.out; repeat' (first | omega | split)
    have hfb2_ : fp39_ gb2_ = 4 := by rw [hfp_]; have := HS.out; repeat' (first | omega | split)
    go_loopg [] kq7_ (fun kq  w' => ∃ (fx16_ : Nat → Nat) (Ax16_1 : Option Addr) (Ax16_4 : Option Addr) (Ax16_5 : Option Addr) (Ax16_6 : Option Addr) (cx16_1 : Nat) (cx16_4 : Nat) (cx16_5 : Nat) (cx16_6 : Nat) (x16_0 : Int) (x16_1 : List S66) (x16_2 : Int) (x16_3 : Int) (x16_4 : List (List Int)) (x16_5 : List (List Int)) (x16_6 : List Int), A_ (impl_DrainLink.l9 kq x16_0 x16_1 x16_2 x16_3 x16_4 x16_5 x16_6 = some (z16_0, z16_1, z16_2, z16_3, z16_4, z16_5, z16_6)) ∧ A_ (kq ≤ kq7_) ∧ A_ (w'.heap[gb4_]? = some (.cells #[.int .i64 x16_0, .slice Ax16_1 x16_1.length cx16_1, .int .i64 x16_2, .int .i64 x16_3, .slice Ax16_4 x16_4.length cx16_4, .slice Ax16_5 x16_5.length cx16_5, .slice Ax16_6 x16_6.length cx16_6] 34 (0, 0))) ∧ A_ (Kd.S k66 66 w' w.heap.size (fun k_ => (w.heap.size ≤ k_ ∧ k_ < w'.heap.size) ∧ k_ ≠ gb4_ ∧ fx16_ k_ = 0) (.slice Ax16_1 x16_1.length cx16_1) x16_1) ∧ A_ (Kd.S (Kd.slice 3 (Kd.int .i64)) 32 w' w.heap.size (fun k_ => (w.heap.size ≤ k_ ∧ k_ < w'.heap.size) ∧ k_ ≠ gb4_ ∧ fx16_ k_ = 1) (.slice Ax16_4 x16_4.length cx16_4) x16_4) ∧ A_ (Kd.S (Kd.slice 3 (Kd.int .i64)) 32 w' w.heap.size (fun k_ => (w.heap.size ≤ k_ ∧ k_ < w'.heap.size) ∧ k_ ≠ gb4_ ∧ fx16_ k_ = 2) (.slice Ax16_5 x16_5.length cx16_5) x16_5) ∧ A_ (Kd.R (Kd.int .i64) 3 w' w.heap.size (fun k_ => (w.heap.size ≤ k_ ∧ k_ < w'.heap.size) ∧ k_ ≠ gb4_ ∧ fx16_ k_ = 3) (.slice Ax16_6 x16_6.length cx16_6) x16_6) ∧ A_ (w'.heap[gb1_]? = some (.cells #[.int .i64 a0_0, .slice A0_1 l0_1.length c0_1, .int .i64 a0_2, .int .i64 a0_3, .slice A0_4 l0_4.length c0_4, .slice A0_5 l0_5.length c0_5, .slice A0_6 l0_6.length c0_6] 34 (0, 0))) ∧ A_ (w'.heap[gb2_]? = some (.cells #[.int .i64 0, .slice none 0 0, .int .i64 0, .int .i64 0, .slice none 0 0, .slice none 0 0, .slice none 0 0] 34 (0, 0))) ∧ A_ (4 ≤ fx16_ gb1_) ∧ A_ (4 ≤ fx16_ gb2_) ∧ A_ (Below w.heap.size w w') ∧ A_ (w15_.heap.size ≤ w'.heap.size))
    case atStart => exact ⟨fp39_, Ao15_0, Ao15_1, Ao15_2, Ao15_3, co15_0, co15_1, co15_2, co15_3, t42, t43, t44, t45, t46, t47, t48, AL16, ⟨Nat.le_refl _⟩, BK4, ⟨Kd.S_mono HO15_0.out hcp1_⟩, ⟨Kd.S_mono HO15_1.out hcp4_⟩, ⟨Kd.S_mono HO15_2.out hcp5_⟩, ⟨Kd.R_mono HO15_3.out hcp6_⟩, BK1, BK2, ⟨Nat.le_of_eq hfb1_.symm⟩, ⟨Nat.le_of_eq hfb2_.symm⟩, HB, ⟨Nat.le_refl _⟩⟩
    case round =>
     clear AL16 HB BK1 BK2 BK4 HO15_0 HO15_1 HO15_2 HO15_3 Q1 Q2 Q4 hfp_ hcp1_ hcp4_ hcp5_ hcp6_ hfb1_ hfb2_
     obtain ⟨fx16_, Ax16_1, Ax16_4, Ax16_5, Ax16_6, cx16_1, cx16_4, cx16_5, cx16_6, x16_0, x16_1, x16_2, x16_3, x16_4, x16_5, x16_6, HA, HKL16, BK4, HOx16_1, HOx16_4, HOx16_5, HOx16_6, BK1, BK2, HG1_, HG2_, HB, HSL_⟩ := hrel
     rename World => wq16_
     replace HS := A_.mk (And.intro HS.out HSL_.out)
     clear HSL_
     replace HS := aHs HS HG1_.out
     clear HG1_
     replace HS := aHs HS HG2_.out
     clear HG2_
     cases gk with
     | zero => exact absurd HA.out (by simp [impl_DrainLink.l9])
     | succ kq16_ =>
      have H := HA.out
      clear HA
      simp only [impl_DrainLink.l9] at H
      have Q1 := blk7_ BK1.out
      have Q2 := blk7_ BK2.out
      have Q4 := blk7_ BK4.out
      replace H := oa_ H
      obtain ⟨⟨t49, t50, t51, t52, t53, t54, t55, t56⟩, A17, H⟩ := H
      try dsimp only at H
      replace H := A_.mk H
      go_wp2_with (fail)
      obtain ⟨fp17_, hfp_⟩ : ∃ f_ : Nat → Nat, ∀ k_, f_ k_ = (if ((w.heap.size ≤ k_ ∧ k_ < wq16_.heap.size) ∧ k_ ≠ gb4_ ∧ fx16_ k_ = 0) then 0 else (if ((w.heap.size ≤ k_ ∧ k_ < wq16_.heap.size) ∧ k_ ≠ gb4_ ∧ fx16_ k_ = 1) then 1 else (if ((w.heap.size ≤ k_ ∧ k_ < wq16_.heap.size) ∧ k_ ≠ gb4_ ∧ fx16_ k_ = 2) then 2 else (if ((w.heap.size ≤ k_ ∧ k_ < wq16_.heap.size) ∧ k_ ≠ gb4_ ∧ fx16_ k_ = 3) then 3 else 4)))) := ⟨fun k_ => (if ((w.heap.size ≤ k_ ∧ k_ < wq16_.heap.size) ∧ k_ ≠ gb4_ ∧ fx16_ k_ = 0) then 0 else (if ((w.heap.size ≤ k_ ∧ k_ < wq16_.heap.size) ∧ k_ ≠ gb4_ ∧ fx16_ k_ = 1) then 1 else (if ((w.heap.size ≤ k_ ∧ k_ < wq16_.heap.size) ∧ k_ ≠ gb4_ ∧ fx16_ k_ = 2) then 2 else (if ((w.heap.size ≤ k_ ∧ k_ < wq16_.heap.size) ∧ k_ ≠ gb4_ ∧ fx16_ k_ = 3) then 3 else 4)))), fun _ => rfl⟩
      have hcp1_ : ∀ k_, (((w.heap.size ≤ k_ ∧ k_ < wq16_.heap.size) ∧ k_ ≠ gb4_ ∧ fx16_ k_ = 0)) → ((w.heap.size ≤ k_ ∧ k_ < wq16_.heap.size) ∧ k_ ≠ gb4_ ∧ fp17_ k_ = 0) := fun k_ hk_ => ⟨by have := HS.out; omega, by have := HS.out; omega, by rw [hfp_]; have := HS.out; repeat' (first | omega | split)⟩
      have hcp4_ : ∀ k_, (((w.heap.size ≤ k_ ∧ k_ < wq16_.heap.size) ∧ k_ ≠ gb4_ ∧ fx16_ k_ = 1)) → ((w.heap.size ≤ k_ ∧ k_ < wq16_.heap.size) ∧ k_ ≠ gb4_ ∧ fp17_ k_ = 1) := fun k_ hk_ => ⟨by have := HS.out; omega, by have := HS.out; omega, by rw [hfp_]; have := HS.out; repeat' (first | omega | split)⟩
      have hcp5_ : ∀ k_, (((w.heap.size ≤ k_ ∧ k_ < wq16_.heap.size) ∧ k_ ≠ gb4_ ∧ fx16_ k_ = 2)) → ((w.heap.size ≤ k_ ∧ k_ < wq16_.heap.size) ∧ k_ ≠ gb4_ ∧ fp17_ k_ = 2) := fun k_ hk_ => ⟨by have := HS.out; omega, by have := HS.out; omega, by rw [hfp_]; have := HS.out; repeat' (first | omega | split)⟩
      have hcp6_ : ∀ k_, (((w.heap.size ≤ k_ ∧ k_ < wq16_.heap.size) ∧ k_ ≠ gb4_ ∧ fx16_ k_ = 3)) → ((w.heap.size ≤ k_ ∧ k_ < wq16_.heap.size) ∧ k_ ≠ gb4_ ∧ fp17_ k_ = 3) := fun k_ hk_ => ⟨by have := HS.out; omega, by have := HS.out; omega, by rw [hfp_]; have := HS.out; repeat' (first | omega | split)⟩
      have hfb1_ : fp17_ gb1_ = 4 := by rw [hfp_]; have := HS.out; repeat' (first | omega | split)
      have hfb2_ : fp17_ gb2_ = 4 := by rw [hfp_]; have := HS.out; repeat' (first | omega | split)
      refine (impl_Link_send.calls kq16_ gb4_ fp17_ x16_0 _ _ x16_1 x16_2 x16_3 _ _ x16_4 _ _ x16_5 _ _ x16_6 t49 t50 t51 t52 t53 t54 t55 t56 w _ HB.out (by have := HS.out; omega) BK4.out (Kd.S_mono HOx16_1.out hcp1_) (Kd.S_mono HOx16_4.out hcp4_) (Kd.S_mono HOx16_5.out hcp5_) (Kd.R_mono HOx16_6.out hcp6_) A17.out).mono ?_
      rintro e w17_ ⟨f17_, v0_, v1_, v2_, v3_, rfl, hbx_, ho1_, ho2_, ho3_, ho4_, hfk_, hbb, hkp⟩
      have hge1_ : 4 ≤ f17_ gb1_ := by have h1_ := hfk_ gb1_ (blk_lt BK1.out); have := hfb1_; have := HS.out; omega
      have hge2_ : 4 ≤ f17_ gb2_ := by have h1_ := hfk_ gb2_ (blk_lt BK2.out); have := hfb2_; have := HS.out; omega
      replace BK1 := A_.mk ((hkp.2 _ (blk_lt BK1.out) (fun _ => by have := hfb1_; have := HS.out; omega)).trans BK1.out)
      replace BK2 := A_.mk ((hkp.2 _ (blk_lt BK2.out) (fun _ => by have := hfb2_; have := HS.out; omega)).trans BK2.out)
      replace BK4 := A_.mk hbx_
      replace HB := A_.mk hbb
      replace HS := aHs HS hkp.1
      replace HS := aHs HS hge1_
      replace HS := aHs HS hge2_
      clear hfk_ hge1_ hge2_
      obtain ⟨Ao17_0, co17_0, ev_⟩ := Kd.S_slice ho1_
      subst ev_
      have HO17_0 := A_.mk ho1_
      obtain ⟨Ao17_1, co17_1, ev_⟩ := Kd.S_slice ho2_
      subst ev_
      have HO17_1 := A_.mk ho2_
      obtain ⟨Ao17_2, co17_2, ev_⟩ := Kd.S_slice ho3_
      subst ev_
      have HO17_2 := A_.mk ho3_
      obtain ⟨Ao17_3, co17_3, ev_⟩ := Kd.R_slice ho4_
      subst ev_
      have HO17_3 := A_.mk ho4_
      clear hkp hbx_ hbb hfp_ hcp1_ hcp4_ hcp5_ hcp6_ ho1_ ho2_ ho3_ ho4_ hfb1_ hfb2_ Q1 Q2 Q4
      have Q1 := blk7_ BK1.out
      have Q2 := blk7_ BK2.out
      have Q4 := blk7_ BK4.out
      replace H := H.out
      by_cases hc8_ : t49 = true
      case pos =>
       rw [if_pos hc8_] at H
       subst hc8_
       have HA := A_.mk H
       clear H
       go_wp2
       obtain ⟨fp40_, hfp_⟩ : ∃ f_ : Nat → Nat, ∀ k_, f_ k_ = (if ((w.heap.size ≤ k_ ∧ k_ < w17_.heap.size) ∧ k_ ≠ gb4_ ∧ f17_ k_ = 0) then 0 else (if ((w.heap.size ≤ k_ ∧ k_ < w17_.heap.size) ∧ k_ ≠ gb4_ ∧ f17_ k_ = 1) then 1 else (if ((w.heap.size ≤ k_ ∧ k_ < w17_.heap.size) ∧ k_ ≠ gb4_ ∧ f17_ k_ = 2) then 2 else (if ((w.heap.size ≤ k_ ∧ k_ < w17_.heap.size) ∧ k_ ≠ gb4_ ∧ f17_ k_ = 3) then 3 else 4)))) := ⟨fun k_ => (if ((w.heap.size ≤ k_ ∧ k_ < w17_.heap.size) ∧ k_ ≠ gb4_ ∧ f17_ k_ = 0) then 0 else (if ((w.heap.size ≤ k_ ∧ k_ < w17_.heap.size) ∧ k_ ≠ gb4_ ∧ f17_ k_ = 1) then 1 else (if ((w.heap.size ≤ k_ ∧ k_ < w17_.heap.size) ∧ k_ ≠ gb4_ ∧ f17_ k_ = 2) then 2 else (if ((w.heap.size ≤ k_ ∧ k_ < w17_.heap.size) ∧ k_ ≠ gb4_ ∧ f17_ k_ = 3) then 3 else 4)))), fun _ => rfl⟩
       have hcp1_ : ∀ k_, (((w.heap.size ≤ k_ ∧ k_ < w17_.heap.size) ∧ k_ ≠ gb4_ ∧ f17_ k_ = 0)) → ((w.heap.size ≤ k_ ∧ k_ < w17_.heap.size) ∧ k_ ≠ gb4_ ∧ fp40_ k_ = 0) := fun k_ hk_ => ⟨by have := HS.out; omega, by have := HS.out; omega, by rw [hfp_]; have := HS.out; repeat' (first | omega | split)⟩
       have hcp4_ : ∀ k_, (((w.heap.size ≤ k_ ∧ k_ < w17_.heap.size) ∧ k_ ≠ gb4_ ∧ f17_ k_ = 1)) → ((w.heap.size ≤ k_ ∧ k_ < w17_.heap.size) ∧ k_ ≠ gb4_ ∧ fp40_ k_ = 1) := fun k_ hk_ => ⟨by have := HS.out; omega, by have := HS.out; omega, by rw [hfp_]; have := HS.out; repeat' (first | omega | split)⟩
       have hcp5_ : ∀ k_, (((w.heap.size ≤ k_ ∧ k_ < w17_.heap.size) ∧ k_ ≠ gb4_ ∧ f17_ k_ = 2)) → ((w.heap.size ≤ k_ ∧ k_ < w17_.heap.size) ∧ k_ ≠ gb4_ ∧ fp40_ k_ = 2) := fun k_ hk_ => ⟨by have := HS.out; omega, by have := HS.out; omega, by rw [hfp_]; have := HS.out; repeat' (first | omega | split)⟩
       have hcp6_ : ∀ k_, (((w.heap.size ≤ k_ ∧ k_ < w17_.heap.size) ∧ k_ ≠ gb4_ ∧ f17_ k_ = 3)) → ((w.heap.size ≤ k_ ∧ k_ < w17_.heap.size) ∧ k_ ≠ gb4_ ∧ fp40_ k_ = 3) := fun k_ hk_ => ⟨by have := HS.out; omega, by have := HS.out; omega, by rw [hfp_]; have := HS.out; repeat' (first | omega | split)⟩
       have hfb1_ : fp40_ gb1_ = 4 := by rw [hfp_]; have := HS.out; repeat' (first | omega | split)
       have hfb2_ : fp40_ gb2_ = 4 := by rw [hfp_]; have := HS.out; repeat' (first | omega | split)
       go_roundg kq16_
       case measure => have := HKL16.out; omega
       case rel => exact ⟨fp40_, Ao17_0, Ao17_1, Ao17_2, Ao17_3, co17_0, co17_1, co17_2, co17_3, t50, t51, t52, t53, t54, t55, t56, HA, ⟨by have := HKL16.out; omega⟩, BK4, ⟨Kd.S_mono HO17_0.out hcp1_⟩, ⟨Kd.S_mono HO17_1.out hcp4_⟩, ⟨Kd.S_mono HO17_2.out hcp5_⟩, ⟨Kd.R_mono HO17_3.out hcp6_⟩, BK1, BK2, ⟨Nat.le_of_eq hfb1_.symm⟩, ⟨Nat.le_of_eq hfb2_.symm⟩, HB, ⟨(by have := HS.out; omega)⟩⟩
      rw [if_neg hc8_] at H
      replace hc8_ := eq_false_of_ne_true hc8_
      subst hc8_
      simp only [Option.some.injEq, Prod.mk.injEq] at H
      obtain ⟨rfl, rfl, rfl, rfl, rfl, rfl, rfl⟩ := H
      have H := HRL16.out
      clear HRL16
      (try dsimp only at H)
      replace H := ob_ H
      obtain ⟨⟨z18_0, z18_1, z18_2, z18_3, z18_4, z18_5, z18_6⟩, AL_, H⟩ := H
      have HRL18 := A_.mk H
      have AL18 := A_.mk AL_
      clear H AL_
      go_wp2
      obtain ⟨fp41_, hfp_⟩ : ∃ f_ : Nat → Nat, ∀ k_, f_ k_ = (if ((w.heap.size ≤ k_ ∧ k_ < w17_.heap.size) ∧ k_ ≠ gb4_ ∧ f17_ k_ = 0) then 0 else (if ((w.heap.size ≤ k_ ∧ k_ < w17_.heap.size) ∧ k_ ≠ gb4_ ∧ f17_ k_ = 1) then 1 else (if ((w.heap.size ≤ k_ ∧ k_ < w17_.heap.size) ∧ k_ ≠ gb4_ ∧ f17_ k_ = 2) then 2 else (if ((w.heap.size ≤ k_ ∧ k_ < w17_.heap.size) ∧ k_ ≠ gb4_ ∧ f17_ k_ = 3) then 3 else 4)))) := ⟨fun k_ => (if ((w.heap.size ≤ k_ ∧ k_ < w17_.heap.size) ∧ k_ ≠ gb4_ ∧ f17_ k_ = 0) then 0 else (if ((w.heap.size ≤ k_ ∧ k_ < w17_.heap.size) ∧ k_ ≠ gb4_ ∧ f17_ k_ = 1) then 1 else (if ((w.heap.size ≤ k_ ∧ k_ < w17_.heap.size) ∧ k_ ≠ gb4_ ∧ f17_ k_ = 2) then 2 else (if ((w.heap.size ≤ k_ ∧ k_ < w17_.heap.size) ∧ k_ ≠ gb4_ ∧ f17_ k_ = 3) then 3 else 4)))), fun _ => rfl⟩
      have hcp1_ : ∀ k_, (((w.heap.size ≤ k_ ∧ k_ < w17_.heap.size) ∧ k_ ≠ gb4_ ∧ f17_ k_ = 0)) → ((w.heap.size ≤ k_ ∧ k_ < w17_.heap.size) ∧ k_ ≠ gb4_ ∧ fp41_ k_ = 0) := fun k_ hk_ => ⟨by have := HS.out; omega, by have := HS.out; omega, by rw [hfp_]; have := HS.out; repeat' (first | omega | split)⟩
      have hcp4_ : ∀ k_, (((w.heap.size ≤ k_ ∧ k_ < w17_.heap.size) ∧ k_ ≠ gb4_ ∧ f17_ k_ = 1)) → ((w.heap.size ≤ k_ ∧ k_ < w17_.heap.size) ∧ k_ ≠ gb4_ ∧ fp41_ k_ = 1) := fun k_ hk_ => ⟨by have := HS.out; omega, by have := HS.out; omega, by rw [hfp_]; have := HS.out; repeat' (first | omega | split)⟩
      have hcp5_ : ∀ k_, (((w.heap.size ≤ k_ ∧ k_ < w17_.heap.size) ∧ k_ ≠ gb4_ ∧ f17_ k_ = 2)) → ((w.heap.size ≤ k_ ∧ k_ < w17_.heap.size) ∧ k_ ≠ gb4_ ∧ fp41_ k_ = 2) := fun k_ hk_ => ⟨by have := HS.out; omega, by have := HS.out; omega, by rw [hfp_]; have := HS.out; repeat' (first | omega | split)⟩
      have hcp6_ : ∀ k_, (((w.heap.size ≤ k_ ∧ k_ < w17_.heap.size) ∧ k_ ≠ gb4_ ∧ f17_ k_ = 3)) → ((w.heap.size ≤ k_ ∧ k_ < w17_.heap.size) ∧ k_ ≠ gb4_ ∧ fp41_ k_ = 3) := fun k_ hk_ => ⟨by have := HS.out; omega, by have := HS.out; omega, by rw [hfp_]; have := HS.out; repeat' (first | omega | split)⟩
      have hfb1_ : fp41_ gb1_ = 4 := by rw [hfp_]; have := HS.out; repeat' (first | omega | split)
      have hfb2_ : fp41_ gb2_ = 4 := by rw [hfp_]; have := HS.out; repeat' (first | omega | split)
      go_loopg [] kq7_ (fun kq  w' => ∃ (fx18_ : Nat → Nat) (Ax18_1 : Option Addr) (Ax18_4 : Option Addr) (Ax18_5 : Option Addr) (Ax18_6 : Option Addr) (cx18_1 : Nat) (cx18_4 : Nat) (cx18_5 : Nat) (cx18_6 : Nat) (x18_0 : Int) (x18_1 : List S66) (x18_2 : Int) (x18_3 : Int) (x18_4 : List (List Int)) (x18_5 : List (List Int)) (x18_6 : List Int), A_ (impl_DrainLink.l11 kq x18_0 x18_1 x18_2 x18_3 x18_4 x18_5 x18_6 = some (z18_0, z18_1, z18_2, z18_3, z18_4, z18_5, z18_6)) ∧ A_ (kq ≤ kq7_) ∧ A_ (w'.heap[gb4_]? = some (.cells #[.int .i64 x18_0, .slice Ax18_1 x18_1.length cx18_1, .int .i64 x18_2, .int .i64 x18_3, .slice Ax18_4 x18_4.length cx18_4, .slice Ax18_5 x18_5.length cx18_5, .slice Ax18_6 x18_6.length cx18_6] 34 (0, 0))) ∧ A_ (Kd.S k66 66 w' w.heap.size (fun k_ => (w.heap.size ≤ k_ ∧ k_ < w'.heap.size) ∧ k_ ≠ gb4_ ∧ fx18_ k_ = 0) (.slice Ax18_1 x18_1.length cx18_1) x18_1) ∧ A_ (Kd.S (Kd.slice 3 (Kd.int .i64)) 32 w' w.heap.size (fun k_ => (w.heap.size ≤ k_ ∧ k_ < w'.heap.size) ∧ k_ ≠ gb4_ ∧ fx18_ k_ = 1) (.slice Ax18_4 x18_4.length cx18_4) x18_4) ∧ A_ (Kd.S (Kd.slice 3 (Kd.int .i64)) 32 w' w.heap.size (fun k_ => (w.heap.size ≤ k_ ∧ k_ < w'.heap.size) ∧ k_ ≠ gb4_ ∧ fx18_ k_ = 2) (.slice Ax18_5 x18_5.length cx18_5) x18_5) ∧ A_ (Kd.R (Kd.int .i64) 3 w' w.heap.size (fun k_ => (w.heap.size ≤ k_ ∧ k_ < w'.heap.size) ∧ k_ ≠ gb4_ ∧ fx18_ k_ = 3) (.slice Ax18_6 x18_6.length cx18_6) x18_6) ∧ A_ (w'.heap[gb1_]? = some (.cells #[.int .i64 a0_0, .slice A0_1 l0_1.length c0_1, .int .i64 a0_2, .int .i64 a0_3, .slice A0_4 l0_4.length c0_4, .slice A0_5 l0_5.length c0_5, .slice A0_6 l0_6.length c0_6] 34 (0, 0))) ∧ A_ (w'.heap[gb2_]? = some (.cells #[.int .i64 0, .slice none 0 0, .int .i64 0, .int .i64 0, .slice none 0 0, .slice none 0 0, .slice none 0 0] 34 (0, 0))) ∧ A_ (4 ≤ fx18_ gb1_) ∧ A_ (4 ≤ fx18_ gb2_) ∧ A_ (Below w.heap.size w w') ∧ A_ (w17_.heap.size ≤ w'.heap.size))
      case atStart => exact ⟨fp41_, Ao17_0, Ao17_1, Ao17_2, Ao17_3, co17_0, co17_1, co17_2, co17_3, t50, t51, t52, t53, t54, t55, t56, AL18, ⟨Nat.le_refl _⟩, BK4, ⟨Kd.S_mono HO17_0.out hcp1_⟩, ⟨Kd.S_mono HO17_1.out hcp4_⟩, ⟨Kd.S_mono HO17_2.out hcp5_⟩, ⟨Kd.R_mono HO17_3.out hcp6_⟩, BK1, BK2, ⟨Nat.le_of_eq hfb1_.symm⟩, ⟨Nat.le_of_eq hfb2_.symm⟩, HB, ⟨Nat.le_refl _⟩⟩
      case round =>
       clear AL18 HB BK1 BK2 BK4 HO17_0 HO17_1 HO17_2 HO17_3 Q1 Q2 Q4 hfp_ hcp1_ hcp4_ hcp5_ hcp6_ hfb1_ hfb2_
       obtain ⟨fx18_, Ax18_1, Ax18_4, Ax18_5, Ax18_6, cx18_1, cx18_4, cx18_5, cx18_6, x18_0, x18_1, x18_2, x18_3, x18_4, x18_5, x18_6, HA, HKL18, BK4, HOx18_1, HOx18_4, HOx18_5, HOx18_6, BK1, BK2, HG1_, HG2_, HB, HSL_⟩ := hrel
       rename World => wq18_
       replace HS := A_.mk (And.intro HS.out HSL_.out)
       clear HSL_
       replace HS := aHs HS HG1_.out
       clear HG1_
       replace HS := aHs HS HG2_.out
       clear HG2_
       cases gk with
       | zero => exact absurd HA.out (by simp [impl_DrainLink.l11])
       | succ kq18_ =>
        have H := HA.out
        clear HA
        simp only [impl_DrainLink.l11] at H
        have Q1 := blk7_ BK1.out
        have Q2 := blk7_ BK2.out
        have Q4 := blk7_ BK4.out
        replace H := oa_ H
        obtain ⟨⟨t57, t58, t59, t60, t61, t62, t63, t64⟩, A19, H⟩ := H
        try dsimp only at H
        replace H := A_.mk H
        go_wp2_with (fail)
        obtain ⟨fp19_, hfp_⟩ : ∃ f_ : Nat → Nat, ∀ k_, f_ k_ = (if ((w.heap.size ≤ k_ ∧ k_ < wq18_.heap.size) ∧ k_ ≠ gb4_ ∧ fx18_ k_ = 0) then 0 else (if ((w.heap.size ≤ k_ ∧ k_ < wq18_.heap.size) ∧ k_ ≠ gb4_ ∧ fx18_ k_ = 1) then 1 else (if ((w.heap.size ≤ k_ ∧ k_ < wq18_.heap.size) ∧ k_ ≠ gb4_ ∧ fx18_ k_ = 2) then 2 else (if ((w.heap.size ≤ k_ ∧ k_ < wq18_.heap.size) ∧ k_ ≠ gb4_ ∧ fx18_ k_ = 3) then 3 else 4)))) := ⟨fun k_ => (if ((w.heap.size ≤ k_ ∧ k_ < wq18_.heap.size) ∧ k_ ≠ gb4_ ∧ fx18_ k_ = 0) then 0 else (if ((w.heap.size ≤ k_ ∧ k_ < wq18_.heap.size) ∧ k_ ≠ gb4_ ∧ fx18_ k_ = 1) then 1 else (if ((w.heap.size ≤ k_ ∧ k_ < wq18_.heap.size) ∧ k_ ≠ gb4_ ∧ fx18_ k_ = 2) then 2 else (if ((w.heap.size ≤ k_ ∧ k_ < wq18_.heap.size) ∧ k_ ≠ gb4_ ∧ fx18_ k_ = 3) then 3 else 4)))), fun _ => rfl⟩
        have hcp1_ : ∀ k_, (((w.heap.size ≤ k_ ∧ k_ < wq18_.heap.size) ∧ k_ ≠ gb4_ ∧ fx18_ k_ = 0)) → ((w.heap.size ≤ k_ ∧ k_ < wq18_.heap.size) ∧ k_ ≠ gb4_ ∧ fp19_ k_ = 0) := fun k_ hk_ => ⟨by have := HS.out; omega, by have := HS.out; omega, by rw [hfp_]; have := HS.out; repeat' (first | omega | split)⟩
        have hcp4_ : ∀ k_, (((w.heap.size ≤ k_ ∧ k_ < wq18_.heap.size) ∧ k_ ≠ gb4_ ∧ fx18_ k_ = 1)) → ((w.heap.size ≤ k_ ∧ k_ < wq18_.heap.size) ∧ k_ ≠ gb4_ ∧ fp19_ k_ = 1) := fun k_ hk_ => ⟨by have := HS.out; omega, by have := HS.out; omega, by rw [hfp_]; have := HS.out; repeat' (first | omega | split)⟩
        have hcp5_ : ∀ k_, (((w.heap.size ≤ k_ ∧ k_ < wq18_.heap.size) ∧ k_ ≠ gb4_ ∧ fx18_ k_ = 2)) → ((w.heap.size ≤ k_ ∧ k_ < wq18_.heap.size) ∧ k_ ≠ gb4_ ∧ fp19_ k_ = 2) := fun k_ hk_ => ⟨by have := HS.out; omega, by have := HS.out; omega, by rw [hfp_]; have := HS.out; repeat' (first | omega | split)⟩
        have hcp6_ : ∀ k_, (((w.heap.size ≤ k_ ∧ k_ < wq18_.heap.size) ∧ k_ ≠ gb4_ ∧ fx18_ k_ = 3)) → ((w.heap.size ≤ k_ ∧ k_ < wq18_.heap.size) ∧ k_ ≠ gb4_ ∧ fp19_ k_ = 3) := fun k_ hk_ => ⟨by have := HS.out; omega, by have := HS.out; omega, by rw [hfp_]; have := HS.out; repeat' (first | omega | split)⟩
        have hfb1_ : fp19_ gb1_ = 4 := by rw [hfp_]; have := HS.out; repeat' (first | omega | split)
        have hfb2_ : fp19_ gb2_ = 4 := by rw [hfp_]; have := HS.out; repeat' (first | omega | split)
        refine (impl_Link_deliver.calls kq18_ gb4_ fp19_ x18_0 _ _ x18_1 x18_2 x18_3 _ _ x18_4 _ _ x18_5 _ _ x18_6 t57 t58 t59 t60 t61 t62 t63 t64 w _ HB.out (by have := HS.out; omega) BK4.out (Kd.S_mono HOx18_1.out hcp1_) (Kd.S_mono HOx18_4.out hcp4_) (Kd.S_mono HOx18_5.out hcp5_) (Kd.R_mono HOx18_6.out hcp6_) A19.out).mono ?_
        rintro e w19_ ⟨f19_, v0_, v1_, v2_, v3_, rfl, hbx_, ho1_, ho2_, ho3_, ho4_, hfk_, hbb, hkp⟩
        have hge1_ : 4 ≤ f19_ gb1_ := by have h1_ := hfk_ gb1_ (blk_lt BK1.out); have := hfb1_; have := HS.out; omega
        have hge2_ : 4 ≤ f19_ gb2_ := by have h1_ := hfk_ gb2_ (blk_lt BK2.out); have := hfb2_; have := HS.out; omega
        replace BK1 := A_.mk ((hkp.2 _ (blk_lt BK1.out) (fun _ => by have := hfb1_; have := HS.out; omega)).trans BK1.out)
        replace BK2 := A_.mk ((hkp.2 _ (blk_lt BK2.out) (fun _ => by have := hfb2_; have := HS.out; omega)).trans BK2.out)
        replace BK4 := A_.mk hbx_
        replace HB := A_.mk hbb
        replace HS := aHs HS hkp.1
        replace HS := aHs HS hge1_
        replace HS := aHs HS hge2_
        clear hfk_ hge1_ hge2_
        obtain ⟨Ao19_0, co19_0, ev_⟩ := Kd.S_slice ho1_
        subst ev_
        have HO19_0 := A_.mk ho1_
        obtain ⟨Ao19_1, co19_1, ev_⟩ := Kd.S_slice ho2_
        subst ev_
        have HO19_1 := A_.mk ho2_
        obtain ⟨Ao19_2, co19_2, ev_⟩ := Kd.S_slice ho3_
        subst ev_
        have HO19_2 := A_.mk ho3_
        obtain ⟨Ao19_3, co19_3, ev_⟩ := Kd.R_slice ho4_
        subst ev_
        have HO19_3 := A_.mk ho4_
        clear hkp hbx_ hbb hfp_ hcp1_ hcp4_ hcp5_ hcp6_ ho1_ ho2_ ho3_ ho4_ hfb1_ hfb2_ Q1 Q2 Q4
        have Q1 := blk7_ BK1.out
        have Q2 := blk7_ BK2.out
        have Q4 := blk7_ BK4.out
        replace H := H.out
        by_cases hc9_ : t57 = true
        case pos =>
         rw [if_pos hc9_] at H
         subst hc9_
         have HA := A_.mk H
         clear H
         go_wp2
         obtain ⟨fp42_, hfp_⟩ : ∃ f_ : Nat → Nat, ∀ k_, f_ k_ = (if ((w.heap.size ≤ k_ ∧ k_ < w19_.heap.size) ∧ k_ ≠ gb4_ ∧ f19_ k_ = 0) then 0 else (if ((w.heap.size ≤ k_ ∧ k_ < w19_.heap.size) ∧ k_ ≠ gb4_ ∧ f19_ k_ = 1) then 1 else (if ((w.heap.size ≤ k_ ∧ k_ < w19_.heap.size) ∧ k_ ≠ gb4_ ∧ f19_ k_ = 2) then 2 else (if ((w.heap.size ≤ k_ ∧ k_ < w19_.heap.size) ∧ k_ ≠ gb4_ ∧ f19_ k_ = 3) then 3 else 4)))) := ⟨fun k_ => (if ((w.heap.size ≤ k_ ∧ k_ < w19_.heap.size) ∧ k_ ≠ gb4_ ∧ f19_ k_ = 0) then 0 else (if ((w.heap.size ≤ k_ ∧ k_ < w19_.heap.size) ∧ k_ ≠ gb4_ ∧ f19_ k_ = 1) then 1 else (if ((w.heap.size ≤ k_ ∧ k_ < w19_.heap.size) ∧ k_ ≠ gb4_ ∧ f19_ k_ = 2) then 2 else (if ((w.heap.size ≤ k_ ∧ k_ < w19_.heap.size) ∧ k_ ≠ gb4_ ∧ f19_ k_ = 3) then 3 else 4)))), fun _ => rfl⟩
         have hcp1_ : ∀ k_, (((w.heap.size ≤ k_ ∧ k_ < w19_.heap.size) ∧ k_ ≠ gb4_ ∧ f19_ k_ = 0)) → ((w.heap.size ≤ k_ ∧ k_ < w19_.heap.size) ∧ k_ ≠ gb4_ ∧ fp42_ k_ = 0) := fun k_ hk_ => ⟨by have := HS.out; omega, by have := HS.out; omega, by rw [hfp_]; have := HS.out; repeat' (first | omega | split)⟩
         have hcp4_ : ∀ k_, (((w.heap.size ≤ k_ ∧ k_ < w19_.heap.size) ∧ k_ ≠ gb4_ ∧ f19_ k_ = 1)) → ((w.heap.size ≤ k_ ∧ k_ < w19_.heap.size) ∧ k_ ≠ gb4_ ∧ fp42_ k_ = 1) := fun k_ hk_ => ⟨by have := HS.out; omega, by have := HS.out; omega, by rw [hfp_]; have := HS.out; repeat' (first | omega | split)⟩
         have hcp5_ : ∀ k_, (((w.heap.size ≤ k_ ∧ k_ < w19_.heap.size) ∧ k_ ≠ gb4_ ∧ f19_ k_ = 2)) → ((w.heap.size ≤ k_ ∧ k_ < w19_.heap.size) ∧ k_ ≠ gb4_ ∧ fp42_ k_ = 2) := fun k_ hk_ => ⟨by have := HS.out; omega, by have := HS.out; omega, by rw [hfp_]; have := HS.out; repeat' (first | omega | split)⟩
         have hcp6_ : ∀ k_, (((w.heap.size ≤ k_ ∧ k_ < w19_.heap.size) ∧ k_ ≠ gb4_ ∧ f19_ k_ = 3)) → ((w.heap.size ≤ k_ ∧ k_ < w19_.heap.size) ∧ k_ ≠ gb4_ ∧ fp42_ k_ = 3) := fun k_ hk_ => ⟨by have := HS.out; omega, by have := HS.out; omega, by rw [hfp_]; have := HS.out; repeat' (first | omega | split)⟩
         have hfb1_ : fp42_ gb1_ = 4 := by rw [hfp_]; have := HS.out; repeat' (first | omega | split)
         have hfb2_ : fp42_ gb2_ = 4 := by rw [hfp_]; have := HS.out; repeat' (first | omega | split)
         go_roundg kq18_
         case measure => have := HKL18.out; omega
         case rel => exact ⟨fp42_, Ao19_0, Ao19_1, Ao19_2, Ao19_3, co19_0, co19_1, co19_2, co19_3, t58, t59, t60, t61, t62, t63, t64, HA, ⟨by have := HKL18.out; omega⟩, BK4, ⟨Kd.S_mono HO19_0.out hcp1_⟩, ⟨Kd.S_mono HO19_1.out hcp4_⟩, ⟨Kd.S_mono HO19_2.out hcp5_⟩, ⟨Kd.R_mono HO19_3.out hcp6_⟩, BK1, BK2, ⟨Nat.le_of_eq hfb1_.symm⟩, ⟨Nat.le_of_eq hfb2_.symm⟩, HB, ⟨(by have := HS.out; omega)⟩⟩
        rw [if_neg hc9_] at H
        replace hc9_ := eq_false_of_ne_true hc9_
        subst hc9_
        simp only [Option.some.injEq, Prod.mk.injEq] at H
        obtain ⟨rfl, rfl, rfl, rfl, rfl, rfl, rfl⟩ := H
        have H := HRL18.out
        clear HRL18
        (try dsimp only at H)
        replace H := ob_ H
        obtain ⟨⟨z20_0, z20_1, z20_2, z20_3, z20_4, z20_5, z20_6⟩, AL_, H⟩ := H
        have HRL20 := A_.mk H
        have AL20 := A_.mk AL_
        clear H AL_
        go_wp2
        obtain ⟨fp43_, hfp_⟩ : ∃ f_ : Nat → Nat, ∀ k_, f_ k_ = (if ((w.heap.size ≤ k_ ∧ k_ < w19_.heap.size) ∧ k_ ≠ gb4_ ∧ f19_ k_ = 0) then 0 else (if ((w.heap.size ≤ k_ ∧ k_ < w19_.heap.size) ∧ k_ ≠ gb4_ ∧ f19_ k_ = 1) then 1 else (if ((w.heap.size ≤ k_ ∧ k_ < w19_.heap.size) ∧ k_ ≠ gb4_ ∧ f19_ k_ = 2) then 2 else (if ((w.heap.size ≤ k_ ∧ k_ < w19_.heap.size) ∧ k_ ≠ gb4_ ∧ f19_ k_ = 3) then 3 else 4)))) := ⟨fun k_ => (if ((w.heap.size ≤ k_ ∧ k_ < w19_.heap.size) ∧ k_ ≠ gb4_ ∧ f19_ k_ = 0) then 0 else (if ((w.heap.size ≤ k_ ∧ k_ < w19_.heap.size) ∧ k_ ≠ gb4_ ∧ f19_ k_ = 1) then 1 else (if ((w.heap.size ≤ k_ ∧ k_ < w19_.heap.size) ∧ k_ ≠ gb4_ ∧ f19_ k_ = 2) then 2 else (if ((w.heap.size ≤ k_ ∧ k_ < w19_.heap.size) ∧ k_ ≠ gb4_ ∧ f19_ k_ = 3) then 3 else 4)))), fun _ => rfl⟩
        have hcp1_ : ∀ k_, (((w.heap.size ≤ k_ ∧ k_ < w19_.heap.size) ∧ k_ ≠ gb4_ ∧ f19_ k_ = 0)) → ((w.heap.size ≤ k_ ∧ k_ < w19_.heap.size) ∧ k_ ≠ gb4_ ∧ fp43_ k_ = 0) := fun k_ hk_ => ⟨by have := HS.out; omega, by have := HS.out; omega, by rw [hfp_]; have := HS.out; repeat' (first | omega | split)⟩
        have hcp4_ : ∀ k_, (((w.heap.size ≤ k_ ∧ k_ < w19_.heap.size) ∧ k_ ≠ gb4_ ∧ f19_ k_ = 1)) → ((w.heap.size ≤ k_ ∧ k_ < w19_.heap.size) ∧ k_ ≠ gb4_ ∧ fp43_ k_ = 1) := fun k_ hk_ => ⟨by have := HS.out; omega, by have := HS.out; omega, by rw [hfp_]; have := HS.out; repeat' (first | omega | split)⟩
        have hcp5_ : ∀ k_, (((w.heap.size ≤ k_ ∧ k_ < w19_.heap.size) ∧ k_ ≠ gb4_ ∧ f19_ k_ = 2)) → ((w.heap.size ≤ k_ ∧ k_ < w19_.heap.size) ∧ k_ ≠ gb4_ ∧ fp43_ k_ = 2) := fun k_ hk_ => ⟨by have := HS.out; omega, by have := HS.out; omega, by rw [hfp_]; have := HS.out; repeat' (first | omega | split)⟩
        have hcp6_ : ∀ k_, (((w.heap.size ≤ k_ ∧ k_ < w19_.heap.size) ∧ k_ ≠ gb4_ ∧ f19_ k_ = 3)) → ((w.heap.size ≤ k_ ∧ k_ < w19_.heap.size) ∧ k_ ≠ gb4_ ∧ fp43_ k_ = 3) := fun k_ hk_ => ⟨by have := HS.out; omega, by have := HS.out; omega, by rw [hfp_]; have := HS.out; repeat' (first | omega | split)⟩
        have hfb1_ : fp43_ gb1_ = 4 := by rw [hfp_]; have := HS.out; repeat' (first | omega | split)
        have hfb2_ : fp43_ gb2_ = 4 := by rw [hfp_]; have := HS.out; repeat' (first | omega | split)
        go_loopg [] kq7_ (fun kq  w' => ∃ (fx20_ : Nat → Nat) (Ax20_1 : Option Addr) (Ax20_4 : Option Addr) (Ax20_5 : Option Addr) (Ax20_6 : Option Addr) (cx20_1 : Nat) (cx20_4 : Nat) (cx20_5 : Nat) (cx20_6 : Nat) (x20_0 : Int) (x20_1 : List S66) (x20_2 : Int) (x20_3 : Int) (x20_4 : List (List Int)) (x20_5 : List (List Int)) (x20_6 : List Int), A_ (impl_DrainLink.l13 kq x20_0 x20_1 x20_2 x20_3 x20_4 x20_5 x20_6 = some (z20_0, z20_1, z20_2, z20_3, z20_4, z20_5, z20_6)) ∧ A_ (kq ≤ kq7_) ∧ A_ (w'.heap[gb4_]? = some (.cells #[.int .i64 x20_0, .slice Ax20_1 x20_1.length cx20_1, .int .i64 x20_2, .int .i64 x20_3, .slice Ax20_4 x20_4.length cx20_4, .slice Ax20_5 x20_5.length cx20_5, .slice Ax20_6 x20_6.length cx20_6] 34 (0, 0))) ∧ A_ (Kd.S k66 66 w' w.heap.size (fun k_ => (w.heap.size ≤ k_ ∧ k_ < w'.heap.size) ∧ k_ ≠ gb4_ ∧ fx20_ k_ = 0) (.slice Ax20_1 x20_1.length cx20_1) x20_1) ∧ A_ (Kd.S (Kd.slice 3 (Kd.int .i64)) 32 w' w.heap.size (fun k_ => (w.heap.size ≤ k_ ∧ k_ < w'.heap.size) ∧ k_ ≠ gb4_ ∧ fx20_ k_ = 1) (.slice Ax20_4 x20_4.length cx20_4) x20_4) ∧ A_ (Kd.S (Kd.slice 3 (Kd.int .i64)) 32 w' w.heap.size (fun k_ => (w.heap.size ≤ k_ ∧ k_ < w'.heap.size) ∧ k_ ≠ gb4_ ∧ fx20_ k_ = 2) (.slice Ax20_5 x20_5.length cx20_5) x20_5) ∧ A_ (Kd.R (Kd.int .i64) 3 w' w.heap.size (fun k_ => (w.heap.size ≤ k_ ∧ k_ < w'.heap.size) ∧ k_ ≠ gb4_ ∧ fx20_ k_ = 3) (.slice Ax20_6 x20_6.length cx20_6) x20_6) ∧ A_ (w'.heap[gb1_]? = some (.cells #[.int .i64 a0_0, .slice A0_1 l0_1.length c0_1, .int .i64 a0_2, .int .i64 a0_3, .slice A0_4 l0_4.length c0_4, .slice A0_5 l0_5.length c0_5, .slice A0_6 l0_6.length c0_6] 34 (0, 0))) ∧ A_ (w'.heap[gb2_]? = some (.cells #[.int .i64 0, .slice none 0 0, .int .i64 0, .int .i64 0, .slice none 0 0, .slice none 0 0, .slice none 0 0] 34 (0, 0))) ∧ A_ (4 ≤ fx20_ gb1_) ∧ A_ (4 ≤ fx20_ gb2_) ∧ A_ (Below w.heap.size w w') ∧ A_ (w19_.heap.size ≤ w'.heap.size))
        case atStart => exact ⟨fp43_, Ao19_0, Ao19_1, Ao19_2, Ao19_3, co19_0, co19_1, co19_2, co19_3, t58, t59, t60, t61, t62, t63, t64, AL20, ⟨Nat.le_refl _⟩, BK4, ⟨Kd.S_mono HO19_0.out hcp1_⟩, ⟨Kd.S_mono HO19_1.out hcp4_⟩, ⟨Kd.S_mono HO19_2.out hcp5_⟩, ⟨Kd.R_mono HO19_3.out hcp6_⟩, BK1, BK2, ⟨Nat.le_of_eq hfb1_.symm⟩, ⟨Nat.le_of_eq hfb2_.symm⟩, HB, ⟨Nat.le_refl _⟩⟩
        case round =>
         clear AL20 HB BK1 BK2 BK4 HO19_0 HO19_1 HO19_2 HO19_3 Q1 Q2 Q4 hfp_ hcp1_ hcp4_ hcp5_ hcp6_ hfb1_ hfb2_
         obtain ⟨fx20_, Ax20_1, Ax20_4, Ax20_5, Ax20_6, cx20_1, cx20_4, cx20_5, cx20_6, x20_0, x20_1, x20_2, x20_3, x20_4, x20_5, x20_6, HA, HKL20, BK4, HOx20_1, HOx20_4, HOx20_5, HOx20_6, BK1, BK2, HG1_, HG2_, HB, HSL_⟩ := hrel
         rename World => wq20_
         replace HS := A_.mk (And.intro HS.out HSL_.out)
         clear HSL_
         replace HS := aHs HS HG1_.out
         clear HG1_
         replace HS := aHs HS HG2_.out
         clear HG2_
         cases gk with
         | zero => exact absurd HA.out (by simp [impl_DrainLink.l13])
         | succ kq20_ =>
          have H := HA.out
          clear HA
          simp only [impl_DrainLink.l13] at H
          have Q1 := blk7_ BK1.out
          have Q2 := blk7_ BK2.out
          have Q4 := blk7_ BK4.out
          replace H := oa_ H
          obtain ⟨⟨t65, t66, t67, t68, t69, t70, t71, t72⟩, A21, H⟩ := H
          try dsimp only at H
          replace H := A_.mk H
          go_wp2_with (fail)
          obtain ⟨fp21_, hfp_⟩ : ∃ f_ : Nat → Nat, ∀ k_, f_ k_ = (if ((w.heap.size ≤ k_ ∧ k_ < wq20_.heap.size) ∧ k_ ≠ gb4_ ∧ fx20_ k_ = 0) then 0 else (if ((w.heap.size ≤ k_ ∧ k_ < wq20_.heap.size) ∧ k_ ≠ gb4_ ∧ fx20_ k_ = 1) then 1 else (if ((w.heap.size ≤ k_ ∧ k_ < wq20_.heap.size) ∧ k_ ≠ gb4_ ∧ fx20_ k_ = 2) then 2 else (if ((w.heap.size ≤ k_ ∧ k_ < wq20_.heap.size) ∧ k_ ≠ gb4_ ∧ fx20_ k_ = 3) then 3 else 4)))) := ⟨fun k_ => (if ((w.heap.size ≤ k_ ∧ k_ < wq20_.heap.size) ∧ k_ ≠ gb4_ ∧ fx20_ k_ = 0) then 0 else (if ((w.heap.size ≤ k_ ∧ k_ < wq20_.heap.size) ∧ k_ ≠ gb4_ ∧ fx20_ k_ = 1) then 1 else (if ((w.heap.size ≤ k_ ∧ k_ < wq20_.heap.size) ∧ k_ ≠ gb4_ ∧ fx20_ k_ = 2) then 2 else (if ((w.heap.size ≤ k_ ∧ k_ < wq20_.heap.size) ∧ k_ ≠ gb4_ ∧ fx20_ k_ = 3) then 3 else 4)))), fun _ => rfl⟩
          have hcp1_ : ∀ k_, (((w.heap.size ≤ k_ ∧ k_ < wq20_.heap.size) ∧ k_ ≠ gb4_ ∧ fx20_ k_ = 0)) → ((w.heap.size ≤ k_ ∧ k_ < wq20_.heap.size) ∧ k_ ≠ gb4_ ∧ fp21_ k_ = 0) := fun k_ hk_ => ⟨by have := HS.out; omega, by have := HS.out; omega, by rw [hfp_]; have := HS.out; repeat' (first | omega | split)⟩
          have hcp4_ : ∀ k_, (((w.heap.size ≤ k_ ∧ k_ < wq20_.heap.size) ∧ k_ ≠ gb4_ ∧ fx20_ k_ = 1)) → ((w.heap.size ≤ k_ ∧ k_ < wq20_.heap.size) ∧ k_ ≠ gb4_ ∧ fp21_ k_ = 1) := fun k_ hk_ => ⟨by have := HS.out; omega, by have := HS.out; omega, by rw [hfp_]; have := HS.out; repeat' (first | omega | split)⟩
          have hcp5_ : ∀ k_, (((w.heap.size ≤ k_ ∧ k_ < wq20_.heap.size) ∧ k_ ≠ gb4_ ∧ fx20_ k_ = 2)) → ((w.heap.size ≤ k_ ∧ k_ < wq20_.heap.size) ∧ k_ ≠ gb4_ ∧ fp21_ k_ = 2) := fun k_ hk_ => ⟨by have := HS.out; omega, by have := HS.out; omega, by rw [hfp_]; have := HS.out; repeat' (first | omega | split)⟩
          have hcp6_ : ∀ k_, (((w.heap.size ≤ k_ ∧ k_ < wq20_.heap.size) ∧ k_ ≠ gb4_ ∧ fx20_ k_ = 3)) → ((w.heap.size ≤ k_ ∧ k_ < wq20_.heap.size) ∧ k_ ≠ gb4_ ∧ fp21_ k_ = 3) := fun k_ hk_ => ⟨by have := HS.out; omega, by have := HS.out; omega, by rw [hfp_]; have := HS.out; repeat' (first | omega | split)⟩
          have hfb1_ : fp21_ gb1_ = 4 := by rw [hfp_]; have := HS.out; repeat' (first | omega | split)
          have hfb2_ : fp21_ gb2_ = 4 := by rw [hfp_]; have := HS.out; repeat' (first | omega | split)
          refine (impl_Link_answer.calls kq20_ gb4_ fp21_ x20_0 _ _ x20_1 x20_2 x20_3 _ _ x20_4 _ _ x20_5 _ _ x20_6 t65 t66 t67 t68 t69 t70 t71 t72 w _ HB.out (by have := HS.out; omega) BK4.out (Kd.S_mono HOx20_1.out hcp1_) (Kd.S_mono HOx20_4.out hcp4_) (Kd.S_mono HOx20_5.out hcp5_) (Kd.R_mono HOx20_6.out hcp6_) A21.out).mono ?_
          rintro e w21_ ⟨f21_, v0_, v1_, v2_, v3_, rfl, hbx_, ho1_, ho2_, ho3_, ho4_, hfk_, hbb, hkp⟩
          have hge1_ : 4 ≤ f21_ gb1_ := by have h1_ := hfk_ gb1_ (blk_lt BK1.out); have := hfb1_; have := HS.out; omega
          have hge2_ : 4 ≤ f21_ gb2_ := by have h1_ := hfk_ gb2_ (blk_lt BK2.out); have := hfb2_; have := HS.out; omega
          replace BK1 := A_.mk ((hkp.2 _ (blk_lt BK1.out) (fun _ => by have := hfb1_; have := HS.out; omega)).trans BK1.out)
          replace BK2 := A_.mk ((hkp.2 _ (blk_lt BK2.out) (fun _ => by have := hfb2_; have := HS.out; omega)).trans BK2.out)
          replace BK4 := A_.mk hbx_
          replace HB := A_.mk hbb
          replace HS := aHs HS hkp.1
          replace HS := aHs HS hge1_
          replace HS := aHs HS hge2_
          clear hfk_ hge1_ hge2_
          obtain ⟨Ao21_0, co21_0, ev_⟩ := Kd.S_slice ho1_
          subst ev_
          have HO21_0 := A_.mk ho1_
          obtain ⟨Ao21_1, co21_1, ev_⟩ := Kd.S_slice ho2_
          subst ev_
          have HO21_1 := A_.mk ho2_
          obtain ⟨Ao21_2, co21_2, ev_⟩ := Kd.S_slice ho3_
          subst ev_
          have HO21_2 := A_.mk ho3_
          obtain ⟨Ao21_3, co21_3, ev_⟩ := Kd.R_slice ho4_
          subst ev_
          have HO21_3 := A_.mk ho4_
          clear hkp hbx_ hbb hfp_ hcp1_ hcp4_ hcp5_ hcp6_ ho1_ ho2_ ho3_ ho4_ hfb1_ hfb2_ Q1 Q2 Q4
          have Q1 := blk7_ BK1.out
          have Q2 := blk7_ BK2.out
          have Q4 := blk7_ BK4.out
          replace H := H.out
          by_cases hc10_ : t65 = true
          case pos =>
           rw [if_pos hc10_] at H
           subst hc10_
           have HA := A_.mk H
           clear H
           go_wp2
           obtain ⟨fp44_, hfp_⟩ : ∃ f_ : Nat → Nat, ∀ k_, f_ k_ = (if ((w.heap.size ≤ k_ ∧ k_ < w21_.heap.size) ∧ k_ ≠ gb4_ ∧ f21_ k_ = 0) then 0 else (if ((w.heap.size ≤ k_ ∧ k_ < w21_.heap.size) ∧ k_ ≠ gb4_ ∧ f21_ k_ = 1) then 1 else (if ((w.heap.size ≤ k_ ∧ k_ < w21_.heap.size) ∧ k_ ≠ gb4_ ∧ f21_ k_ = 2) then 2 else (if ((w.heap.size ≤ k_ ∧ k_ < w21_.heap.size) ∧ k_ ≠ gb4_ ∧ f21_ k_ = 3) then 3 else 4)))) := ⟨fun k_ => (if ((w.heap.size ≤ k_ ∧ k_ < w21_.heap.size) ∧ k_ ≠ gb4_ ∧ f21_ k_ = 0) then 0 else (if ((w.heap.size ≤ k_ ∧ k_ < w21_.heap.size) ∧ k_ ≠ gb4_ ∧ f21_ k_ = 1) then 1 else (if ((w.heap.size ≤ k_ ∧ k_ < w21_.heap.size) ∧ k_ ≠ gb4_ ∧ f21_ k_ = 2) then 2 else (if ((w.heap.size ≤ k_ ∧ k_ < w21_.heap.size) ∧ k_ ≠ gb4_ ∧ f21_ k_ = 3) then 3 else 4)))), fun _ => rfl⟩
           have hcp1_ : ∀ k_, (((w.heap.size ≤ k_ ∧ k_ < w21_.heap.size) ∧ k_ ≠ gb4_ ∧ f21_ k_ = 0)) → ((w.heap.size ≤ k_ ∧ k_ < w21_.heap.size) ∧ k_ ≠ gb4_ ∧ fp44_ k_ = 0) := fun k_ hk_ => ⟨by have := HS.out; omega, by have := HS.out; omega, by rw [hfp_]; have := HS.out; repeat' (first | omega | split)⟩
           have hcp4_ : ∀ k_, (((w.heap.size ≤ k_ ∧ k_ < w21_.heap.size) ∧ k_ ≠ gb4_ ∧ f21_ k_ = 1)) → ((w.heap.size ≤ k_ ∧ k_ < w21_.heap.size) ∧ k_ ≠ gb4_ ∧ fp44_ k_ = 1) := fun k_ hk_ => ⟨by have := HS.out; omega, by have := HS.out; omega, by rw [hfp_]; have := HS.out; repeat' (first | omega | split)⟩
           have hcp5_ : ∀ k_, (((w.heap.size ≤ k_ ∧ k_ < w21_.heap.size) ∧ k_ ≠ gb4_ ∧ f21_ k_ = 2)) → ((w.heap.size ≤ k_ ∧ k_ < w21_.heap.size) ∧ k_ ≠ gb4_ ∧ fp44_ k_ = 2) := fun k_ hk_ => ⟨by have := HS.out; omega, by have := HS.out; omega, by rw [hfp_]; have := HS.out; repeat' (first | omega | split)⟩
           have hcp6_ : ∀ k_, (((w.heap.size ≤ k_ ∧ k_ < w21_.heap.size) ∧ k_ ≠ gb4_ ∧ f21_ k_ = 3)) → ((w.heap.size ≤ k_ ∧ k_ < w21_.heap.size) ∧ k_ ≠ gb4_ ∧ fp44_ k_ = 3) := fun k_ hk_ => ⟨by have := HS.out; omega, by have := HS.out; omega, by rw [hfp_]; have := HS.out; repeat' (first | omega | split)⟩
           have hfb1_ : fp44_ gb1_ = 4 := by rw [hfp_]; have := HS.out; repeat' (first | omega | split)
           have hfb2_ : fp44_ gb2_ = 4 := by rw [hfp_]; have := HS.out; repeat' (first | omega | split)
           go_roundg kq20_
           case measure => have := HKL20.out; omega
           case rel => exact ⟨fp44_, Ao21_0, Ao21_1, Ao21_2, Ao21_3, co21_0, co21_1, co21_2, co21_3, t66, t67, t68, t69, t70, t71, t72, HA, ⟨by have := HKL20.out; omega⟩, BK4, ⟨Kd.S_mono HO21_0.out hcp1_⟩, ⟨Kd.S_mono HO21_1.out hcp4_⟩, ⟨Kd.S_mono HO21_2.out hcp5_⟩, ⟨Kd.R_mono HO21_3.out hcp6_⟩, BK1, BK2, ⟨Nat.le_of_eq hfb1_.symm⟩, ⟨Nat.le_of_eq hfb2_.symm⟩, HB, ⟨(by have := HS.out; omega)⟩⟩
          rw [if_neg hc10_] at H
          replace hc10_ := eq_false_of_ne_true hc10_
          subst hc10_
          simp only [Option.some.injEq, Prod.mk.injEq] at H
          obtain ⟨rfl, rfl, rfl, rfl, rfl, rfl, rfl⟩ := H
          have H := HRL20.out
          clear HRL20
          (try dsimp only at H)
          have HA := A_.mk H
          clear H
          go_wp2
          obtain ⟨fp45_, hfp_⟩ : ∃ f_ : Nat → Nat, ∀ k_, f_ k_ = (if ((w.heap.size ≤ k_ ∧ k_ < w21_.heap.size) ∧ k_ ≠ gb4_ ∧ f21_ k_ = 0) then 0 else (if ((w.heap.size ≤ k_ ∧ k_ < w21_.heap.size) ∧ k_ ≠ gb4_ ∧ f21_ k_ = 1) then 1 else (if ((w.heap.size ≤ k_ ∧ k_ < w21_.heap.size) ∧ k_ ≠ gb4_ ∧ f21_ k_ = 2) then 2 else (if ((w.heap.size ≤ k_ ∧ k_ < w21_.heap.size) ∧ k_ ≠ gb4_ ∧ f21_ k_ = 3) then 3 else 4)))) := ⟨fun k_ => (if ((w.heap.size ≤ k_ ∧ k_ < w21_.heap.size) ∧ k_ ≠ gb4_ ∧ f21_ k_ = 0) then 0 else (if ((w.heap.size ≤ k_ ∧ k_ < w21_.heap.size) ∧ k_ ≠ gb4_ ∧ f21_ k_ = 1) then 1 else (if ((w.heap.size ≤ k_ ∧ k_ < w21_.heap.size) ∧ k_ ≠ gb4_ ∧ f21_ k_ = 2) then 2 else (if ((w.heap.size ≤ k_ ∧ k_ < w21_.heap.size) ∧ k_ ≠ gb4_ ∧ f21_ k_ = 3) then 3 else 4)))), fun _ => rfl⟩
          have hcp1_ : ∀ k_, (((w.heap.size ≤ k_ ∧ k_ < w21_.heap.size) ∧ k_ ≠ gb4_ ∧ f21_ k_ = 0)) → ((w.heap.size ≤ k_ ∧ k_ < w21_.heap.size) ∧ k_ ≠ gb4_ ∧ fp45_ k_ = 0) := fun k_ hk_ => ⟨by have := HS.out; omega, by have := HS.out; omega, by rw [hfp_]; have := HS.out; repeat' (first | omega | split)⟩
          have hcp4_ : ∀ k_, (((w.heap.size ≤ k_ ∧ k_ < w21_.heap.size) ∧ k_ ≠ gb4_ ∧ f21_ k_ = 1)) → ((w.heap.size ≤ k_ ∧ k_ < w21_.heap.size) ∧ k_ ≠ gb4_ ∧ fp45_ k_ = 1) := fun k_ hk_ => ⟨by have := HS.out; omega, by have := HS.out; omega, by rw [hfp_]; have := HS.out; repeat' (first | omega | split)⟩
          have hcp5_ : ∀ k_, (((w.heap.size ≤ k_ ∧ k_ < w21_.heap.size) ∧ k_ ≠ gb4_ ∧ f21_ k_ = 2)) → ((w.heap.size ≤ k_ ∧ k_ < w21_.heap.size) ∧ k_ ≠ gb4_ ∧ fp45_ k_ = 2) := fun k_ hk_ => ⟨by have := HS.out; omega, by have := HS.out; omega, by rw [hfp_]; have := HS.out; repeat' (first | omega | split)⟩
          have hcp6_ : ∀ k_, (((w.heap.size ≤ k_ ∧ k_ < w21_.heap.size) ∧ k_ ≠ gb4_ ∧ f21_ k_ = 3)) → ((w.heap.size ≤ k_ ∧ k_ < w21_.heap.size) ∧ k_ ≠ gb4_ ∧ fp45_ k_ = 3) := fun k_ hk_ => ⟨by have := HS.out; omega, by have := HS.out; omega, by rw [hfp_]; have := HS.out; repeat' (first | omega | split)⟩
          have hfb1_ : fp45_ gb1_ = 4 := by rw [hfp_]; have := HS.out; repeat' (first | omega | split)
          have hfb2_ : fp45_ gb2_ = 4 := by rw [hfp_]; have := HS.out; repeat' (first | omega | split)
          go_roundg kq7_
          case measure => have := HKL7.out; omega
          case rel => exact ⟨fp45_, Ao21_0, Ao21_1, Ao21_2, Ao21_3, co21_0, co21_1, co21_2, co21_3, (wrap64 (x7_s10 + 1)), t66, t67, t68, t69, t70, t71, t72, (by first | rfl | (simp; done) | (simp [*]; done)), HA, ⟨by have := HKL7.out; omega⟩, BK4, ⟨Kd.S_mono HO21_0.out hcp1_⟩, ⟨Kd.S_mono HO21_1.out hcp4_⟩, ⟨Kd.S_mono HO21_2.out hcp5_⟩, ⟨Kd.R_mono HO21_3.out hcp6_⟩, BK1, BK2, ⟨Nat.le_of_eq hfb1_.symm⟩, ⟨Nat.le_of_eq hfb2_.symm⟩, HB, ⟨(by have := HS.out; omega)⟩⟩
   rw [if_pos hc7_] at H
   have hc7_b0 : ((x7_5.length : Int) == 0) = true := beq_iff_eq.mpr hc7_
   have hc7_bn : ((x7_5.length : Int) != 0) = false := bne_eq_false_iff_eq.mpr hc7_
   have hc7_b1 : (x7_5.length == 0) = true := by first | simpa using hc7_ | (simp at hc7_ ⊢; omega)
   replace hc7_ := A_.mk hc7_
   by_cases hc11_ : (x7_6.length : Int) = 0
   case pos =>
    rw [if_pos hc11_] at H
    have hc11_b0 : ((x7_6.length : Int) == 0) = true := beq_iff_eq.mpr hc11_
    have hc11_bn : ((x7_6.length : Int) != 0) = false := bne_eq_false_iff_eq.mpr hc11_
    have hc11_b1 : (x7_6.length == 0) = true := by first | simpa using hc11_ | (simp at hc11_ ⊢; omega)
    replace hc11_ := A_.mk hc11_
    simp only [Option.some.injEq, Prod.mk.injEq] at H
    obtain ⟨rfl, rfl, rfl, rfl, rfl, rfl, rfl, rfl⟩ := H
    have H := HRL7.out
    clear HRL7
    (try dsimp only at H)
    simp only [Option.some.injEq, Prod.mk.injEq] at H
    obtain ⟨rfl, rfl, rfl, rfl, rfl, rfl, rfl⟩ := H
    go_wp2_with (first | ((with_reducible refine gate_store (t := 34) (p := 2) rfl ?_); have qf0 := bf_ BK2.out 0; have qf1 := bf_ BK2.out 1; have qf2 := bf_ BK2.out 2; have qf3 := bf_ BK2.out 3; have qf4 := bf_ BK2.out 4; have qf5 := bf_ BK2.out 5; have qf6 := bf_ BK2.out 6; refine se_ (t := 34) (p := 2) (v := ?vo_29) (w1 := (ch7_ wq7_ gb2_ (.int .i64 x7_0) (.slice Ax7_1 x7_1.length cx7_1) (.int .i64 x7_2) (.int .i64 x7_3) (.slice Ax7_4 x7_4.length cx7_4) (.slice Ax7_5 x7_5.length cx7_5) (.slice Ax7_6 x7_6.length cx7_6))) ?hg ?ho ?hn ?hr ?_; (case ho => rfl); (case hg => rfl); (case hn => rfl); (case hr => first | (go_simp; done) | (go_simp; rfl)); intro w29_ hw; clear qf0 qf1 qf2 qf3 qf4 qf5 qf6; obtain ⟨hbx, hkp, hbb⟩ := st7_ hw BK2 HB (by have := HS.out; omega); clear hw; replace HOx7_1 := aSk HOx7_1 hkp HS; replace HOx7_4 := aSk HOx7_4 hkp HS; replace HOx7_5 := aSk HOx7_5 hkp HS; replace HOx7_6 := aRk HOx7_6 hkp HS; replace BK1 := aBk BK1 hkp HS; replace BK4 := aBk BK4 hkp HS; replace BK2 := A_.mk hbx; replace HB := A_.mk hbb; replace HS := aHs HS hkp.1; clear hkp hbb hbx Q1 Q2 Q4; have Q1 := blk7_ BK1.out; have Q2 := blk7_ BK2.out; have Q4 := blk7_ BK4.out))
    refine bodyPost_ret (results_cell_row rfl _ _ gb2_ 34 #[.int .i64 x7_0, .slice Ax7_1 x7_1.length cx7_1, .int .i64 x7_2, .int .i64 x7_3, .slice Ax7_4 x7_4.length cx7_4, .slice Ax7_5 x7_5.length cx7_5, .slice Ax7_6 x7_6.length cx7_6] (0, 0) _ rfl BK2.out Try.underlying34 rfl (by kernel_rfl)) rfl ?_
    obtain ⟨f_, hf_⟩ : ∃ f_ : Nat → Nat, ∀ k_, f_ k_ = (if ((w.heap.size ≤ k_ ∧ k_ < wq7_.heap.size) ∧ k_ ≠ gb4_ ∧ fx7_ k_ = 0) then 0 else (if ((w.heap.size ≤ k_ ∧ k_ < wq7_.heap.size) ∧ k_ ≠ gb4_ ∧ fx7_ k_ = 1) then 1 else (if ((w.heap.size ≤ k_ ∧ k_ < wq7_.heap.size) ∧ k_ ≠ gb4_ ∧ fx7_ k_ = 2) then 2 else (if ((w.heap.size ≤ k_ ∧ k_ < wq7_.heap.size) ∧ k_ ≠ gb4_ ∧ fx7_ k_ = 3) then 3 else 0)))) := ⟨fun k_ => (if ((w.heap.size ≤ k_ ∧ k_ < wq7_.heap.size) ∧ k_ ≠ gb4_ ∧ fx7_ k_ = 0) then 0 else (if ((w.heap.size ≤ k_ ∧ k_ < wq7_.heap.size) ∧ k_ ≠ gb4_ ∧ fx7_ k_ = 1) then 1 else (if ((w.heap.size ≤ k_ ∧ k_ < wq7_.heap.size) ∧ k_ ≠ gb4_ ∧ fx7_ k_ = 2) then 2 else (if ((w.heap.size ≤ k_ ∧ k_ < wq7_.heap.size) ∧ k_ ≠ gb4_ ∧ fx7_ k_ = 3) then 3 else 0)))), fun _ => rfl⟩
    have hcol0_ : ∀ k_, (((w.heap.size ≤ k_ ∧ k_ < wq7_.heap.size) ∧ k_ ≠ gb4_ ∧ fx7_ k_ = 0)) → f_ k_ = 0 := fun k_ hk_ => by rw [hf_]; have := HS.out; repeat' (first | omega | split)
    have hcol1_ : ∀ k_, (((w.heap.size ≤ k_ ∧ k_ < wq7_.heap.size) ∧ k_ ≠ gb4_ ∧ fx7_ k_ = 1)) → f_ k_ = 1 := fun k_ hk_ => by rw [hf_]; have := HS.out; repeat' (first | omega | split)
    have hcol2_ : ∀ k_, (((w.heap.size ≤ k_ ∧ k_ < wq7_.heap.size) ∧ k_ ≠ gb4_ ∧ fx7_ k_ = 2)) → f_ k_ = 2 := fun k_ hk_ => by rw [hf_]; have := HS.out; repeat' (first | omega | split)
    have hcol3_ : ∀ k_, (((w.heap.size ≤ k_ ∧ k_ < wq7_.heap.size) ∧ k_ ≠ gb4_ ∧ fx7_ k_ = 3)) → f_ k_ = 3 := fun k_ hk_ => by rw [hf_]; have := HS.out; repeat' (first | omega | split)
    exact ⟨f_, _, _, _, _, rfl, Kd.S_mono HOx7_1.out hcol0_, Kd.S_mono HOx7_4.out hcol1_, Kd.S_mono HOx7_5.out hcol2_, Kd.R_mono HOx7_6.out hcol3_, HB.out⟩
   rw [if_neg hc11_] at H
   have hc11_b0 : ((x7_6.length : Int) == 0) = false := beq_eq_false_iff_ne.mpr hc11_
   have hc11_bn : ((x7_6.length : Int) != 0) = true := bne_iff_ne.mpr hc11_
   have hc11_b1 : (x7_6.length == 0) = false := by first | simpa using hc11_ | (simp at hc11_ ⊢; omega)
   replace H := oa_ H
   obtain ⟨⟨t9, t10, t11, t12, t13, t14, t15, t16⟩, A8, H⟩ := H
   try dsimp only at H
   replace H := ob_ H
   obtain ⟨⟨z9_0, z9_1, z9_2, z9_3, z9_4, z9_5, z9_6⟩, AL_, H⟩ := H
   have HRL9 := A_.mk H
   have AL9 := A_.mk AL_
   clear H AL_
   go_wp2_with (fail)
   obtain ⟨fp8_, hfp_⟩ : ∃ f_ : Nat → Nat, ∀ k_, f_ k_ = (if ((w.heap.size ≤ k_ ∧ k_ < wq7_.heap.size) ∧ k_ ≠ gb4_ ∧ fx7_ k_ = 0) then 0 else (if ((w.heap.size ≤ k_ ∧ k_ < wq7_.heap.size) ∧ k_ ≠ gb4_ ∧ fx7_ k_ = 1) then 1 else (if ((w.heap.size ≤ k_ ∧ k_ < wq7_.heap.size) ∧ k_ ≠ gb4_ ∧ fx7_ k_ = 2) then 2 else (if ((w.heap.size ≤ k_ ∧ k_ < wq7_.heap.size) ∧ k_ ≠ gb4_ ∧ fx7_ k_ = 3) then 3 else 4)))) := ⟨fun k_ => (if ((w.heap.size ≤ k_ ∧ k_ < wq7_.heap.size) ∧ k_ ≠ gb4_ ∧ fx7_ k_ = 0) then 0 else (if ((w.heap.size ≤ k_ ∧ k_ < wq7_.heap.size) ∧ k_ ≠ gb4_ ∧ fx7_ k_ = 1) then 1 else (if ((w.heap.size ≤ k_ ∧ k_ < wq7_.heap.size) ∧ k_ ≠ gb4_ ∧ fx7_ k_ = 2) then 2 else (if ((w.heap.size ≤ k_ ∧ k_ < wq7_.heap.size) ∧ k_ ≠ gb4_ ∧ fx7_ k_ = 3) then 3 else 4)))), fun _ => rfl⟩
   have hcp1_ : ∀ k_, (((w.heap.size ≤ k_ ∧ k_ < wq7_.heap.size) ∧ k_ ≠ gb4_ ∧ fx7_ k_ = 0)) → ((w.heap.size ≤ k_ ∧ k_ < wq7_.heap.size) ∧ k_ ≠ gb4_ ∧ fp8_ k_ = 0) := fun k_ hk_ => ⟨by have := HS.out; omega, by have := HS.out; omega, by rw [hfp_]; have := HS.out; repeat' (first | omega | split)⟩
   have hcp4_ : ∀ k_, (((w.heap.size ≤ k_ ∧ k_ < wq7_.heap.size) ∧ k_ ≠ gb4_ ∧ fx7_ k_ = 1)) → ((w.heap.size ≤ k_ ∧ k_ < wq7_.heap.size) ∧ k_ ≠ gb4_ ∧ fp8_ k_ = 1) := fun k_ hk_ => ⟨by have := HS.out; omega, by have := HS.out; omega, by rw [hfp_]; have := HS.out; repeat' (first | omega | split)⟩
   have hcp5_ : ∀ k_, (((w.heap.size ≤ k_ ∧ k_ < wq7_.heap.size) ∧ k_ ≠ gb4_ ∧ fx7_ k_ = 2)) → ((w.heap.size ≤ k_ ∧ k_ < wq7_.heap.size) ∧ k_ ≠ gb4_ ∧ fp8_ k_ = 2) := fun k_ hk_ => ⟨by have := HS.out; omega, by have := HS.out; omega, by rw [hfp_]; have := HS.out; repeat' (first | omega | split)⟩
   have hcp6_ : ∀ k_, (((w.heap.size ≤ k_ ∧ k_ < wq7_.heap.size) ∧ k_ ≠ gb4_ ∧ fx7_ k_ = 3)) → ((w.heap.size ≤ k_ ∧ k_ < wq7_.heap.size) ∧ k_ ≠ gb4_ ∧ fp8_ k_ = 3) := fun k_ hk_ => ⟨by have := HS.out; omega, by have := HS.out; omega, by rw [hfp_]; have := HS.out; repeat' (first | omega | split)⟩
   have hfb1_ : fp8_ gb1_ = 4 := by rw [hfp_]; have := HS.out; repeat' (first | omega | split)
   have hfb2_ : fp8_ gb2_ = 4 := by rw [hfp_]; have := HS.out; repeat' (first | omega | split)
   refine (impl_Link_step.calls kq7_ gb4_ fp8_ x7_0 _ _ x7_1 x7_2 x7_3 _ _ x7_4 _ _ x7_5 _ _ x7_6 6 0 t9 t10 t11 t12 t13 t14 t15 t16 w _ HB.out (by have := HS.out; omega) BK4.out (Kd.S_mono HOx7_1.out hcp1_) (Kd.S_mono HOx7_4.out hcp4_) (Kd.S_mono HOx7_5.out hcp5_) (Kd.R_mono HOx7_6.out hcp6_) A8.out).mono ?_
   rintro e w8_ ⟨f8_, v0_, v1_, v2_, v3_, rfl, hbx_, ho1_, ho2_, ho3_, ho4_, hfk_, hbb, hkp⟩
   have hge1_ : 4 ≤ f8_ gb1_ := by have h1_ := hfk_ gb1_ (blk_lt BK1.out); have := hfb1_; have := HS.out; omega
   have hge2_ : 4 ≤ f8_ gb2_ := by have h1_ := hfk_ gb2_ (blk_lt BK2.out); have := hfb2_; have := HS.out; omega
   replace BK1 := A_.mk ((hkp.2 _ (blk_lt BK1.out) (fun _ => by have := hfb1_; have := HS.out; omega)).trans BK1.out)
   replace BK2 := A_.mk ((hkp.2 _ (blk_lt BK2.out) (fun _ => by have := hfb2_; have := HS.out; omega)).trans BK2.out)
   replace BK4 := A_.mk hbx_
   replace HB := A_.mk hbb
   replace HS := aHs HS hkp.1
   replace HS := aHs HS hge1_
   replace HS := aHs HS hge2_
   clear hfk_ hge1_ hge2_
   obtain ⟨Ao8_0, co8_0, ev_⟩ := Kd.S_slice ho1_
   subst ev_
   have HO8_0 := A_.mk ho1_
   obtain ⟨Ao8_1, co8_1, ev_⟩ := Kd.S_slice ho2_
   subst ev_
   have HO8_1 := A_.mk ho2_
   obtain ⟨Ao8_2, co8_2, ev_⟩ := Kd.S_slice ho3_
   subst ev_
   have HO8_2 := A_.mk ho3_
   obtain ⟨Ao8_3, co8_3, ev_⟩ := Kd.R_slice ho4_
   subst ev_
   have HO8_3 := A_.mk ho4_
   clear hkp hbx_ hbb hfp_ hcp1_ hcp4_ hcp5_ hcp6_ ho1_ ho2_ ho3_ ho4_ hfb1_ hfb2_ Q1 Q2 Q4
   have Q1 := blk7_ BK1.out
   have Q2 := blk7_ BK2.out
   have Q4 := blk7_ BK4.out
   go_wp2
   obtain ⟨fp46_, hfp_⟩ : ∃ f_ : Nat → Nat, ∀ k_, f_ k_ = (if ((w.heap.size ≤ k_ ∧ k_ < w8_.heap.size) ∧ k_ ≠ gb4_ ∧ f8_ k_ = 0) then 0 else (if ((w.heap.size ≤ k_ ∧ k_ < w8_.heap.size) ∧ k_ ≠ gb4_ ∧ f8_ k_ = 1) then 1 else (if ((w.heap.size ≤ k_ ∧ k_ < w8_.heap.size) ∧ k_ ≠ gb4_ ∧ f8_ k_ = 2) then 2 else (if ((w.heap.size ≤ k_ ∧ k_ < w8_.heap.size) ∧ k_ ≠ gb4_ ∧ f8_ k_ = 3) then 3 else 4)))) := ⟨fun k_ => (if ((w.heap.size ≤ k_ ∧ k_ < w8_.heap.size) ∧ k_ ≠ gb4_ ∧ f8_ k_ = 0) then 0 else (if ((w.heap.size ≤ k_ ∧ k_ < w8_.heap.size) ∧ k_ ≠ gb4_ ∧ f8_ k_ = 1) then 1 else (if ((w.heap.size ≤ k_ ∧ k_ < w8_.heap.size) ∧ k_ ≠ gb4_ ∧ f8_ k_ = 2) then 2 else (if ((w.heap.size ≤ k_ ∧ k_ < w8_.heap.size) ∧ k_ ≠ gb4_ ∧ f8_ k_ = 3) then 3 else 4)))), fun _ => rfl⟩
   have hcp1_ : ∀ k_, (((w.heap.size ≤ k_ ∧ k_ < w8_.heap.size) ∧ k_ ≠ gb4_ ∧ f8_ k_ = 0)) → ((w.heap.size ≤ k_ ∧ k_ < w8_.heap.size) ∧ k_ ≠ gb4_ ∧ fp46_ k_ = 0) := fun k_ hk_ => ⟨by have := HS.out; omega, by have := HS.out; omega, by rw [hfp_]; have := HS.out; repeat' (first | omega | split)⟩
   have hcp4_ : ∀ k_, (((w.heap.size ≤ k_ ∧ k_ < w8_.heap.size) ∧ k_ ≠ gb4_ ∧ f8_ k_ = 1)) → ((w.heap.size ≤ k_ ∧ k_ < w8_.heap.size) ∧ k_ ≠ gb4_ ∧ fp46_ k_ = 1) := fun k_ hk_ => ⟨by have := HS.out; omega, by have := HS.out; omega, by rw [hfp_]; have := HS.out; repeat' (first | omega | split)⟩
   have hcp5_ : ∀ k_, (((w.heap.size ≤ k_ ∧ k_ < w8_.heap.size) ∧ k_ ≠ gb4_ ∧ f8_ k_ = 2)) → ((w.heap.size ≤ k_ ∧ k_ < w8_.heap.size) ∧ k_ ≠ gb4_ ∧ fp46_ k_ = 2) := fun k_ hk_ => ⟨by have := HS.out; omega, by have := HS.out; omega, by rw [hfp_]; have := HS.out; repeat' (first | omega | split)⟩
   have hcp6_ : ∀ k_, (((w.heap.size ≤ k_ ∧ k_ < w8_.heap.size) ∧ k_ ≠ gb4_ ∧ f8_ k_ = 3)) → ((w.heap.size ≤ k_ ∧ k_ < w8_.heap.size) ∧ k_ ≠ gb4_ ∧ fp46_ k_ = 3) := fun k_ hk_ => ⟨by have := HS.out; omega, by have := HS.out; omega, by rw [hfp_]; have := HS.out; repeat' (first | omega | split)⟩
   have hfb1_ : fp46_ gb1_ = 4 := by rw [hfp_]; have := HS.out; repeat' (first | omega | split)
   have hfb2_ : fp46_ gb2_ = 4 := by rw [hfp_]; have := HS.out; repeat' (first | omega | split)
   go_loopg [] kq7_ (fun kq  w' => ∃ (fx9_ : Nat → Nat) (Ax9_1 : Option Addr) (Ax9_4 : Option Addr) (Ax9_5 : Option Addr) (Ax9_6 : Option Addr) (cx9_1 : Nat) (cx9_4 : Nat) (cx9_5 : Nat) (cx9_6 : Nat) (x9_0 : Int) (x9_1 : List S66) (x9_2 : Int) (x9_3 : Int) (x9_4 : List (List Int)) (x9_5 : List (List Int)) (x9_6 : List Int), A_ (impl_DrainLink.l9 kq x9_0 x9_1 x9_2 x9_3 x9_4 x9_5 x9_6 = some (z9_0, z9_1, z9_2, z9_3, z9_4, z9_5, z9_6)) ∧ A_ (kq ≤ kq7_) ∧ A_ (w'.heap[gb4_]? = some (.cells #[.int .i64 x9_0, .slice Ax9_1 x9_1.length cx9_1, .int .i64 x9_2, .int .i64 x9_3, .slice Ax9_4 x9_4.length cx9_4, .slice Ax9_5 x9_5.length cx9_5, .slice Ax9_6 x9_6.length cx9_6] 34 (0, 0))) ∧ A_ (Kd.S k66 66 w' w.heap.size (fun k_ => (w.heap.size ≤ k_ ∧ k_ < w'.heap.size) ∧ k_ ≠ gb4_ ∧ fx9_ k_ = 0) (.slice Ax9_1 x9_1.length cx9_1) x9_1) ∧ A_ (Kd.S (Kd.slice 3 (Kd.int .i64)) 32 w' w.heap.size (fun k_ => (w.heap.size ≤ k_ ∧ k_ < w'.heap.size) ∧ k_ ≠ gb4_ ∧ fx9_ k_ = 1) (.slice Ax9_4 x9_4.length cx9_4) x9_4) ∧ A_ (Kd.S (Kd.slice 3 (Kd.int .i64)) 32 w' w.heap.size (fun k_ => (w.heap.size ≤ k_ ∧ k_ < w'.heap.size) ∧ k_ ≠ gb4_ ∧ fx9_ k_ = 2) (.slice Ax9_5 x9_5.length cx9_5) x9_5) ∧ A_ (Kd.R (Kd.int .i64) 3 w' w.heap.size (fun k_ => (w.heap.size ≤ k_ ∧ k_ < w'.heap.size) ∧ k_ ≠ gb4_ ∧ fx9_ k_ = 3) (.slice Ax9_6 x9_6.length cx9_6) x9_6) ∧ A_ (w'.heap[gb1_]? = some (.cells #[.int .i64 a0_0, .slice A0_1 l0_1.length c0_1, .int .i64 a0_2, .int .i64 a0_3, .slice A0_4 l0_4.length c0_4, .slice A0_5 l0_5.length c0_5, .slice A0_6 l0_6.length c0_6] 34 (0, 0))) ∧ A_ (w'.heap[gb2_]? = some (.cells #[.int .i64 0, .slice none 0 0, .int .i64 0, .int .i64 0, .slice none 0 0, .slice none 0 0, .slice none 0 0] 34 (0, 0))) ∧ A_ (4 ≤ fx9_ gb1_) ∧ A_ (4 ≤ fx9_ gb2_) ∧ A_ (Below w.heap.size w w') ∧ A_ (w8_.heap.size ≤ w'.heap.size))
   case atStart => exact ⟨fp46_, Ao8_0, Ao8_1, Ao8_2, Ao8_3, co8_0, co8_1, co8_2, co8_3, t10, t11, t12, t13, t14, t15, t16, AL9, ⟨Nat.le_refl _⟩, BK4, ⟨Kd.S_mono HO8_0.out hcp1_⟩, ⟨Kd.S_mono HO8_1.out hcp4_⟩, ⟨Kd.S_mono HO8_2.out hcp5_⟩, ⟨Kd.R_mono HO8_3.out hcp6_⟩, BK1, BK2, ⟨Nat.le_of_eq hfb1_.symm⟩, ⟨Nat.le_of_eq hfb2_.symm⟩, HB, ⟨Nat.le_refl _⟩⟩
   case round =>
    clear AL9 HB BK1 BK2 BK4 HO8_0 HO8_1 HO8_2 HO8_3 Q1 Q2 Q4 hfp_ hcp1_ hcp4_ hcp5_ hcp6_ hfb1_ hfb2_
    obtain ⟨fx9_, Ax9_1, Ax9_4, Ax9_5, Ax9_6, cx9_1, cx9_4, cx9_5, cx9_6, x9_0, x9_1, x9_2, x9_3, x9_4, x9_5, x9_6, HA, HKL9, BK4, HOx9_1, HOx9_4, HOx9_5, HOx9_6, BK1, BK2, HG1_, HG2_, HB, HSL_⟩ := hrel
    rename World => wq9_
    replace HS := A_.mk (And.intro HS.out HSL_.out)
    clear HSL_
    replace HS := aHs HS HG1_.out
    clear HG1_
    replace HS := aHs HS HG2_.out
    clear HG2_
    cases gk with
    | zero => exact absurd HA.out (by simp [impl_DrainLink.l9])
    | succ kq9_ =>
     have H := HA.out
     clear HA
     simp only [impl_DrainLink.l9] at H
     have Q1 := blk7_ BK1.out
     have Q2 := blk7_ BK2.out
     have Q4 := blk7_ BK4.out
     replace H := oa_ H
     obtain ⟨⟨t17, t18, t19, t20, t21, t22, t23, t24⟩, A10, H⟩ := H
     try dsimp only at H
     replace H := A_.mk H
     go_wp2_with (fail)
     obtain ⟨fp10_, hfp_⟩ : ∃ f_ : Nat → Nat, ∀ k_, f_ k_ = (if ((w.heap.size ≤ k_ ∧ k_ < wq9_.heap.size) ∧ k_ ≠ gb4_ ∧ fx9_ k_ = 0) then 0 else (if ((w.heap.size ≤ k_ ∧ k_ < wq9_.heap.size) ∧ k_ ≠ gb4_ ∧ fx9_ k_ = 1) then 1 else (if ((w.heap.size ≤ k_ ∧ k_ < wq9_.heap.size) ∧ k_ ≠ gb4_ ∧ fx9_ k_ = 2) then 2 else (if ((w.heap.size ≤ k_ ∧ k_ < wq9_.heap.size) ∧ k_ ≠ gb4_ ∧ fx9_ k_ = 3) then 3 else 4)))) := ⟨fun k_ => (if ((w.heap.size ≤ k_ ∧ k_ < wq9_.heap.size) ∧ k_ ≠ gb4_ ∧ fx9_ k_ = 0) then 0 else (if ((w.heap.size ≤ k_ ∧ k_ < wq9_.heap.size) ∧ k_ ≠ gb4_ ∧ fx9_ k_ = 1) then 1 else (if ((w.heap.size ≤ k_ ∧ k_ < wq9_.heap.size) ∧ k_ ≠ gb4_ ∧ fx9_ k_ = 2) then 2 else (if ((w.heap.size ≤ k_ ∧ k_ < wq9_.heap.size) ∧ k_ ≠ gb4_ ∧ fx9_ k_ = 3) then 3 else 4)))), fun _ => rfl⟩
     have hcp1_ : ∀ k_, (((w.heap.size ≤ k_ ∧ k_ < wq9_.heap.size) ∧ k_ ≠ gb4_ ∧ fx9_ k_ = 0)) → ((w.heap.size ≤ k_ ∧ k_ < wq9_.heap.size) ∧ k_ ≠ gb4_ ∧ fp10_ k_ = 0) := fun k_ hk_ => ⟨by have := HS.out; omega, by have := HS.out; omega, by rw [hfp_]; have := HS.out; repeat' (first | omega | split)⟩
     have hcp4_ : ∀ k_, (((w.heap.size ≤ k_ ∧ k_ < wq9_.heap.size) ∧ k_ ≠ gb4_ ∧ fx9_ k_ = 1)) → ((w.heap.size ≤ k_ ∧ k_ < wq9_.heap.size) ∧ k_ ≠ gb4_ ∧ fp10_ k_ = 1) := fun k_ hk_ => ⟨by have := HS.out; omega, by have := HS.out; omega, by rw [hfp_]; have := HS.out; repeat' (first | omega | split)⟩
     have hcp5_ : ∀ k_, (((w.heap.size ≤ k_ ∧ k_ < wq9_.heap.size) ∧ k_ ≠ gb4_ ∧ fx9_ k_ = 2)) → ((w.heap.size ≤ k_ ∧ k_ < wq9_.heap.size) ∧ k_ ≠ gb4_ ∧ fp10_ k_ = 2) := fun k_ hk_ => ⟨by have := HS.out; omega, by have := HS.out; omega, by rw [hfp_]; have := HS.out; repeat' (first | omega | split)⟩
     have hcp6_ : ∀ k_, (((w.heap.size ≤ k_ ∧ k_ < wq9_.heap.size) ∧ k_ ≠ gb4_ ∧ fx9_ k_ = 3)) → ((w.heap.size ≤ k_ ∧ k_ < wq9_.heap.size) ∧ k_ ≠ gb4_ ∧ fp10_ k_ = 3) := fun k_ hk_ => ⟨by have := HS.out; omega, by have := HS.out; omega, by rw [hfp_]; have := HS.out; repeat' (first | omega | split)⟩
     have hfb1_ : fp10_ gb1_ = 4 := by rw [hfp_]; have := HS.out; repeat' (first | omega | split)
     have hfb2_ : fp10_ gb2_ = 4 := by rw [hfp_]; have := HS.out; repeat' (first | omega | split)
     refine (impl_Link_send.calls kq9_ gb4_ fp10_ x9_0 _ _ x9_1 x9_2 x9_3 _ _ x9_4 _ _ x9_5 _ _ x9_6 t17 t18 t19 t20 t21 t22 t23 t24 w _ HB.out (by have := HS.out; omega) BK4.out (Kd.S_mono HOx9_1.out hcp1_) (Kd.S_mono HOx9_4.out hcp4_) (Kd.S_mono HOx9_5.out hcp5_) (Kd.R_mono HOx9_6.out hcp6_) A10.out).mono ?_
     rintro e w10_ ⟨f10_, v0_, v1_, v2_, v3_, rfl, hbx_, ho1_, ho2_, ho3_, ho4_, hfk_, hbb, hkp⟩
     have hge1_ : 4 ≤ f10_ gb1_ := by have h1_ := hfk_ gb1_ (blk_lt BK1.out); have := hfb1_; have := HS.out; omega
     have hge2_ : 4 ≤ f10_ gb2_ := by have h1_ := hfk_ gb2_ (blk_lt BK2.out); have := hfb2_; have := HS.out; omega
     replace BK1 := A_.mk ((hkp.2 _ (blk_lt BK1.out) (fun _ => by have := hfb1_; have := HS.out; omega)).trans BK1.out)
     replace BK2 := A_.mk ((hkp.2 _ (blk_lt BK2.out) (fun _ => by have := hfb2_; have := HS.out; omega)).trans BK2.out)
     replace BK4 := A_.mk hbx_
     replace HB := A_.mk hbb
     replace HS := aHs HS hkp.1
     replace HS := aHs HS hge1_
     replace HS := aHs HS hge2_
     clear hfk_ hge1_ hge2_
     obtain ⟨Ao10_0, co10_0, ev_⟩ := Kd.S_slice ho1_
     subst ev_
     have HO10_0 := A_.mk ho1_
     obtain ⟨Ao10_1, co10_1, ev_⟩ := Kd.S_slice ho2_
     subst ev_
     have HO10_1 := A_.mk ho2_
     obtain ⟨Ao10_2, co10_2, ev_⟩ := Kd.S_slice ho3_
     subst ev_
     have HO10_2 := A_.mk ho3_
     obtain ⟨Ao10_3, co10_3, ev_⟩ := Kd.R_slice ho4_
     subst ev_
     have HO10_3 := A_.mk ho4_
     clear hkp hbx_ hbb hfp_ hcp1_ hcp4_ hcp5_ hcp6_ ho1_ ho2_ ho3_ ho4_ hfb1_ hfb2_ Q1 Q2 Q4
     have Q1 := blk7_ BK1.out
     have Q2 := blk7_ BK2.out
     have Q4 := blk7_ BK4.out
     replace H := H.out
     by_cases hc12_ : t17 = true
     case pos =>
      rw [if_pos hc12_] at H
      subst hc12_
      have HA := A_.mk H
      clear H
      go_wp2
      obtain ⟨fp47_, hfp_⟩ : ∃ f_ : Nat → Nat, ∀ k_, f_ k_ = (if ((w.heap.size ≤ k_ ∧ k_ < w10_.heap.size) ∧ k_ ≠ gb4_ ∧ f10_ k_ = 0) then 0 else (if ((w.heap.size ≤ k_ ∧ k_ < w10_.heap.size) ∧ k_ ≠ gb4_ ∧ f10_ k_ = 1) then 1 else (if ((w.heap.size ≤ k_ ∧ k_ < w10_.heap.size) ∧ k_ ≠ gb4_ ∧ f10_ k_ = 2) then 2 else (if ((w.heap.size ≤ k_ ∧ k_ < w10_.heap.size) ∧ k_ ≠ gb4_ ∧ f10_ k_ = 3) then 3 else 4)))) := ⟨fun k_ => (if ((w.heap.size ≤ k_ ∧ k_ < w10_.heap.size) ∧ k_ ≠ gb4_ ∧ f10_ k_ = 0) then 0 else (if ((w.heap.size ≤ k_ ∧ k_ < w10_.heap.size) ∧ k_ ≠ gb4_ ∧ f10_ k_ = 1) then 1 else (if ((w.heap.size ≤ k_ ∧ k_ < w10_.heap.size) ∧ k_ ≠ gb4_ ∧ f10_ k_ = 2) then 2 else (if ((w.heap.size ≤ k_ ∧ k_ < w10_.heap.size) ∧ k_ ≠ gb4_ ∧ f10_ k_ = 3) then 3 else 4)))), fun _ => rfl⟩
      have hcp1_ : ∀ k_, (((w.heap.size ≤ k_ ∧ k_ < w10_.heap.size) ∧ k_ ≠ gb4_ ∧ f10_ k_ = 0)) → ((w.heap.size ≤ k_ ∧ k_ < w10_.heap.size) ∧ k_ ≠ gb4_ ∧ fp47_ k_ = 0) := fun k_ hk_ => ⟨by have := HS.out; omega, by have := HS.out; omega, by rw [hfp_]; have := HS.out; repeat' (first | omega | split)⟩
      have hcp4_ : ∀ k_, (((w.heap.size ≤ k_ ∧ k_ < w10_.heap.size) ∧ k_ ≠ gb4_ ∧ f10_ k_ = 1)) → ((w.heap.size ≤ k_ ∧ k_ < w10_.heap.size) ∧ k_ ≠ gb4_ ∧ fp47_ k_ = 1) := fun k_ hk_ => ⟨by have := HS.out; omega, by have := HS.out; omega, by rw [hfp_]; have := HS.out; repeat' (first | omega | split)⟩
      have hcp5_ : ∀ k_, (((w.heap.size ≤ k_ ∧ k_ < w10_.heap.size) ∧ k_ ≠ gb4_ ∧ f10_ k_ = 2)) → ((w.heap.size ≤ k_ ∧ k_ < w10_.heap.size) ∧ k_ ≠ gb4_ ∧ fp47_ k_ = 2) := fun k_ hk_ => ⟨by have := HS.out; omega, by have := HS.out; omega, by rw [hfp_]; have := HS.out; repeat' (first | omega | split)⟩
      have hcp6_ : ∀ k_, (((w.heap.size ≤ k_ ∧ k_ < w10_.heap.size) ∧ k_ ≠ gb4_ ∧ f10_ k_ = 3)) → ((w.heap.size ≤ k_ ∧ k_ < w10_.heap.size) ∧ k_ ≠ gb4_ ∧ fp47_ k_ = 3) := fun k_ hk_ => ⟨by have := HS.out; omega, by have := HS.out; omega, by rw [hfp_]; have := HS.out; repeat' (first | omega | split)⟩
      have hfb1_ : fp47_ gb1_ = 4 := by rw [hfp_]; have := HS.out; repeat' (first | omega | split)
      have hfb2_ : fp47_ gb2_ = 4 := by rw [hfp_]; have := HS.out; repeat' (first | omega | split)
      go_roundg kq9_
      case measure => have := HKL9.out; omega
      case rel => exact ⟨fp47_, Ao10_0, Ao10_1, Ao10_2, Ao10_3, co10_0, co10_1, co10_2, co10_3, t18, t19, t20, t21, t22, t23, t24, HA, ⟨by have := HKL9.out; omega⟩, BK4, ⟨Kd.S_mono HO10_0.out hcp1_⟩, ⟨Kd.S_mono HO10_1.out hcp4_⟩, ⟨Kd.S_mono HO10_2.out hcp5_⟩, ⟨Kd.R_mono HO10_3.out hcp6_⟩, BK1, BK2, ⟨Nat.le_of_eq hfb1_.symm⟩, ⟨Nat.le_of_eq hfb2_.symm⟩, HB, ⟨(by have := HS.out; omega)⟩⟩
     rw [if_neg hc12_] at H
     replace hc12_ := eq_false_of_ne_true hc12_
     subst hc12_
     simp only [Option.some.injEq, Prod.mk.injEq] at H
     obtain ⟨rfl, rfl, rfl, rfl, rfl, rfl, rfl⟩ := H
     have H := HRL9.out
     clear HRL9
     (try dsimp only at H)
     replace H := ob_ H
     obtain ⟨⟨z11_0, z11_1, z11_2, z11_3, z11_4, z11_5, z11_6⟩, AL_, H⟩ := H
     have HRL11 := A_.mk H
     have AL11 := A_.mk AL_
     clear H AL_
     go_wp2
     obtain ⟨fp48_, hfp_⟩ : ∃ f_ : Nat → Nat, ∀ k_, f_ k_ = (if ((w.heap.size ≤ k_ ∧ k_ < w10_.heap.size) ∧ k_ ≠ gb4_ ∧ f10_ k_ = 0) then 0 else (if ((w.heap.size ≤ k_ ∧ k_ < w10_.heap.size) ∧ k_ ≠ gb4_ ∧ f10_ k_ = 1) then 1 else (if ((w.heap.size ≤ k_ ∧ k_ < w10_.heap.size) ∧ k_ ≠ gb4_ ∧ f10_ k_ = 2) then 2 else (if ((w.heap.size ≤ k_ ∧ k_ < w10_.heap.size) ∧ k_ ≠ gb4_ ∧ f10_ k_ = 3) then 3 else 4)))) := ⟨fun k_ => (if ((w.heap.size ≤ k_ ∧ k_ < w10_.heap.size) ∧ k_ ≠ gb4_ ∧ f10_ k_ = 0) then 0 else (if ((w.heap.size ≤ k_ ∧ k_ < w10_.heap.size) ∧ k_ ≠ gb4_ ∧ f10_ k_ = 1) then 1 else (if ((w.heap.size ≤ k_ ∧ k_ < w10_.heap.size) ∧ k_ ≠ gb4_ ∧ f10_ k_ = 2) then 2 else (if ((w.heap.size ≤ k_ ∧ k_ < w10_.heap.size) ∧ k_ ≠ gb4_ ∧ f10_ k_ = 3) then 3 else 4)))), fun _ => rfl⟩
     have hcp1_ : ∀ k_, (((w.heap.size ≤ k_ ∧ k_ < w10_.heap.size) ∧ k_ ≠ gb4_ ∧ f10_ k_ = 0)) → ((w.heap.size ≤ k_ ∧ k_ < w10_.heap.size) ∧ k_ ≠ gb4_ ∧ fp48_ k_ = 0) := fun k_ hk_ => ⟨by have := HS.out; omega, by have := HS.out; omega, by rw [hfp_]; have := HS.out; repeat' (first | omega | split)⟩
     have hcp4_ : ∀ k_, (((w.heap.size ≤ k_ ∧ k_ < w10_.heap.size) ∧ k_ ≠ gb4_ ∧ f10_ k_ = 1)) → ((w.heap.size ≤ k_ ∧ k_ < w10_.heap.size) ∧ k_ ≠ gb4_ ∧ fp48_ k_ = 1) := fun k_ hk_ => ⟨by have := HS.out; omega, by have := HS.out; omega, by rw [hfp_]; have := HS.out; repeat' (first | omega | split)⟩
     have hcp5_ : ∀ k_, (((w.heap.size ≤ k_ ∧ k_ < w10_.heap.size) ∧ k_ ≠ gb4_ ∧ f10_ k_ = 2)) → ((w.heap.size ≤ k_ ∧ k_ < w10_.heap.size) ∧ k_ ≠ gb4_ ∧ fp48_ k_ = 2) := fun k_ hk_ => ⟨by have := HS.out; omega, by have := HS.out; omega, by rw [hfp_]; have := HS.out; repeat' (first | omega | split)⟩
     have hcp6_ : ∀ k_, (((w.heap.size ≤ k_ ∧ k_ < w10_.heap.size) ∧ k_ ≠ gb4_ ∧ f10_ k_ = 3)) → ((w.heap.size ≤ k_ ∧ k_ < w10_.heap.size) ∧ k_ ≠ gb4_ ∧ fp48_ k_ = 3) := fun k_ hk_ => ⟨by have := HS.out; omega, by have := HS.out; omega, by rw [hfp_]; have := HS.out; repeat' (first | omega | split)⟩
     have hfb1_ : fp48_ gb1_ = 4 := by rw [hfp_]; have := HS.out; repeat' (first | omega | split)
     have hfb2_ : fp48_ gb2_ = 4 := by rw [hfp_]; have := HS.out; repeat' (first | omega | split)
     go_loopg [] kq7_ (fun kq  w' => ∃ (fx11_ : Nat → Nat) (Ax11_1 : Option Addr) (Ax11_4 : Option Addr) (Ax11_5 : Option Addr) (Ax11_6 : Option Addr) (cx11_1 : Nat) (cx11_4 : Nat) (cx11_5 : Nat) (cx11_6 : Nat) (x11_0 : Int) (x11_1 : List S66) (x11_2 : Int) (x11_3 : Int) (x11_4 : List (List Int)) (x11_5 : List (List Int)) (x11_6 : List Int), A_ (impl_DrainLink.l11 kq x11_0 x11_1 x11_2 x11_3 x11_4 x11_5 x11_6 = some (z11_0, z11_1, z11_2, z11_3, z11_4, z11_5, z11_6)) ∧ A_ (kq ≤ kq7_) ∧ A_ (w'.heap[gb4_]? = some (.cells #[.int .i64 x11_0, .slice Ax11_1 x11_1.length cx11_1, .int .i64 x11_2, .int .i64 x11_3, .slice Ax11_4 x11_4.length cx11_4, .slice Ax11_5 x11_5.length cx11_5, .slice Ax11_6 x11_6.length cx11_6] 34 (0, 0))) ∧ A_ (Kd.S k66 66 w' w.heap.size (fun k_ => (w.heap.size ≤ k_ ∧ k_ < w'.heap.size) ∧ k_ ≠ gb4_ ∧ fx11_ k_ = 0) (.slice Ax11_1 x11_1.length cx11_1) x11_1) ∧ A_ (Kd.S (Kd.slice 3 (Kd.int .i64)) 32 w' w.heap.size (fun k_ => (w.heap.size ≤ k_ ∧ k_ < w'.heap.size) ∧ k_ ≠ gb4_ ∧ fx11_ k_ = 1) (.slice Ax11_4 x11_4.length cx11_4) x11_4) ∧ A_ (Kd.S (Kd.slice 3 (Kd.int .i64)) 32 w' w.heap.size (fun k_ => (w.heap.size ≤ k_ ∧ k_ < w'.heap.size) ∧ k_ ≠ gb4_ ∧ fx11_ k_ = 2) (.slice Ax11_5 x11_5.length cx11_5) x11_5) ∧ A_ (Kd.R (Kd.int .i64) 3 w' w.heap.size (fun k_ => (w.heap.size ≤ k_ ∧ k_ < w'.heap.size) ∧ k_ ≠ gb4_ ∧ fx11_ k_ = 3) (.slice Ax11_6 x11_6.length cx11_6) x11_6) ∧ A_ (w'.heap[gb1_]? = some (.cells #[.int .i64 a0_0, .slice A0_1 l0_1.length c0_1, .int .i64 a0_2, .int .i64 a0_3, .slice A0_4 l0_4.length c0_4, .slice A0_5 l0_5.length c0_5, .slice A0_6 l0_6.length c0_6] 34 (0, 0))) ∧ A_ (w'.heap[gb2_]? = some (.cells #[.int .i64 0, .slice none 0 0, .int .i64 0, .int .i64 0, .slice none 0 0, .slice none 0 0, .slice none 0 0] 34 (0, 0))) ∧ A_ (4 ≤ fx11_ gb1_) ∧ A_ (4 ≤ fx11_ gb2_) ∧ A_ (Below w.heap.size w w') ∧ A_ (w10_.heap.size ≤ w'.heap.size))
     case atStart => exact ⟨fp48_, Ao10_0, Ao10_1, Ao10_2, Ao10_3, co10_0, co10_1, co10_2, co10_3, t18, t19, t20, t21, t22, t23, t24, AL11, ⟨Nat.le_refl _⟩, BK4, ⟨Kd.S_mono HO10_0.out hcp1_⟩, ⟨Kd.S_mono HO10_1.out hcp4_⟩, ⟨Kd.S_mono HO10_2.out hcp5_⟩, ⟨Kd.R_mono HO10_3.out hcp6_⟩, BK1, BK2, ⟨Nat.le_of_eq hfb1_.symm⟩, ⟨Nat.le_of_eq hfb2_.symm⟩, HB, ⟨Nat.le_refl _⟩⟩
     case round =>
      clear AL11 HB BK1 BK2 BK4 HO10_0 HO10_1 HO10_2 HO10_3 Q1 Q2 Q4 hfp_ hcp1_ hcp4_ hcp5_ hcp6_ hfb1_ hfb2_
      obtain ⟨fx11_, Ax11_1, Ax11_4, Ax11_5, Ax11_6, cx11_1, cx11_4, cx11_5, cx11_6, x11_0, x11_1, x11_2, x11_3, x11_4, x11_5, x11_6, HA, HKL11, BK4, HOx11_1, HOx11_4, HOx11_5, HOx11_6, BK1, BK2, HG1_, HG2_, HB, HSL_⟩ := hrel
      rename World => wq11_
      replace HS := A_.mk (And.intro HS.out HSL_.out)
      clear HSL_
      replace HS := aHs HS HG1_.out
      clear HG1_
      replace HS := aHs HS HG2_.out
      clear HG2_
      cases gk with
      | zero => exact absurd HA.out (by simp [impl_DrainLink.l11])
      | succ kq11_ =>
       have H := HA.out
       clear HA
       simp only [impl_DrainLink.l11] at H
       have Q1 := blk7_ BK1.out
       have Q2 := blk7_ BK2.out
       have Q4 := blk7_ BK4.out
       replace H := oa_ H
       obtain ⟨⟨t25, t26, t27, t28, t29, t30, t31, t32⟩, A12, H⟩ := H
       try dsimp only at H
       replace H := A_.mk H
       go_wp2_with (fail)
       obtain ⟨fp12_, hfp_⟩ : ∃ f_ : Nat → Nat, ∀ k_, f_ k_ = (if ((w.heap.size ≤ k_ ∧ k_ < wq11_.heap.size) ∧ k_ ≠ gb4_ ∧ fx11_ k_ = 0) then 0 else (if ((w.heap.size ≤ k_ ∧ k_ < wq11_.heap.size) ∧ k_ ≠ gb4_ ∧ fx11_ k_ = 1) then 1 else (if ((w.heap.size ≤ k_ ∧ k_ < wq11_.heap.size) ∧ k_ ≠ gb4_ ∧ fx11_ k_ = 2) then 2 else (if ((w.heap.size ≤ k_ ∧ k_ < wq11_.heap.size) ∧ k_ ≠ gb4_ ∧ fx11_ k_ = 3) then 3 else 4)))) := ⟨fun k_ => (if ((w.heap.size ≤ k_ ∧ k_ < wq11_.heap.size) ∧ k_ ≠ gb4_ ∧ fx11_ k_ = 0) then 0 else (if ((w.heap.size ≤ k_ ∧ k_ < wq11_.heap.size) ∧ k_ ≠ gb4_ ∧ fx11_ k_ = 1) then 1 else (if ((w.heap.size ≤ k_ ∧ k_ < wq11_.heap.size) ∧ k_ ≠ gb4_ ∧ fx11_ k_ = 2) then 2 else (if ((w.heap.size ≤ k_ ∧ k_ < wq11_.heap.size) ∧ k_ ≠ gb4_ ∧ fx11_ k_ = 3) then 3 else 4)))), fun _ => rfl⟩
       have hcp1_ : ∀ k_, (((w.heap.size ≤ k_ ∧ k_ < wq11_.heap.size) ∧ k_ ≠ gb4_ ∧ fx11_ k_ = 0)) → ((w.heap.size ≤ k_ ∧ k_ < wq11_.heap.size) ∧ k_ ≠ gb4_ ∧ fp12_ k_ = 0) := fun k_ hk_ => ⟨by have := HS.out; omega, by have := HS.out; omega, by rw [hfp_]; have := HS.out; repeat' (first | omega | split)⟩
       have hcp4_ : ∀ k_, (((w.heap.size ≤ k_ ∧ k_ < wq11_.heap.size) ∧ k_ ≠ gb4_ ∧ fx11_ k_ = 1)) → ((w.heap.size ≤ k_ ∧ k_ < wq11_.heap.size) ∧ k_ ≠ gb4_ ∧ fp12_ k_ = 1) := fun k_ hk_ => ⟨by have := HS.out; omega, by have := HS.out; omega, by rw [hfp_]; have := HS.out; repeat' (first | omega | split)⟩
       have hcp5_ : ∀ k_, (((w.heap.size ≤ k_ ∧ k_ < wq11_.heap.size) ∧ k_ ≠ gb4_ ∧ fx11_ k_ = 2)) → ((w.heap.size ≤ k_ ∧ k_ < wq11_.heap.size) ∧ k_ ≠ gb4_ ∧ fp12_ k_ = 2) := fun k_ hk_ => ⟨by have := HS.out; omega, by have := HS.out; omega, by rw [hfp_]; have := HS.out; repeat' (first | omega | split)⟩
       have hcp6_ : ∀ k_, (((w.heap.size ≤ k_ ∧ k_ < wq11_.heap.size) ∧ k_ ≠ gb4_ ∧ fx11_ k_ = 3)) → ((w.heap.size ≤ k_ ∧ k_ < wq11_.heap.size) ∧ k_ ≠ gb4_ ∧ fp12_ k_ = 3) := fun k_ hk_ => ⟨by have := HS.out; omega, by have := HS.out; omega, by rw [hfp_]; have := HS.out; repeat' (first | omega | split)⟩
       have hfb1_ : fp12_ gb1_ = 4 := by rw [hfp_]; have := HS.out; repeat' (first | omega | split)
       have hfb2_ : fp12_ gb2_ = 4 := by rw [hfp_]; have := HS.out; repeat' (first | omega | split)
       refine (impl_Link_deliver.calls kq11_ gb4_ fp12_ x11_0 _ _ x11_1 x11_2 x11_3 _ _ x11_4 _ _ x11_5 _ _ x11_6 t25 t26 t27 t28 t29 t30 t31 t32 w _ HB.out (by have := HS.out; omega) BK4.out (Kd.S_mono HOx11_1.out hcp1_) (Kd.S_mono HOx11_4.out hcp4_) (Kd.S_mono HOx11_5.out hcp5_) (Kd.R_mono HOx11_6.out hcp6_) A12.out).mono ?_
       rintro e w12_ ⟨f12_, v0_, v1_, v2_, v3_, rfl, hbx_, ho1_, ho2_, ho3_, ho4_, hfk_, hbb, hkp⟩
       have hge1_ : 4 ≤ f12_ gb1_ := by have h1_ := hfk_ gb1_ (blk_lt BK1.out); have := hfb1_; have := HS.out; omega
       have hge2_ : 4 ≤ f12_ gb2_ := by have h1_ := hfk_ gb2_ (blk_lt BK2.out); have := hfb2_; have := HS.out; omega
       replace BK1 := A_.mk ((hkp.2 _ (blk_lt BK1.out) (fun _ => by have := hfb1_; have := HS.out; omega)).trans BK1.out)
       replace BK2 := A_.mk ((hkp.2 _ (blk_lt BK2.out) (fun _ => by have := hfb2_; have := HS.out; omega)).trans BK2.out)
       replace BK4 := A_.mk hbx_
       replace HB := A_.mk hbb
       replace HS := aHs HS hkp.1
       replace HS := aHs HS hge1_
       replace HS := aHs HS hge2_
       clear hfk_ hge1_ hge2_
       obtain ⟨Ao12_0, co12_0, ev_⟩ := Kd.S_slice ho1_
       subst ev_
       have HO12_0 := A_.mk ho1_
       obtain ⟨Ao12_1, co12_1, ev_⟩ := Kd.S_slice ho2_
       subst ev_
       have HO12_1 := A_.mk ho2_
       obtain ⟨Ao12_2, co12_2, ev_⟩ := Kd.S_slice ho3_
       subst ev_
       have HO12_2 := A_.mk ho3_
       obtain ⟨Ao12_3, co12_3, ev_⟩ := Kd.R_slice ho4_
       subst ev_
       have HO12_3 := A_.mk ho4_
       clear hkp hbx_ hbb hfp_ hcp1_ hcp4_ hcp5_ hcp6_ ho1_ ho2_ ho3_ ho4_ hfb1_ hfb2_ Q1 Q2 Q4
       have Q1 := blk7_ BK1.out
       have Q2 := blk7_ BK2.out
       have Q4 := blk7_ BK4.out
       replace H := H.out
       by_cases hc13_ : t25 = true
       case pos =>
        rw [if_pos hc13_] at H
        subst hc13_
        have HA := A_.mk H
        clear H
        go_wp2
        obtain ⟨fp49_, hfp_⟩ : ∃ f_ : Nat → Nat, ∀ k_, f_ k_ = (if ((w.heap.size ≤ k_ ∧ k_ < w12_.heap.size) ∧ k_ ≠ gb4_ ∧ f12_ k_ = 0) then 0 else (if ((w.heap.size ≤ k_ ∧ k_ < w12_.heap.size) ∧ k_ ≠ gb4_ ∧ f12_ k_ = 1) then 1 else (if ((w.heap.size ≤ k_ ∧ k_ < w12_.heap.size) ∧ k_ ≠ gb4_ ∧ f12_ k_ = 2) then 2 else (if ((w.heap.size ≤ k_ ∧ k_ < w12_.heap.size) ∧ k_ ≠ gb4_ ∧ f12_ k_ = 3) then 3 else 4)))) := ⟨fun k_ => (if ((w.heap.size ≤ k_ ∧ k_ < w12_.heap.size) ∧ k_ ≠ gb4_ ∧ f12_ k_ = 0) then 0 else (if ((w.heap.size ≤ k_ ∧ k_ < w12_.heap.size) ∧ k_ ≠ gb4_ ∧ f12_ k_ = 1) then 1 else (if ((w.heap.size ≤ k_ ∧ k_ < w12_.heap.size) ∧ k_ ≠ gb4_ ∧ f12_ k_ = 2) then 2 else (if ((w.heap.size ≤ k_ ∧ k_ < w12_.heap.size) ∧ k_ ≠ gb4_ ∧ f12_ k_ = 3) then 3 else 4)))), fun _ => rfl⟩
        have hcp1_ : ∀ k_, (((w.heap.size ≤ k_ ∧ k_ < w12_.heap.size) ∧ k_ ≠ gb4_ ∧ f12_ k_ = 0)) → ((w.heap.size ≤ k_ ∧ k_ < w12_.heap.size) ∧ k_ ≠ gb4_ ∧ fp49_ k_ = 0) := fun k_ hk_ => ⟨by have := HS.out; omega, by have := HS.out; omega, by rw [hfp_]; have := HS.out; repeat' (first | omega | split)⟩
        have hcp4_ : ∀ k_, (((w.heap.size ≤ k_ ∧ k_ < w12_.heap.size) ∧ k_ ≠ gb4_ ∧ f12_ k_ = 1)) → ((w.heap.size ≤ k_ ∧ k_ < w12_.heap.size) ∧ k_ ≠ gb4_ ∧ fp49_ k_ = 1) := fun k_ hk_ => ⟨by have := HS.out; omega, by have := HS.out; omega, by rw [hfp_]; have := HS.out; repeat' (first | omega | split)⟩
        have hcp5_ : ∀ k_, (((w.heap.size ≤ k_ ∧ k_ < w12_.heap.size) ∧ k_ ≠ gb4_ ∧ f12_ k_ = 2)) → ((w.heap.size ≤ k_ ∧ k_ < w12_.heap.size) ∧ k_ ≠ gb4_ ∧ fp49_ k_ = 2) := fun k_ hk_ => ⟨by have := HS.out; omega, by have := HS.out; omega, by rw [hfp_]; have := HS.out; repeat' (first | omega | split)⟩
        have hcp6_ : ∀ k_, (((w.heap.size ≤ k_ ∧ k_ < w12_.heap.size) ∧ k_ ≠ gb4_ ∧ f12_ k_ = 3)) → ((w.heap.size ≤ k_ ∧ k_ < w12_.heap.size) ∧ k_ ≠ gb4_ ∧ fp49_ k_ = 3) := fun k_ hk_ => ⟨by have := HS.out; omega, by have := HS.out; omega, by rw [hfp_]; have := HS.out; repeat' (first | omega | split)⟩
        have hfb1_ : fp49_ gb1_ = 4 := by rw [hfp_]; have := HS.out; repeat' (first | omega | split)
        have hfb2_ : fp49_ gb2_ = 4 := by rw [hfp_]; have := HS.out; repeat' (first | omega | split)
        go_roundg kq11_
        case measure => have := HKL11.out; omega
        case rel => exact ⟨fp49_, Ao12_0, Ao12_1, Ao12_2, Ao12_3, co12_0, co12_1, co12_2, co12_3, t26, t27, t28, t29, t30, t31, t32, HA, ⟨by have := HKL11.out; omega⟩, BK4, ⟨Kd.S_mono HO12_0.out hcp1_⟩, ⟨Kd.S_mono HO12_1.out hcp4_⟩, ⟨Kd.S_mono HO12_2.out hcp5_⟩, ⟨Kd.R_mono HO12_3.out hcp6_⟩, BK1, BK2, ⟨Nat.le_of_eq hfb1_.symm⟩, ⟨Nat.le_of_eq hfb2_.symm⟩, HB, ⟨(by have := HS.out; omega)⟩⟩
       rw [if_neg hc13_] at H
       replace hc13_ := eq_false_of_ne_true hc13_
       subst hc13_
       simp only [Option.some.injEq, Prod.mk.injEq] at H
       obtain ⟨rfl, rfl, rfl, rfl, rfl, rfl, rfl⟩ := H
       have H := HRL11.out
       clear HRL11
       (try dsimp only at H)
       replace H := ob_ H
       obtain ⟨⟨z13_0, z13_1, z13_2, z13_3, z13_4, z13_5, z13_6⟩, AL_, H⟩ := H
       have HRL13 := A_.mk H
       have AL13 := A_.mk AL_
       clear H AL_
       go_wp2
       obtain ⟨fp50_, hfp_⟩ : ∃ f_ : Nat → Nat, ∀ k_, f_ k_ = (if ((w.heap.size ≤ k_ ∧ k_ < w12_.heap.size) ∧ k_ ≠ gb4_ ∧ f12_ k_ = 0) then 0 else (if ((w.heap.size ≤ k_ ∧ k_ < w12_.heap.size) ∧ k_ ≠ gb4_ ∧ f12_ k_ = 1) then 1 else (if ((w.heap.size ≤ k_ ∧ k_ < w12_.heap.size) ∧ k_ ≠ gb4_ ∧ f12_ k_ = 2) then 2 else (if ((w.heap.size ≤ k_ ∧ k_ < w12_.heap.size) ∧ k_ ≠ gb4_ ∧ f12_ k_ = 3) then 3 else 4)))) := ⟨fun k_ => (if ((w.heap.size ≤ k_ ∧ k_ < w12_.heap.size) ∧ k_ ≠ gb4_ ∧ f12_ k_ = 0) then 0 else (if ((w.heap.size ≤ k_ ∧ k_ < w12_.heap.size) ∧ k_ ≠ gb4_ ∧ f12_ k_ = 1) then 1 else (if ((w.heap.size ≤ k_ ∧ k_ < w12_.heap.size) ∧ k_ ≠ gb4_ ∧ f12_ k_ = 2) then 2 else (if ((w.heap.size ≤ k_ ∧ k_ < w12_.heap.size) ∧ k_ ≠ gb4_ ∧ f12_ k_ = 3) then 3 else 4)))), fun _ => rfl⟩
       have hcp1_ : ∀ k_, (((w.heap.size ≤ k_ ∧ k_ < w12_.heap.size) ∧ k_ ≠ gb4_ ∧ f12_ k_ = 0)) → ((w.heap.size ≤ k_ ∧ k_ < w12_.heap.size) ∧ k_ ≠ gb4_ ∧ fp50_ k_ = 0) := fun k_ hk_ => ⟨by have := HS.out; omega, by have := HS.out; omega, by rw [hfp_]; have := HS.out; repeat' (first | omega | split)⟩
       have hcp4_ : ∀ k_, (((w.heap.size ≤ k_ ∧ k_ < w12_.heap.size) ∧ k_ ≠ gb4_ ∧ f12_ k_ = 1)) → ((w.heap.size ≤ k_ ∧ k_ < w12_.heap.size) ∧ k_ ≠ gb4_ ∧ fp50_ k_ = 1) := fun k_ hk_ => ⟨by have := HS.out; omega, by have := HS.out; omega, by rw [hfp_]; have := HS.out; repeat' (first | omega | split)⟩
       have hcp5_ : ∀ k_, (((w.heap.size ≤ k_ ∧ k_ < w12_.heap.size) ∧ k_ ≠ gb4_ ∧ f12_ k_ = 2)) → ((w.heap.size ≤ k_ ∧ k_ < w12_.heap.size) ∧ k_ ≠ gb4_ ∧ fp50_ k_ = 2) := fun k_ hk_ => ⟨by have := HS.out; omega, by have := HS.out; omega, by rw [hfp_]; have := HS.out; repeat' (first | omega | split)⟩
       have hcp6_ : ∀ k_, (((w.heap.size ≤ k_ ∧ k_ < w12_.heap.size) ∧ k_ ≠ gb4_ ∧ f12_ k_ = 3)) → ((w.heap.size ≤ k_ ∧ k_ < w12_.heap.size) ∧ k_ ≠ gb4_ ∧ fp50_ k_ = 3) := fun k_ hk_ => ⟨by have := HS.out; omega, by have := HS.out; omega, by rw [hfp_]; have := HS.out; repeat' (first | omega | split)⟩
       have hfb1_ : fp50_ gb1_ = 4 := by rw [hfp_]; have := HS.out; repeat' (first | omega | split)
       have hfb2_ : fp50_ gb2_ = 4 := by rw [hfp_]; have := HS.out; repeat' (first | omega | split)
       go_loopg [] kq7_ (fun kq  w' => ∃ (fx13_ : Nat → Nat) (Ax13_1 : Option Addr) (Ax13_4 : Option Addr) (Ax13_5 : Option Addr) (Ax13_6 : Option Addr) (cx13_1 : Nat) (cx13_4 : Nat) (cx13_5 : Nat) (cx13_6 : Nat) (x13_0 : Int) (x13_1 : List S66) (x13_2 : Int) (x13_3 : Int) (x13_4 : List (List Int)) (x13_5 : List (List Int)) (x13_6 : List Int), A_ (impl_DrainLink.l13 kq x13_0 x13_1 x13_2 x13_3 x13_4 x13_5 x13_6 = some (z13_0, z13_1, z13_2, z13_3, z13_4, z13_5, z13_6)) ∧ A_ (kq ≤ kq7_) ∧ A_ (w'.heap[gb4_]? = some (.cells #[.int .i64 x13_0, .slice Ax13_1 x13_1.length cx13_1, .int .i64 x13_2, .int .i64 x13_3, .slice Ax13_4 x13_4.length cx13_4, .slice Ax13_5 x13_5.length cx13_5, .slice Ax13_6 x13_6.length cx13_6] 34 (0, 0))) ∧ A_ (Kd.S k66 66 w' w.heap.size (fun k_ => (w.heap.size ≤ k_ ∧ k_ < w'.heap.size) ∧ k_ ≠ gb4_ ∧ fx13_ k_ = 0) (.slice Ax13_1 x13_1.length cx13_1) x13_1) ∧ A_ (Kd.S (Kd.slice 3 (Kd.int .i64)) 32 w' w.heap.size (fun k_ => (w.heap.size ≤ k_ ∧ k_ < w'.heap.size) ∧ k_ ≠ gb4_ ∧ fx13_ k_ = 1) (.slice Ax13_4 x13_4.length cx13_4) x13_4) ∧ A_ (Kd.S (Kd.slice 3 (Kd.int .i64)) 32 w' w.heap.size (fun k_ => (w.heap.size ≤ k_ ∧ k_ < w'.heap.size) ∧ k_ ≠ gb4_ ∧ fx13_ k_ = 2) (.slice Ax13_5 x13_5.length cx13_5) x13_5) ∧ A_ (Kd.R (Kd.int .i64) 3 w' w.heap.size (fun k_ => (w.heap.size ≤ k_ ∧ k_ < w'.heap.size) ∧ k_ ≠ gb4_ ∧ fx13_ k_ = 3) (.slice Ax13_6 x13_6.length cx13_6) x13_6) ∧ A_ (w'.heap[gb1_]? = some (.cells #[.int .i64 a0_0, .slice A0_1 l0_1.length c0_1, .int .i64 a0_2, .int .i64 a0_3, .slice A0_4 l0_4.length c0_4, .slice A0_5 l0_5.length c0_5, .slice A0_6 l0_6.length c0_6] 34 (0, 0))) ∧ A_ (w'.heap[gb2_]? = some (.cells #[.int .i64 0, .slice none 0 0, .int .i64 0, .int .i64 0, .slice none 0 0, .slice none 0 0, .slice none 0 0] 34 (0, 0))) ∧ A_ (4 ≤ fx13_ gb1_) ∧ A_ (4 ≤ fx13_ gb2_) ∧ A_ (Below w.heap.size w w') ∧ A_ (w12_.heap.size ≤ w'.heap.size))
       case atStart => exact ⟨fp50_, Ao12_0, Ao12_1, Ao12_2, Ao12_3, co12_0, co12_1, co12_2, co12_3, t26, t27, t28, t29, t30, t31, t32, AL13, ⟨Nat.le_refl _⟩, BK4, ⟨Kd.S_mono HO12_0.out hcp1_⟩, ⟨Kd.S_mono HO12_1.out hcp4_⟩, ⟨Kd.S_mono HO12_2.out hcp5_⟩, ⟨Kd.R_mono HO12_3.out hcp6_⟩, BK1, BK2, ⟨Nat.le_of_eq hfb1_.symm⟩, ⟨Nat.le_of_eq hfb2_.symm⟩, HB, ⟨Nat.le_refl _⟩⟩
       case round =>
        clear AL13 HB BK1 BK2 BK4 HO12_0 HO12_1 HO12_2 HO12_3 Q1 Q2 Q4 hfp_ hcp1_ hcp4_ hcp5_ hcp6_ hfb1_ hfb2_
        obtain ⟨fx13_, Ax13_1, Ax13_4, Ax13_5, Ax13_6, cx13_1, cx13_4, cx13_5, cx13_6, x13_0, x13_1, x13_2, x13_3, x13_4, x13_5, x13_6, HA, HKL13, BK4, HOx13_1, HOx13_4, HOx13_5, HOx13_6, BK1, BK2, HG1_, HG2_, HB, HSL_⟩ := hrel
        rename World => wq13_
        replace HS := A_.mk (And.intro HS.out HSL_.out)
        clear HSL_
        replace HS := aHs HS HG1_.out
        clear HG1_
        replace HS := aHs HS HG2_.out
        clear HG2_
        cases gk with
        | zero => exact absurd HA.out (by simp [impl_DrainLink.l13])
        | succ kq13_ =>
         have H := HA.out
         clear HA
         simp only [impl_DrainLink.l13] at H
         have Q1 := blk7_ BK1.out
         have Q2 := blk7_ BK2.out
         have Q4 := blk7_ BK4.out
         replace H := oa_ H
         obtain ⟨⟨t33, t34, t35, t36, t37, t38, t39, t40⟩, A14, H⟩ := H
         try dsimp only at H
         replace H := A_.mk H
         go_wp2_with (fail)
         obtain ⟨fp14_, hfp_⟩ : ∃ f_ : Nat → Nat, ∀ k_, f_ k_ = (if ((w.heap.size ≤ k_ ∧ k_ < wq13_.heap.size) ∧ k_ ≠ gb4_ ∧ fx13_ k_ = 0) then 0 else (if ((w.heap.size ≤ k_ ∧ k_ < wq13_.heap.size) ∧ k_ ≠ gb4_ ∧ fx13_ k_ = 1) then 1 else (if ((w.heap.size ≤ k_ ∧ k_ < wq13_.heap.size) ∧ k_ ≠ gb4_ ∧ fx13_ k_ = 2) then 2 else (if ((w.heap.size ≤ k_ ∧ k_ < wq13_.heap.size) ∧ k_ ≠ gb4_ ∧ fx13_ k_ = 3) then 3 else 4)))) := ⟨fun k_ => (if ((w.heap.size ≤ k_ ∧ k_ < wq13_.heap.size) ∧ k_ ≠ gb4_ ∧ fx13_ k_ = 0) then 0 else (if ((w.heap.size ≤ k_ ∧ k_ < wq13_.heap.size) ∧ k_ ≠ gb4_ ∧ fx13_ k_ = 1) then 1 else (if ((w.heap.size ≤ k_ ∧ k_ < wq13_.heap.size) ∧ k_ ≠ gb4_ ∧ fx13_ k_ = 2) then 2 else (if ((w.heap.size ≤ k_ ∧ k_ < wq13_.heap.size) ∧ k_ ≠ gb4_ ∧ fx13_ k_ = 3) then 3 else 4)))), fun _ => rfl⟩
         have hcp1_ : ∀ k_, (((w.heap.size ≤ k_ ∧ k_ < wq13_.heap.size) ∧ k_ ≠ gb4_ ∧ fx13_ k_ = 0)) → ((w.heap.size ≤ k_ ∧ k_ < wq13_.heap.size) ∧ k_ ≠ gb4_ ∧ fp14_ k_ = 0) := fun k_ hk_ => ⟨by have := HS.out; omega, by have := HS.out; omega, by rw [hfp_]; have := HS.out; repeat' (first | omega | split)⟩
         have hcp4_ : ∀ k_, (((w.heap.size ≤ k_ ∧ k_ < wq13_.heap.size) ∧ k_ ≠ gb4_ ∧ fx13_ k_ = 1)) → ((w.heap.size ≤ k_ ∧ k_ < wq13_.heap.size) ∧ k_ ≠ gb4_ ∧ fp14_ k_ = 1) := fun k_ hk_ => ⟨by have := HS.out; omega, by have := HS.out; omega, by rw [hfp_]; have := HS.out; repeat' (first | omega | split)⟩
         have hcp5_ : ∀ k_, (((w.heap.size ≤ k_ ∧ k_ < wq13_.heap.size) ∧ k_ ≠ gb4_ ∧ fx13_ k_ = 2)) → ((w.heap.size ≤ k_ ∧ k_ < wq13_.heap.size) ∧ k_ ≠ gb4_ ∧ fp14_ k_ = 2) := fun k_ hk_ => ⟨by have := HS.out; omega, by have := HS.out; omega, by rw [hfp_]; have := HS.out; repeat' (first | omega | split)⟩
         have hcp6_ : ∀ k_, (((w.heap.size ≤ k_ ∧ k_ < wq13_.heap.size) ∧ k_ ≠ gb4_ ∧ fx13_ k_ = 3)) → ((w.heap.size ≤ k_ ∧ k_ < wq13_.heap.size) ∧ k_ ≠ gb4_ ∧ fp14_ k_ = 3) := fun k_ hk_ => ⟨by have := HS.out; omega, by have := HS.out; omega, by rw [hfp_]; have := HS.out; repeat' (first | omega | split)⟩
         have hfb1_ : fp14_ gb1_ = 4 := by rw [hfp_]; have := HS.out; repeat' (first | omega | split)
         have hfb2_ : fp14_ gb2_ = 4 := by rw [hfp_]; have := HS.out; repeat' (first | omega | split)
         refine (impl_Link_answer.calls kq13_ gb4_ fp14_ x13_0 _ _ x13_1 x13_2 x13_3 _ _ x13_4 _ _ x13_5 _ _ x13_6 t33 t34 t35 t36 t37 t38 t39 t40 w _ HB.out (by have := HS.out; omega) BK4.out (Kd.S_mono HOx13_1.out hcp1_) (Kd.S_mono HOx13_4.out hcp4_) (Kd.S_mono HOx13_5.out hcp5_) (Kd.R_mono HOx13_6.out hcp6_) A14.out).mono ?_
         rintro e w14_ ⟨f14_, v0_, v1_, v2_, v3_, rfl, hbx_, ho1_, ho2_, ho3_, ho4_, hfk_, hbb, hkp⟩
         have hge1_ : 4 ≤ f14_ gb1_ := by have h1_ := hfk_ gb1_ (blk_lt BK1.out); have := hfb1_; have := HS.out; omega
         have hge2_ : 4 ≤ f14_ gb2_ := by have h1_ := hfk_ gb2_ (blk_lt BK2.out); have := hfb2_; have := HS.out; omega
         replace BK1 := A_.mk ((hkp.2 _ (blk_lt BK1.out) (fun _ => by have := hfb1_; have := HS.out; omega)).trans BK1.out)
         replace BK2 := A_.mk ((hkp.2 _ (blk_lt BK2.out) (fun _ => by have := hfb2_; have := HS.out; omega)).trans BK2.out)
         replace BK4 := A_.mk hbx_
         replace HB := A_.mk hbb
         replace HS := aHs HS hkp.1
         replace HS := aHs HS hge1_
         replace HS := aHs HS hge2_
         clear hfk_ hge1_ hge2_
         obtain ⟨Ao14_0, co14_0, ev_⟩ := Kd.S_slice ho1_
         subst ev_
         have HO14_0 := A_.mk ho1_
         obtain ⟨Ao14_1, co14_1, ev_⟩ := Kd.S_slice ho2_
         subst ev_
         have HO14_1 := A_.mk ho2_
         obtain ⟨Ao14_2, co14_2, ev_⟩ := Kd.S_slice ho3_
         subst ev_
         have HO14_2 := A_.mk ho3_
         obtain ⟨Ao14_3, co14_3, ev_⟩ := Kd.R_slice ho4_
         subst ev_
         have HO14_3 := A_.mk ho4_
         clear hkp hbx_ hbb hfp_ hcp1_ hcp4_ hcp5_ hcp6_ ho1_ ho2_ ho3_ ho4_ hfb1_ hfb2_ Q1 Q2 Q4
         have Q1 := blk7_ BK1.out
         have Q2 := blk7_ BK2.out
         have Q4 := blk7_ BK4.out
         replace H := H.out
         by_cases hc14_ : t33 = true
         case pos =>
          rw [if_pos hc14_] at H
          subst hc14_
          have HA := A_.mk H
          clear H
          go_wp2
          obtain ⟨fp51_, hfp_⟩ : ∃ f_ : Nat → Nat, ∀ k_, f_ k_ = (if ((w.heap.size ≤ k_ ∧ k_ < w14_.heap.size) ∧ k_ ≠ gb4_ ∧ f14_ k_ = 0) then 0 else (if ((w.heap.size ≤ k_ ∧ k_ < w14_.heap.size) ∧ k_ ≠ gb4_ ∧ f14_ k_ = 1) then 1 else (if ((w.heap.size ≤ k_ ∧ k_ < w14_.heap.size) ∧ k_ ≠ gb4_ ∧ f14_ k_ = 2) then 2 else (if ((w.heap.size ≤ k_ ∧ k_ < w14_.heap.size) ∧ k_ ≠ gb4_ ∧ f14_ k_ = 3) then 3 else 4)))) := ⟨fun k_ => (if ((w.heap.size ≤ k_ ∧ k_ < w14_.heap.size) ∧ k_ ≠ gb4_ ∧ f14_ k_ = 0) then 0 else (if ((w.heap.size ≤ k_ ∧ k_ < w14_.heap.size) ∧ k_ ≠ gb4_ ∧ f14_ k_ = 1) then 1 else (if ((w.heap.size ≤ k_ ∧ k_ < w14_.heap.size) ∧ k_ ≠ gb4_ ∧ f14_ k_ = 2) then 2 else (if ((w.heap.size ≤ k_ ∧ k_ < w14_.heap.size) ∧ k_ ≠ gb4_ ∧ f14_ k_ = 3) then 3 else 4)))), fun _ => rfl⟩
          have hcp1_ : ∀ k_, (((w.heap.size ≤ k_ ∧ k_ < w14_.heap.size) ∧ k_ ≠ gb4_ ∧ f14_ k_ = 0)) → ((w.heap.size ≤ k_ ∧ k_ < w14_.heap.size) ∧ k_ ≠ gb4_ ∧ fp51_ k_ = 0) := fun k_ hk_ => ⟨by have := HS.out; omega, by have := HS.out; omega, by rw [hfp_]; have := HS.out; repeat' (first | omega | split)⟩
          have hcp4_ : ∀ k_, (((w.heap.size ≤ k_ ∧ k_ < w14_.heap.size) ∧ k_ ≠ gb4_ ∧ f14_ k_ = 1)) → ((w.heap.size ≤ k_ ∧ k_ < w14_.heap.size) ∧ k_ ≠ gb4_ ∧ fp51_ k_ = 1) := fun k_ hk_ => ⟨by have := HS.out; omega, by have := HS.out; omega, by rw [hfp_]; have := HS.out; repeat' (first | omega | split)⟩
          have hcp5_ : ∀ k_, (((w.heap.size ≤ k_ ∧ k_ < w14_.heap.size) ∧ k_ ≠ gb4_ ∧ f14_ k_ = 2)) → ((w.heap.size ≤ k_ ∧ k_ < w14_.heap.size) ∧ k_ ≠ gb4_ ∧ fp51_ k_ = 2) := fun k_ hk_ => ⟨by have := HS.out; omega, by have := HS.out; omega, by rw [hfp_]; have := HS.out; repeat' (first | omega | split)⟩
          have hcp6_ : ∀ k_, (((w.heap.size ≤ k_ ∧ k_ < w14_.heap.size) ∧ k_ ≠ gb4_ ∧ f14_ k_ = 3)) → ((w.heap.size ≤ k_ ∧ k_ < w14_.heap.size) ∧ k_ ≠ gb4_ ∧ fp51_ k_ = 3) := fun k_ hk_ => ⟨by have := HS.out; omega, by have := HS.out; omega, by rw [hfp_]; have := HS.out; repeat' (first | omega | split)⟩
          have hfb1_ : fp51_ gb1_ = 4 := by rw [hfp_]; have := HS.out; repeat' (first | omega | split)
          have hfb2_ : fp51_ gb2_ = 4 := by rw [hfp_]; have := HS.out; repeat' (first | omega | split)
          go_roundg kq13_
          case measure => have := HKL13.out; omega
          case rel => exact ⟨fp51_, Ao14_0, Ao14_1, Ao14_2, Ao14_3, co14_0, co14_1, co14_2, co14_3, t34, t35, t36, t37, t38, t39, t40, HA, ⟨by have := HKL13.out; omega⟩, BK4, ⟨Kd.S_mono HO14_0.out hcp1_⟩, ⟨Kd.S_mono HO14_1.out hcp4_⟩, ⟨Kd.S_mono HO14_2.out hcp5_⟩, ⟨Kd.R_mono HO14_3.out hcp6_⟩, BK1, BK2, ⟨Nat.le_of_eq hfb1_.symm⟩, ⟨Nat.le_of_eq hfb2_.symm⟩, HB, ⟨(by have := HS.out; omega)⟩⟩
         rw [if_neg hc14_] at H
         replace hc14_ := eq_false_of_ne_true hc14_
         subst hc14_
         simp only [Option.some.injEq, Prod.mk.injEq] at H
         obtain ⟨rfl, rfl, rfl, rfl, rfl, rfl, rfl⟩ := H
         have H := HRL13.out
         clear HRL13
         (try dsimp only at H)
         have HA := A_.mk H
         clear H
         go_wp2
         obtain ⟨fp52_, hfp_⟩ : ∃ f_ : Nat → Nat, ∀ k_, f_ k_ = (if ((w.heap.size ≤ k_ ∧ k_ < w14_.heap.size) ∧ k_ ≠ gb4_ ∧ f14_ k_ = 0) then 0 else (if ((w.heap.size ≤ k_ ∧ k_ < w14_.heap.size) ∧ k_ ≠ gb4_ ∧ f14_ k_ = 1) then 1 else (if ((w.heap.size ≤ k_ ∧ k_ < w14_.heap.size) ∧ k_ ≠ gb4_ ∧ f14_ k_ = 2) then 2 else (if ((w.heap.size ≤ k_ ∧ k_ < w14_.heap.size) ∧ k_ ≠ gb4_ ∧ f14_ k_ = 3) then 3 else 4)))) := ⟨fun k_ => (if ((w.heap.size ≤ k_ ∧ k_ < w14_.heap.size) ∧ k_ ≠ gb4_ ∧ f14_ k_ = 0) then 0 else (if ((w.heap.size ≤ k_ ∧ k_ < w14_.heap.size) ∧ k_ ≠ gb4_ ∧ f14_ k_ = 1) then 1 else (if ((w.heap.size ≤ k_ ∧ k_ < w14_.heap.size) ∧ k_ ≠ gb4_ ∧ f14_ k_ = 2) then 2 else (if ((w.heap.size ≤ k_ ∧ k_ < w14_.heap.size) ∧ k_ ≠ gb4_ ∧ f14_ k_ = 3) then 3 else 4)))), fun _ => rfl⟩
         have hcp1_ : ∀ k_, (((w.heap.size ≤ k_ ∧ k_ < w14_.heap.size) ∧ k_ ≠ gb4_ ∧ f14_ k_ = 0)) → ((w.heap.size ≤ k_ ∧ k_ < w14_.heap.size) ∧ k_ ≠ gb4_ ∧ fp52_ k_ = 0) := fun k_ hk_ => ⟨by have := HS.out; omega, by have := HS.out; omega, by rw [hfp_]; have := HS.out; repeat' (first | omega | split)⟩
         have hcp4_ : ∀ k_, (((w.heap.size ≤ k_ ∧ k_ < w14_.heap.size) ∧ k_ ≠ gb4_ ∧ f14_ k_ = 1)) → ((w.heap.size ≤ k_ ∧ k_ < w14_.heap.size) ∧ k_ ≠ gb4_ ∧ fp52_ k_ = 1) := fun k_ hk_ => ⟨by have := HS.out; omega, by have := HS.out; omega, by rw [hfp_]; have := HS.out; repeat' (first | omega | split)⟩
         have hcp5_ : ∀ k_, (((w.heap.size ≤ k_ ∧ k_ < w14_.heap.size) ∧ k_ ≠ gb4_ ∧ f14_ k_ = 2)) → ((w.heap.size ≤ k_ ∧ k_ < w14_.heap.size) ∧ k_ ≠ gb4_ ∧ fp52_ k_ = 2) := fun k_ hk_ => ⟨by have := HS.out; omega, by have := HS.out; omega, by rw [hfp_]; have := HS.out; repeat' (first | omega | split)⟩
         have hcp6_ : ∀ k_, (((w.heap.size ≤ k_ ∧ k_ < w14_.heap.size) ∧ k_ ≠ gb4_ ∧ f14_ k_ = 3)) → ((w.heap.size ≤ k_ ∧ k_ < w14_.heap.size) ∧ k_ ≠ gb4_ ∧ fp52_ k_ = 3) := fun k_ hk_ => ⟨by have := HS.out; omega, by have := HS.out; omega, by rw [hfp_]; have := HS.out; repeat' (first | omega | split)⟩
         have hfb1_ : fp52_ gb1_ = 4 := by rw [hfp_]; have := HS.out; repeat' (first | omega | split)
         have hfb2_ : fp52_ gb2_ = 4 := by rw [hfp_]; have := HS.out; repeat' (first | omega | split)
         go_roundg kq7_
         case measure => have := HKL7.out; omega
         case rel => exact ⟨fp52_, Ao14_0, Ao14_1, Ao14_2, Ao14_3, co14_0, co14_1, co14_2, co14_3, (wrap64 (x7_s10 + 1)), t34, t35, t36, t37, t38, t39, t40, (by first | rfl | (simp; done) | (simp [*]; done)), HA, ⟨by have := HKL7.out; omega⟩, BK4, ⟨Kd.S_mono HO14_0.out hcp1_⟩, ⟨Kd.S_mono HO14_1.out hcp4_⟩, ⟨Kd.S_mono HO14_2.out hcp5_⟩, ⟨Kd.R_mono HO14_3.out hcp6_⟩, BK1, BK2, ⟨Nat.le_of_eq hfb1_.symm⟩, ⟨Nat.le_of_eq hfb2_.symm⟩, HB, ⟨(by have := HS.out; omega)⟩⟩
end Go.Proofs.Ytmdehehgmnihpaa.PFnLinkSteps
