-- Written by a program of this session (wip/xp): not trusted, Lean checks it.
import Derived.Test.YtlombfmebinjbaaPFnExactFreePacketx0
import Derived.Test.YtlombfmebinjbaaPFnExactFreePacketx1
import Derived.Test.YtlombfmebinjbaaPFnExactFreePacketx2
import Derived.Test.YtlombfmebinjbaaPFnExactFreePacketx3
import Derived.Test.YtlombfmebinjbaaPFnExactFreePacketx10
import Derived.Test.YtlombfmebinjbaaPFnExactFreePacketx18
import Derived.Test.YtlombfmebinjbaaPFnExactFreePacketx19
import Derived.Test.YtlombfmebinjbaaPFnExactFreePacketx21
namespace Go.Proofs.Ytlombfmebinjbaa.PFnExactFreePacket
open Go.RowKit Go.Proofs.YtlombfmebinjbaaW.PrintWords Go.Proofs.YtlombfmebinjbaaW.PrintLast Go.Proofs.YtlombfmebinjbaaW.PrintMore
attribute [local go_sem] max2_int min2_int max_two min_two max_three min_three max_four min_four   -- for this text's walks alone
set_option linter.unusedVariables false
set_option linter.unusedSimpArgs false

theorem calls_cast {P : Program} {n : Nat} {a b : Array Value} {w : World} {Q : Ending → World → Prop} (h : a = b) (hc : Calls P n a w Q) : Calls P n b w Q := h ▸ hc
/-! ### laws_FnExactFreePacket: function 4, all its calls in a row -/
def laws_FnExactFreePacket.f (k : Nat) (l0_0 : List Int) (l0_1 : List Int) (l0_2 : List Int) (l0_3 : List Int) (l0_4 : List (S47)) (l0_5 : List (S47)) (a1 : Int) : Option (Bool) := ((laws_szChannel.f k l0_0 l0_1 l0_2 l0_3 l0_4 l0_5 1048576).bind fun t1 => (if t1 < 0 then (some true) else ((laws_toChannel.f k l0_0 l0_1 l0_2 l0_3 l0_4 l0_5).bind fun ⟨t2, t3, t4, t5, t6, t7⟩ => ((spec_FreePacket.f k t2 t3 t4 t5 t6 t7 a1).bind fun ⟨t8, t9, t10, t11, t12, t13, t14, t15, t16, t17, t18, t19, t20, t21, t22⟩ => ((laws_toChannel.f k l0_0 l0_1 l0_2 l0_3 l0_4 l0_5).bind fun ⟨t23, t24, t25, t26, t27, t28⟩ => ((impl_FreePacket.f k t23 t24 t25 t26 t27 t28 a1).bind fun ⟨t29, t30, t31, t32, t33, t34, t35, t36, t37, t38, t39, t40, t41, t42, t43⟩ => ((laws_eqChannel.f k t29 t30 t31 t32 t33 t34 t8 t9 t10 t11 t12 t13).bind fun t44 => (if t44 = true then ((laws_eqPacket.f k t35 t36 t37 t38 t39 t40 t41 t42 t14 t15 t16 t17 t18 t19 t20 t21).bind fun t45 => (if t45 = true then (if t43 = t22 then ((laws_toChannel.f k l0_0 l0_1 l0_2 l0_3 l0_4 l0_5).bind fun ⟨t46, t47, t48, t49, t50, t51⟩ => ((laws_eqChannel.f k t23 t24 t25 t26 t27 t28 t46 t47 t48 t49 t50 t51).bind fun t52 => (if t52 = true then ((laws_markChannel.f k t23 t24 t25 t26 t27 t28 1).bind fun ⟨t53, t54, t55, t56, t57, t58, t59⟩ => (if t53 < 0 then (some false) else ((laws_eqChannel.f k t29 t30 t31 t32 t33 t34 t8 t9 t10 t11 t12 t13).bind fun t60 => (if t60 = true then ((laws_eqPacket.f k t35 t36 t37 t38 t39 t40 t41 t42 t14 t15 t16 t17 t18 t19 t20 t21).bind fun t61 => (if t61 = true then ((laws_markChannel.f k t29 t30 t31 t32 t33 t34 1).bind fun ⟨t62, t63, t64, t65, t66, t67, t68⟩ => ((laws_markPacket.f k t35 t36 t37 t38 t39 t40 t41 t42 t62).bind fun ⟨t69, t70⟩ => ((laws_heldChannel.f k t63 t64 t65 t66 t67 t68 1).bind fun t71 => (if t71 < 0 then (some false) else ((laws_heldPacket.f k t35 t36 t37 t38 t39 t40 t41 t70 t71).bind fun t72 => (if t72 < 0 then (some false) else (if t72 = t69 then ((laws_toChannel.f k l0_0 l0_1 l0_2 l0_3 l0_4 l0_5).bind fun ⟨t73, t74, t75, t76, t77, t78⟩ => ((impl_FreePacket.f k t73 t74 t75 t76 t77 t78 a1).bind fun ⟨t79, t80, t81, t82, t83, t84, t85, t86, t87, t88, t89, t90, t91, t92, t93⟩ => ((laws_eqChannel.f k t79 t80 t81 t82 t83 t84 t8 t9 t10 t11 t12 t13).bind fun t94 => (if t94 = true then ((laws_eqPacket.f k t85 t86 t87 t88 t89 t90 t91 t92 t14 t15 t16 t17 t18 t19 t20 t21).bind fun t95 => (if t95 = true then (if t93 = t22 then ((laws_heldChannel.f k t63 t64 t65 t66 t67 t68 1).bind fun t96 => (if t96 < 0 then (some false) else ((laws_heldPacket.f k t35 t36 t37 t38 t39 t40 t41 t70 t96).bind fun t97 => (if t97 < 0 then (some false) else (if t97 = t69 then (some true) else (some false)))))) else (some false)) else (some false))) else (some false))))) else (some false)))))))) else (some false))) else (some false))))) else (some false)))) else (some false)) else (some false))) else (some false)))))))))
set_option maxHeartbeats 8000000 in
set_option maxRecDepth 100000 in
theorem laws_FnExactFreePacket.calls (k : Nat) (A0_0 : Option Addr) (c0_0 : Nat) (l0_0 : List Int) (A0_1 : Option Addr) (c0_1 : Nat) (l0_1 : List Int) (A0_2 : Option Addr) (c0_2 : Nat) (l0_2 : List Int) (A0_3 : Option Addr) (c0_3 : Nat) (l0_3 : List Int) (A0_4 : Option Addr) (c0_4 : Nat) (l0_4 : List (S47)) (A0_5 : Option Addr) (c0_5 : Nat) (l0_5 : List (S47)) (a1 : Int) (r : Bool) (w : World) (hr0_0 : Kd.C (Kd.int .i64) w A0_0 l0_0.length l0_0) (hc0_0 : l0_0.length ≤ c0_0) (hr0_1 : Kd.C (Kd.int .i64) w A0_1 l0_1.length l0_1) (hc0_1 : l0_1.length ≤ c0_1) (hr0_2 : Kd.C (Kd.int .i64) w A0_2 l0_2.length l0_2) (hc0_2 : l0_2.length ≤ c0_2) (hr0_3 : Kd.C (Kd.int .i64) w A0_3 l0_3.length l0_3) (hc0_3 : l0_3.length ≤ c0_3) (hr0_4 : Kd.C k47 w A0_4 l0_4.length l0_4) (hc0_4 : l0_4.length ≤ c0_4) (hr0_5 : Kd.C k47 w A0_5 l0_5.length l0_5) (hc0_5 : l0_5.length ≤ c0_5) (hrt : A_ (r = true)) (h : laws_FnExactFreePacket.f k l0_0 l0_1 l0_2 l0_3 l0_4 l0_5 a1 = some r) :
  Calls Try.prog 4 #[.agg #[.slice A0_0 l0_0.length c0_0, .slice A0_1 l0_1.length c0_1, .slice A0_2 l0_2.length c0_2, .slice A0_3 l0_3.length c0_3, .slice A0_4 l0_4.length c0_4, .slice A0_5 l0_5.length c0_5], .int .i64 a1] w fun e w' => e = .returned (.bool r) ∧ Below w.heap.size w w' := by
 have HR0_0 := A_.mk hr0_0
 have HC0_0 := A_.mk hc0_0
 clear hr0_0 hc0_0
 have HR0_1 := A_.mk hr0_1
 have HC0_1 := A_.mk hc0_1
 clear hr0_1 hc0_1
 have HR0_2 := A_.mk hr0_2
 have HC0_2 := A_.mk hc0_2
 clear hr0_2 hc0_2
 have HR0_3 := A_.mk hr0_3
 have HC0_3 := A_.mk hc0_3
 clear hr0_3 hc0_3
 have HR0_4 := A_.mk hr0_4
 have HC0_4 := A_.mk hc0_4
 clear hr0_4 hc0_4
 have HR0_5 := A_.mk hr0_5
 have HC0_5 := A_.mk hc0_5
 clear hr0_5 hc0_5
 obtain rfl := hrt.out
 clear hrt
 have HB := A_.mk (Below.refl w.heap.size w)
 unfold laws_FnExactFreePacket.f at h
 have H := h
 clear h
 replace H := ob_ H
 obtain ⟨t1, A2_0, H⟩ := H
 have A2 := A_.mk A2_0
 clear A2_0
 replace H := A_.mk H
 have hu27 := Try.underlying27
 have hu33 := Try.underlying33
 have hu38 := Try.underlying38
 go_enter Try.func4, Try.ntmps4
 have HS := A_.mk (Nat.le_refl w.heap.size)
 go_wp2_with (first | ((with_reducible refine gd_ (N := 2) rfl ?_); refine by_ 2 (cs := #[.slice A0_0 l0_0.length c0_0, .slice A0_1 l0_1.length c0_1, .slice A0_2 l0_2.length c0_2, .slice A0_3 l0_3.length c0_3, .slice A0_4 l0_4.length c0_4, .slice A0_5 l0_5.length c0_5]) (t := 27) ?_; intro gb1_ hg w1_ hbox hb; replace HS := A_.mk (And.intro HS.out (show gb1_ = w.heap.size ∧ gb1_ < w1_.heap.size from ⟨hg, blk_lt hbox⟩)); replace HB := aHB HB hb; have BK1 := A_.mk hbox; clear hbox hb hg; obtain ⟨q1_0, q1_1, q1_2, q1_3, q1_4, q1_5⟩ := blk6_ BK1.out))
 (with_reducible refine (laws_szChannel.calls k _ _ l0_0 _ _ l0_1 _ _ l0_2 _ _ l0_3 _ _ l0_4 _ _ l0_5 1048576 t1 _ (Kd.C_below HR0_0.out HB.out) HC0_0.out (Kd.C_below HR0_1.out HB.out) HC0_1.out (Kd.C_below HR0_2.out HB.out) HC0_2.out (Kd.C_below HR0_3.out HB.out) HC0_3.out (Kd.C_below HR0_4.out HB.out) HC0_4.out (Kd.C_below HR0_5.out HB.out) HC0_5.out A2.out).mono ?_)
 rintro e w2_ ⟨rfl, hb⟩
 replace HS := aHs HS hb.size
 replace BK1 := aBb BK1 hb
 replace HB := aHB HB hb
 clear hb  q1_0 q1_1 q1_2 q1_3 q1_4 q1_5
 obtain ⟨q1_0, q1_1, q1_2, q1_3, q1_4, q1_5⟩ := blk6_ BK1.out
 replace H := H.out
 by_cases hc1_ : t1 < 0
 case pos =>
  rw [if_pos hc1_] at H
  have hc1_b0 : decide (t1 < 0) = true := decide_eq_true hc1_
  clear H
  go_wp2
  go_ret
  exact ⟨rfl, HB.out⟩
 case neg =>
  rw [if_neg hc1_] at H
  have hc1_b0 : decide (t1 < 0) = false := decide_eq_false hc1_
  replace H := ob_ H
  obtain ⟨⟨t2, t3, t4, t5, t6, t7⟩, A3_0, H⟩ := H
  have A3 := A_.mk A3_0
  clear A3_0
  try dsimp only at H
  replace H := ob_ H
  obtain ⟨⟨t8, t9, t10, t11, t12, t13, t14, t15, t16, t17, t18, t19, t20, t21, t22⟩, A4_0, H⟩ := H
  have A4 := A_.mk A4_0
  clear A4_0
  try dsimp only at H
  replace H := ob_ H
  obtain ⟨⟨t23, t24, t25, t26, t27, t28⟩, A9_0, H⟩ := H
  have A9 := A_.mk A9_0
  clear A9_0
  try dsimp only at H
  replace H := ob_ H
  obtain ⟨⟨t29, t30, t31, t32, t33, t34, t35, t36, t37, t38, t39, t40, t41, t42, t43⟩, A12_0, H⟩ := H
  have A12 := A_.mk A12_0
  clear A12_0
  try dsimp only at H
  replace H := ob_ H
  obtain ⟨t44, A17_0, H⟩ := H
  have A17 := A_.mk A17_0
  clear A17_0
  replace H := A_.mk H
  go_wp2_with (first | ((with_reducible refine gc_ (f := 10) rfl ?_); refine gl_ (some 26) Try.func10 #[.agg #[.slice A0_0 l0_0.length c0_0, .slice A0_1 l0_1.length c0_1, .slice A0_2 l0_2.length c0_2, .slice A0_3 l0_3.length c0_3, .slice A0_4 l0_4.length c0_4, .slice A0_5 l0_5.length c0_5]] ?_; (with_reducible refine (laws_toChannel.calls k _ _ l0_0 _ _ l0_1 _ _ l0_2 _ _ l0_3 _ _ l0_4 _ _ l0_5 t2 t3 t4 t5 t6 t7 _ (Kd.C_below HR0_0.out HB.out) HC0_0.out (Kd.C_below HR0_1.out HB.out) HC0_1.out (Kd.C_below HR0_2.out HB.out) HC0_2.out (Kd.C_below HR0_3.out HB.out) HC0_3.out (Kd.C_below HR0_4.out HB.out) HC0_4.out (Kd.C_below HR0_5.out HB.out) HC0_5.out A3.out).mono ?_); rintro e w3_ ⟨f3_, v0_, v1_, v2_, v3_, v4_, v5_, rfl, ho0_, ho1_, ho2_, ho3_, ho4_, ho5_, hb⟩; refine ⟨_, rfl, ?_⟩; replace HS := aHs HS hb.size; obtain ⟨Ao3_0, co3_0, ev_⟩ := Kd.R_slice ho0_; subst ev_; have HO3_0 := aRn ho0_ HB.out.size; obtain ⟨Ao3_1, co3_1, ev_⟩ := Kd.R_slice ho1_; subst ev_; have HO3_1 := aRn ho1_ HB.out.size; obtain ⟨Ao3_2, co3_2, ev_⟩ := Kd.R_slice ho2_; subst ev_; have HO3_2 := aRn ho2_ HB.out.size; obtain ⟨Ao3_3, co3_3, ev_⟩ := Kd.R_slice ho3_; subst ev_; have HO3_3 := aRn ho3_ HB.out.size; obtain ⟨Ao3_4, co3_4, ev_⟩ := Kd.S_slice ho4_; subst ev_; have HO3_4 := aSn ho4_ HB.out.size; obtain ⟨Ao3_5, co3_5, ev_⟩ := Kd.S_slice ho5_; subst ev_; have HO3_5 := aSn ho5_ HB.out.size; replace BK1 := aBb BK1 hb; replace HB := aHB HB hb; clear hb ho0_ ho1_ ho2_ ho3_ ho4_ ho5_ q1_0 q1_1 q1_2 q1_3 q1_4 q1_5; obtain ⟨q1_0, q1_1, q1_2, q1_3, q1_4, q1_5⟩ := blk6_ BK1.out) | ((with_reducible refine gc_ (f := 13) rfl ?_); refine gl_ (some 28) Try.func13 #[.agg #[.slice Ao3_0 t2.length co3_0, .slice Ao3_1 t3.length co3_1, .slice Ao3_2 t4.length co3_2, .slice Ao3_3 t5.length co3_3, .slice Ao3_4 t6.length co3_4, .slice Ao3_5 t7.length co3_5], .int .i64 a1] ?_; (with_reducible refine (spec_FreePacket.calls k _ _ t2 _ _ t3 _ _ t4 _ _ t5 (fun k_ => ((w2_.heap.size ≤ k_ ∧ k_ < w3_.heap.size) ∧ f3_ k_ = 4)) _ _ t6 (fun k_ => ((w2_.heap.size ≤ k_ ∧ k_ < w3_.heap.size) ∧ f3_ k_ = 5)) _ _ t7 a1 t8 t9 t10 t11 t12 t13 t14 t15 t16 t17 t18 t19 t20 t21 t22 _ (Kd.R_reads' HO3_0.out).2.2 (Kd.R_reads' HO3_0.out).2.1 (Kd.R_reads' HO3_1.out).2.2 (Kd.R_reads' HO3_1.out).2.1 (Kd.R_reads' HO3_2.out).2.2 (Kd.R_reads' HO3_2.out).2.1 (Kd.R_reads' HO3_3.out).2.2 (Kd.R_reads' HO3_3.out).2.1 (Kd.S_V HO3_4.out) (Kd.S_V HO3_5.out) A4.out).mono ?_); rintro e w4_ ⟨v0_, v1_, v2_, v3_, v4_, v5_, v6_, rfl, ho0_, ho1_, ho2_, ho3_, ho4_, ho5_, ho6_, hb⟩; refine ⟨_, rfl, ?_⟩; replace HS := aHs HS hb.size; obtain ⟨Ao4_0, co4_0, ev_⟩ := Kd.V_slice ho0_; subst ev_; have HO4_0 := aVm ho0_ HB.out.size; obtain ⟨Ao4_1, co4_1, ev_⟩ := Kd.V_slice ho1_; subst ev_; have HO4_1 := aVm ho1_ HB.out.size; obtain ⟨Ao4_2, co4_2, ev_⟩ := Kd.V_slice ho2_; subst ev_; have HO4_2 := aVm ho2_ HB.out.size; obtain ⟨Ao4_3, co4_3, ev_⟩ := Kd.V_slice ho3_; subst ev_; have HO4_3 := aVm ho3_ HB.out.size; obtain ⟨Ao4_4, co4_4, ev_⟩ := Kd.V_slice ho4_; subst ev_; have HO4_4 := aVm ho4_ HB.out.size; obtain ⟨Ao4_5, co4_5, ev_⟩ := Kd.V_slice ho5_; subst ev_; have HO4_5 := aVm ho5_ HB.out.size; obtain ⟨Ao4_6, co4_6, ev_⟩ := Kd.V_slice ho6_; subst ev_; have HO4_6 := aVm ho6_ HB.out.size; replace HO3_0 := aRb HO3_0 hb; replace HO3_1 := aRb HO3_1 hb; replace HO3_2 := aRb HO3_2 hb; replace HO3_3 := aRb HO3_3 hb; replace HO3_4 := aSb HO3_4 hb; replace HO3_5 := aSb HO3_5 hb; replace BK1 := aBb BK1 hb; replace HB := aHB HB hb; clear hb ho0_ ho1_ ho2_ ho3_ ho4_ ho5_ ho6_ q1_0 q1_1 q1_2 q1_3 q1_4 q1_5; obtain ⟨q1_0, q1_1, q1_2, q1_3, q1_4, q1_5⟩ := blk6_ BK1.out) | ((with_reducible refine gd_ (N := 6) rfl ?_); refine by_ 6 (cs := #[.slice none 0 0, .slice none 0 0, .slice none 0 0, .slice none 0 0, .slice none 0 0, .slice none 0 0]) (t := 33) ?_; intro gb5_ hg w5_ hbox hb; replace HS := A_.mk (And.intro HS.out (show gb5_ = w4_.heap.size ∧ gb5_ < w5_.heap.size from ⟨hg, blk_lt hbox⟩)); replace HO4_0 := aVb HO4_0 hb; replace HO4_1 := aVb HO4_1 hb; replace HO4_2 := aVb HO4_2 hb; replace HO4_3 := aVb HO4_3 hb; replace HO4_4 := aVb HO4_4 hb; replace HO4_5 := aVb HO4_5 hb; replace HO4_6 := aVb HO4_6 hb; replace BK1 := aBb BK1 hb; replace HB := aHB HB hb; have BK5 := A_.mk hbox; clear hbox hb hg q1_0 q1_1 q1_2 q1_3 q1_4 q1_5; obtain ⟨q1_0, q1_1, q1_2, q1_3, q1_4, q1_5⟩ := blk6_ BK1.out; obtain ⟨q5_0, q5_1, q5_2, q5_3, q5_4, q5_5⟩ := blk6_ BK5.out) | ((with_reducible refine gd_ (N := 7) rfl ?_); refine by_ 7 (cs := #[.int .i64 0, .int .i64 0, .int .i64 0, .int .i64 0, .int .i64 0, .int .i64 0, .int .i64 0, .slice none 0 0]) (t := 38) ?_; intro gb6_ hg w6_ hbox hb; replace HS := A_.mk (And.intro HS.out (show gb6_ = w5_.heap.size ∧ gb6_ < w6_.heap.size from ⟨hg, blk_lt hbox⟩)); replace HO4_0 := aVb HO4_0 hb; replace HO4_1 := aVb HO4_1 hb; replace HO4_2 := aVb HO4_2 hb; replace HO4_3 := aVb HO4_3 hb; replace HO4_4 := aVb HO4_4 hb; replace HO4_5 := aVb HO4_5 hb; replace HO4_6 := aVb HO4_6 hb; replace BK1 := aBb BK1 hb; replace BK5 := aBb BK5 hb; replace HB := aHB HB hb; have BK6 := A_.mk hbox; clear hbox hb hg q1_0 q1_1 q1_2 q1_3 q1_4 q1_5 q5_0 q5_1 q5_2 q5_3 q5_4 q5_5; obtain ⟨q1_0, q1_1, q1_2, q1_3, q1_4, q1_5⟩ := blk6_ BK1.out; obtain ⟨q5_0, q5_1, q5_2, q5_3, q5_4, q5_5⟩ := blk6_ BK5.out; obtain ⟨q6_0, q6_1, q6_2, q6_3, q6_4, q6_5, q6_6, q6_7⟩ := blk8_ BK6.out) | ((with_reducible refine gs_ (t := 33) (p := 6) rfl ?_); have qf0 := bf_ BK5.out 0; have qf1 := bf_ BK5.out 1; have qf2 := bf_ BK5.out 2; have qf3 := bf_ BK5.out 3; have qf4 := bf_ BK5.out 4; have qf5 := bf_ BK5.out 5; refine se_ (t := 33) (p := 6) (v := ?vo_7) (w1 := (ch6_ w6_ gb5_ (.slice Ao4_0 t8.length co4_0) (.slice Ao4_1 t9.length co4_1) (.slice Ao4_2 t10.length co4_2) (.slice Ao4_3 t11.length co4_3) (.slice Ao4_4 t12.length co4_4) (.slice Ao4_5 t13.length co4_5))) ?hg ?ho ?hn ?hr ?_; (case ho => rfl); (case hg => rfl); (case hn => rfl); (case hr => first | (go_simp; done) | (go_simp; rfl)); intro w7_ hw; clear qf0 qf1 qf2 qf3 qf4 qf5; obtain ⟨hbx, hkp, hbb⟩ := st6_ hw BK5 HB (by have := HS.out; omega); clear hw; replace HO4_0 := aVk HO4_0 hkp HS; replace HO4_1 := aVk HO4_1 hkp HS; replace HO4_2 := aVk HO4_2 hkp HS; replace HO4_3 := aVk HO4_3 hkp HS; replace HO4_4 := aVk HO4_4 hkp HS; replace HO4_5 := aVk HO4_5 hkp HS; replace HO4_6 := aVk HO4_6 hkp HS; replace BK1 := aBk BK1 hkp HS; replace BK6 := aBk BK6 hkp HS; replace BK5 := A_.mk hbx; replace HB := A_.mk hbb; replace HS := aHs HS hkp.1; clear hkp hbb hbx q1_0 q1_1 q1_2 q1_3 q1_4 q1_5 q5_0 q5_1 q5_2 q5_3 q5_4 q5_5 q6_0 q6_1 q6_2 q6_3 q6_4 q6_5 q6_6 q6_7; obtain ⟨q1_0, q1_1, q1_2, q1_3, q1_4, q1_5⟩ := blk6_ BK1.out; obtain ⟨q5_0, q5_1, q5_2, q5_3, q5_4, q5_5⟩ := blk6_ BK5.out; obtain ⟨q6_0, q6_1, q6_2, q6_3, q6_4, q6_5, q6_6, q6_7⟩ := blk8_ BK6.out) | ((with_reducible refine gs_ (t := 38) (p := 7) rfl ?_); have qf0 := bf_ BK6.out 0; have qf1 := bf_ BK6.out 1; have qf2 := bf_ BK6.out 2; have qf3 := bf_ BK6.out 3; have qf4 := bf_ BK6.out 4; have qf5 := bf_ BK6.out 5; have qf6 := bf_ BK6.out 6; have qf7 := bf_ BK6.out 7; refine se_ (t := 38) (p := 7) (v := ?vo_8) (w1 := (ch8_ w7_ gb6_ (.int .i64 t14) (.int .i64 t15) (.int .i64 t16) (.int .i64 t17) (.int .i64 t18) (.int .i64 t19) (.int .i64 t20) (.slice Ao4_6 t21.length co4_6))) ?hg ?ho ?hn ?hr ?_; (case ho => rfl); (case hg => rfl); (case hn => rfl); (case hr => first | (go_simp; done) | (go_simp; rfl)); intro w8_ hw; clear qf0 qf1 qf2 qf3 qf4 qf5 qf6 qf7; obtain ⟨hbx, hkp, hbb⟩ := st8_ hw BK6 HB (by have := HS.out; omega); clear hw; replace HO4_0 := aVk HO4_0 hkp HS; replace HO4_1 := aVk HO4_1 hkp HS; replace HO4_2 := aVk HO4_2 hkp HS; replace HO4_3 := aVk HO4_3 hkp HS; replace HO4_4 := aVk HO4_4 hkp HS; replace HO4_5 := aVk HO4_5 hkp HS; replace HO4_6 := aVk HO4_6 hkp HS; replace BK1 := aBk BK1 hkp HS; replace BK5 := aBk BK5 hkp HS; replace BK6 := A_.mk hbx; replace HB := A_.mk hbb; replace HS := aHs HS hkp.1; clear hkp hbb hbx q1_0 q1_1 q1_2 q1_3 q1_4 q1_5 q5_0 q5_1 q5_2 q5_3 q5_4 q5_5 q6_0 q6_1 q6_2 q6_3 q6_4 q6_5 q6_6 q6_7; obtain ⟨q1_0, q1_1, q1_2, q1_3, q1_4, q1_5⟩ := blk6_ BK1.out; obtain ⟨q5_0, q5_1, q5_2, q5_3, q5_4, q5_5⟩ := blk6_ BK5.out; obtain ⟨q6_0, q6_1, q6_2, q6_3, q6_4, q6_5, q6_6, q6_7⟩ := blk8_ BK6.out) | ((with_reducible refine gc_ (f := 10) rfl ?_); refine gl_ (some 33) Try.func10 #[.agg #[.slice A0_0 l0_0.length c0_0, .slice A0_1 l0_1.length c0_1, .slice A0_2 l0_2.length c0_2, .slice A0_3 l0_3.length c0_3, .slice A0_4 l0_4.length c0_4, .slice A0_5 l0_5.length c0_5]] ?_; (with_reducible refine (laws_toChannel.calls k _ _ l0_0 _ _ l0_1 _ _ l0_2 _ _ l0_3 _ _ l0_4 _ _ l0_5 t23 t24 t25 t26 t27 t28 _ (Kd.C_below HR0_0.out HB.out) HC0_0.out (Kd.C_below HR0_1.out HB.out) HC0_1.out (Kd.C_below HR0_2.out HB.out) HC0_2.out (Kd.C_below HR0_3.out HB.out) HC0_3.out (Kd.C_below HR0_4.out HB.out) HC0_4.out (Kd.C_below HR0_5.out HB.out) HC0_5.out A9.out).mono ?_); rintro e w9_ ⟨f9_, v0_, v1_, v2_, v3_, v4_, v5_, rfl, ho0_, ho1_, ho2_, ho3_, ho4_, ho5_, hb⟩; refine ⟨_, rfl, ?_⟩; replace HS := aHs HS hb.size; obtain ⟨Ao9_0, co9_0, ev_⟩ := Kd.R_slice ho0_; subst ev_; have HO9_0 := aRn ho0_ HB.out.size; obtain ⟨Ao9_1, co9_1, ev_⟩ := Kd.R_slice ho1_; subst ev_; have HO9_1 := aRn ho1_ HB.out.size; obtain ⟨Ao9_2, co9_2, ev_⟩ := Kd.R_slice ho2_; subst ev_; have HO9_2 := aRn ho2_ HB.out.size; obtain ⟨Ao9_3, co9_3, ev_⟩ := Kd.R_slice ho3_; subst ev_; have HO9_3 := aRn ho3_ HB.out.size; obtain ⟨Ao9_4, co9_4, ev_⟩ := Kd.S_slice ho4_; subst ev_; have HO9_4 := aSn ho4_ HB.out.size; obtain ⟨Ao9_5, co9_5, ev_⟩ := Kd.S_slice ho5_; subst ev_; have HO9_5 := aSn ho5_ HB.out.size; replace HO4_0 := aVb HO4_0 hb; replace HO4_1 := aVb HO4_1 hb; replace HO4_2 := aVb HO4_2 hb; replace HO4_3 := aVb HO4_3 hb; replace HO4_4 := aVb HO4_4 hb; replace HO4_5 := aVb HO4_5 hb; replace HO4_6 := aVb HO4_6 hb; replace BK1 := aBb BK1 hb; replace BK5 := aBb BK5 hb; replace BK6 := aBb BK6 hb; replace HB := aHB HB hb; clear hb ho0_ ho1_ ho2_ ho3_ ho4_ ho5_ q1_0 q1_1 q1_2 q1_3 q1_4 q1_5 q5_0 q5_1 q5_2 q5_3 q5_4 q5_5 q6_0 q6_1 q6_2 q6_3 q6_4 q6_5 q6_6 q6_7; obtain ⟨q1_0, q1_1, q1_2, q1_3, q1_4, q1_5⟩ := blk6_ BK1.out; obtain ⟨q5_0, q5_1, q5_2, q5_3, q5_4, q5_5⟩ := blk6_ BK5.out; obtain ⟨q6_0, q6_1, q6_2, q6_3, q6_4, q6_5, q6_6, q6_7⟩ := blk8_ BK6.out) | ((with_reducible refine gd_ (N := 9) rfl ?_); refine by_ 9 (cs := #[.slice none 0 0, .slice none 0 0, .slice none 0 0, .slice none 0 0, .slice none 0 0, .slice none 0 0]) (t := 33) ?_; intro gb10_ hg w10_ hbox hb; replace HS := A_.mk (And.intro HS.out (show gb10_ = w9_.heap.size ∧ gb10_ < w10_.heap.size from ⟨hg, blk_lt hbox⟩)); replace HO4_0 := aVb HO4_0 hb; replace HO4_1 := aVb HO4_1 hb; replace HO4_2 := aVb HO4_2 hb; replace HO4_3 := aVb HO4_3 hb; replace HO4_4 := aVb HO4_4 hb; replace HO4_5 := aVb HO4_5 hb; replace HO4_6 := aVb HO4_6 hb; replace HO9_0 := aRb HO9_0 hb; replace HO9_1 := aRb HO9_1 hb; replace HO9_2 := aRb HO9_2 hb; replace HO9_3 := aRb HO9_3 hb; replace HO9_4 := aSb HO9_4 hb; replace HO9_5 := aSb HO9_5 hb; replace BK1 := aBb BK1 hb; replace BK5 := aBb BK5 hb; replace BK6 := aBb BK6 hb; replace HB := aHB HB hb; have BK10 := A_.mk hbox; clear hbox hb hg q1_0 q1_1 q1_2 q1_3 q1_4 q1_5 q5_0 q5_1 q5_2 q5_3 q5_4 q5_5 q6_0 q6_1 q6_2 q6_3 q6_4 q6_5 q6_6 q6_7; obtain ⟨q1_0, q1_1, q1_2, q1_3, q1_4, q1_5⟩ := blk6_ BK1.out; obtain ⟨q5_0, q5_1, q5_2, q5_3, q5_4, q5_5⟩ := blk6_ BK5.out; obtain ⟨q6_0, q6_1, q6_2, q6_3, q6_4, q6_5, q6_6, q6_7⟩ := blk8_ BK6.out; obtain ⟨q10_0, q10_1, q10_2, q10_3, q10_4, q10_5⟩ := blk6_ BK10.out) | ((with_reducible refine gs_ (t := 33) (p := 9) rfl ?_); have qf0 := bf_ BK10.out 0; have qf1 := bf_ BK10.out 1; have qf2 := bf_ BK10.out 2; have qf3 := bf_ BK10.out 3; have qf4 := bf_ BK10.out 4; have qf5 := bf_ BK10.out 5; refine se_ (t := 33) (p := 9) (v := ?vo_11) (w1 := (ch6_ w10_ gb10_ (.slice Ao9_0 t23.length co9_0) (.slice Ao9_1 t24.length co9_1) (.slice Ao9_2 t25.length co9_2) (.slice Ao9_3 t26.length co9_3) (.slice Ao9_4 t27.length co9_4) (.slice Ao9_5 t28.length co9_5))) ?hg ?ho ?hn ?hr ?_; (case ho => rfl); (case hg => rfl); (case hn => rfl); (case hr => first | (go_simp; done) | (go_simp; rfl)); intro w11_ hw; clear qf0 qf1 qf2 qf3 qf4 qf5; obtain ⟨hbx, hkp, hbb⟩ := st6_ hw BK10 HB (by have := HS.out; omega); clear hw; replace HO4_0 := aVk HO4_0 hkp HS; replace HO4_1 := aVk HO4_1 hkp HS; replace HO4_2 := aVk HO4_2 hkp HS; replace HO4_3 := aVk HO4_3 hkp HS; replace HO4_4 := aVk HO4_4 hkp HS; replace HO4_5 := aVk HO4_5 hkp HS; replace HO4_6 := aVk HO4_6 hkp HS; replace HO9_0 := aRk HO9_0 hkp HS; replace HO9_1 := aRk HO9_1 hkp HS; replace HO9_2 := aRk HO9_2 hkp HS; replace HO9_3 := aRk HO9_3 hkp HS; replace HO9_4 := aSk HO9_4 hkp HS; replace HO9_5 := aSk HO9_5 hkp HS; replace BK1 := aBk BK1 hkp HS; replace BK5 := aBk BK5 hkp HS; replace BK6 := aBk BK6 hkp HS; replace BK10 := A_.mk hbx; replace HB := A_.mk hbb; replace HS := aHs HS hkp.1; clear hkp hbb hbx q1_0 q1_1 q1_2 q1_3 q1_4 q1_5 q5_0 q5_1 q5_2 q5_3 q5_4 q5_5 q6_0 q6_1 q6_2 q6_3 q6_4 q6_5 q6_6 q6_7 q10_0 q10_1 q10_2 q10_3 q10_4 q10_5; obtain ⟨q1_0, q1_1, q1_2, q1_3, q1_4, q1_5⟩ := blk6_ BK1.out; obtain ⟨q5_0, q5_1, q5_2, q5_3, q5_4, q5_5⟩ := blk6_ BK5.out; obtain ⟨q6_0, q6_1, q6_2, q6_3, q6_4, q6_5, q6_6, q6_7⟩ := blk8_ BK6.out; obtain ⟨q10_0, q10_1, q10_2, q10_3, q10_4, q10_5⟩ := blk6_ BK10.out) | ((with_reducible refine gc_ (f := 14) rfl ?_); refine gl_ (some 37) Try.func14 #[.agg #[.slice Ao9_0 t23.length co9_0, .slice Ao9_1 t24.length co9_1, .slice Ao9_2 t25.length co9_2, .slice Ao9_3 t26.length co9_3, .slice Ao9_4 t27.length co9_4, .slice Ao9_5 t28.length co9_5], .int .i64 a1] ?_; (with_reducible refine (impl_FreePacket.calls k _ _ t23 _ _ t24 _ _ t25 _ _ t26 (fun k_ => ((w8_.heap.size ≤ k_ ∧ k_ < w9_.heap.size) ∧ f9_ k_ = 4)) _ _ t27 (fun k_ => ((w8_.heap.size ≤ k_ ∧ k_ < w9_.heap.size) ∧ f9_ k_ = 5)) _ _ t28 a1 t29 t30 t31 t32 t33 t34 t35 t36 t37 t38 t39 t40 t41 t42 t43 _ (Kd.R_reads' HO9_0.out).2.2 (Kd.R_reads' HO9_0.out).2.1 (Kd.R_reads' HO9_1.out).2.2 (Kd.R_reads' HO9_1.out).2.1 (Kd.R_reads' HO9_2.out).2.2 (Kd.R_reads' HO9_2.out).2.1 (Kd.R_reads' HO9_3.out).2.2 (Kd.R_reads' HO9_3.out).2.1 (Kd.S_V HO9_4.out) (Kd.S_V HO9_5.out) A12.out).mono ?_); rintro e w12_ ⟨f12_, v0_, v1_, v2_, v3_, v4_, v5_, v6_, rfl, ho0_, ho1_, ho2_, ho3_, ho4_, ho5_, ho6_, hb⟩; refine ⟨_, rfl, ?_⟩; replace HS := aHs HS hb.size; obtain ⟨Ao12_0, co12_0, ev_⟩ := Kd.R_slice ho0_; subst ev_; have HO12_0 := aRn ho0_ HB.out.size; obtain ⟨Ao12_1, co12_1, ev_⟩ := Kd.R_slice ho1_; subst ev_; have HO12_1 := aRn ho1_ HB.out.size; obtain ⟨Ao12_2, co12_2, ev_⟩ := Kd.R_slice ho2_; subst ev_; have HO12_2 := aRn ho2_ HB.out.size; obtain ⟨Ao12_3, co12_3, ev_⟩ := Kd.R_slice ho3_; subst ev_; have HO12_3 := aRn ho3_ HB.out.size; obtain ⟨Ao12_4, co12_4, ev_⟩ := Kd.S_slice ho4_; subst ev_; have HO12_4 := aSn ho4_ HB.out.size; obtain ⟨Ao12_5, co12_5, ev_⟩ := Kd.S_slice ho5_; subst ev_; have HO12_5 := aSn ho5_ HB.out.size; obtain ⟨Ao12_6, co12_6, ev_⟩ := Kd.R_slice ho6_; subst ev_; have HO12_6 := aRn ho6_ HB.out.size; replace HO4_0 := aVb HO4_0 hb; replace HO4_1 := aVb HO4_1 hb; replace HO4_2 := aVb HO4_2 hb; replace HO4_3 := aVb HO4_3 hb; replace HO4_4 := aVb HO4_4 hb; replace HO4_5 := aVb HO4_5 hb; replace HO4_6 := aVb HO4_6 hb; replace HO9_0 := aRb HO9_0 hb; replace HO9_1 := aRb HO9_1 hb; replace HO9_2 := aRb HO9_2 hb; replace HO9_3 := aRb HO9_3 hb; replace HO9_4 := aSb HO9_4 hb; replace HO9_5 := aSb HO9_5 hb; replace BK1 := aBb BK1 hb; replace BK5 := aBb BK5 hb; replace BK6 := aBb BK6 hb; replace BK10 := aBb BK10 hb; replace HB := aHB HB hb; clear hb ho0_ ho1_ ho2_ ho3_ ho4_ ho5_ ho6_ q1_0 q1_1 q1_2 q1_3 q1_4 q1_5 q5_0 q5_1 q5_2 q5_3 q5_4 q5_5 q6_0 q6_1 q6_2 q6_3 q6_4 q6_5 q6_6 q6_7 q10_0 q10_1 q10_2 q10_3 q10_4 q10_5; obtain ⟨q1_0, q1_1, q1_2, q1_3, q1_4, q1_5⟩ := blk6_ BK1.out; obtain ⟨q5_0, q5_1, q5_2, q5_3, q5_4, q5_5⟩ := blk6_ BK5.out; obtain ⟨q6_0, q6_1, q6_2, q6_3, q6_4, q6_5, q6_6, q6_7⟩ := blk8_ BK6.out; obtain ⟨q10_0, q10_1, q10_2, q10_3, q10_4, q10_5⟩ := blk6_ BK10.out) | ((with_reducible refine gd_ (N := 10) rfl ?_); refine by_ 10 (cs := #[.slice none 0 0, .slice none 0 0, .slice none 0 0, .slice none 0 0, .slice none 0 0, .slice none 0 0]) (t := 33) ?_; intro gb13_ hg w13_ hbox hb; replace HS := A_.mk (And.intro HS.out (show gb13_ = w12_.heap.size ∧ gb13_ < w13_.heap.size from ⟨hg, blk_lt hbox⟩)); replace HO4_0 := aVb HO4_0 hb; replace HO4_1 := aVb HO4_1 hb; replace HO4_2 := aVb HO4_2 hb; replace HO4_3 := aVb HO4_3 hb; replace HO4_4 := aVb HO4_4 hb; replace HO4_5 := aVb HO4_5 hb; replace HO4_6 := aVb HO4_6 hb; replace HO9_0 := aRb HO9_0 hb; replace HO9_1 := aRb HO9_1 hb; replace HO9_2 := aRb HO9_2 hb; replace HO9_3 := aRb HO9_3 hb; replace HO9_4 := aSb HO9_4 hb; replace HO9_5 := aSb HO9_5 hb; replace HO12_0 := aRb HO12_0 hb; replace HO12_1 := aRb HO12_1 hb; replace HO12_2 := aRb HO12_2 hb; replace HO12_3 := aRb HO12_3 hb; replace HO12_4 := aSb HO12_4 hb; replace HO12_5 := aSb HO12_5 hb; replace HO12_6 := aRb HO12_6 hb; replace BK1 := aBb BK1 hb; replace BK5 := aBb BK5 hb; replace BK6 := aBb BK6 hb; replace BK10 := aBb BK10 hb; replace HB := aHB HB hb; have BK13 := A_.mk hbox; clear hbox hb hg q1_0 q1_1 q1_2 q1_3 q1_4 q1_5 q5_0 q5_1 q5_2 q5_3 q5_4 q5_5 q6_0 q6_1 q6_2 q6_3 q6_4 q6_5 q6_6 q6_7 q10_0 q10_1 q10_2 q10_3 q10_4 q10_5; obtain ⟨q1_0, q1_1, q1_2, q1_3, q1_4, q1_5⟩ := blk6_ BK1.out; obtain ⟨q5_0, q5_1, q5_2, q5_3, q5_4, q5_5⟩ := blk6_ BK5.out; obtain ⟨q6_0, q6_1, q6_2, q6_3, q6_4, q6_5, q6_6, q6_7⟩ := blk8_ BK6.out; obtain ⟨q10_0, q10_1, q10_2, q10_3, q10_4, q10_5⟩ := blk6_ BK10.out; obtain ⟨q13_0, q13_1, q13_2, q13_3, q13_4, q13_5⟩ := blk6_ BK13.out) | ((with_reducible refine gd_ (N := 11) rfl ?_); refine by_ 11 (cs := #[.int .i64 0, .int .i64 0, .int .i64 0, .int .i64 0, .int .i64 0, .int .i64 0, .int .i64 0, .slice none 0 0]) (t := 38) ?_; intro gb14_ hg w14_ hbox hb; replace HS := A_.mk (And.intro HS.out (show gb14_ = w13_.heap.size ∧ gb14_ < w14_.heap.size from ⟨hg, blk_lt hbox⟩)); replace HO4_0 := aVb HO4_0 hb; replace HO4_1 := aVb HO4_1 hb; replace HO4_2 := aVb HO4_2 hb; replace HO4_3 := aVb HO4_3 hb; replace HO4_4 := aVb HO4_4 hb; replace HO4_5 := aVb HO4_5 hb; replace HO4_6 := aVb HO4_6 hb; replace HO9_0 := aRb HO9_0 hb; replace HO9_1 := aRb HO9_1 hb; replace HO9_2 := aRb HO9_2 hb; replace HO9_3 := aRb HO9_3 hb; replace HO9_4 := aSb HO9_4 hb; replace HO9_5 := aSb HO9_5 hb; replace HO12_0 := aRb HO12_0 hb; replace HO12_1 := aRb HO12_1 hb; replace HO12_2 := aRb HO12_2 hb; replace HO12_3 := aRb HO12_3 hb; replace HO12_4 := aSb HO12_4 hb; replace HO12_5 := aSb HO12_5 hb; replace HO12_6 := aRb HO12_6 hb; replace BK1 := aBb BK1 hb; replace BK5 := aBb BK5 hb; replace BK6 := aBb BK6 hb; replace BK10 := aBb BK10 hb; replace BK13 := aBb BK13 hb; replace HB := aHB HB hb; have BK14 := A_.mk hbox; clear hbox hb hg q1_0 q1_1 q1_2 q1_3 q1_4 q1_5 q5_0 q5_1 q5_2 q5_3 q5_4 q5_5 q6_0 q6_1 q6_2 q6_3 q6_4 q6_5 q6_6 q6_7 q10_0 q10_1 q10_2 q10_3 q10_4 q10_5 q13_0 q13_1 q13_2 q13_3 q13_4 q13_5; obtain ⟨q1_0, q1_1, q1_2, q1_3, q1_4, q1_5⟩ := blk6_ BK1.out; obtain ⟨q5_0, q5_1, q5_2, q5_3, q5_4, q5_5⟩ := blk6_ BK5.out; obtain ⟨q6_0, q6_1, q6_2, q6_3, q6_4, q6_5, q6_6, q6_7⟩ := blk8_ BK6.out; obtain ⟨q10_0, q10_1, q10_2, q10_3, q10_4, q10_5⟩ := blk6_ BK10.out; obtain ⟨q13_0, q13_1, q13_2, q13_3, q13_4, q13_5⟩ := blk6_ BK13.out; obtain ⟨q14_0, q14_1, q14_2, q14_3, q14_4, q14_5, q14_6, q14_7⟩ := blk8_ BK14.out) | ((with_reducible refine gs_ (t := 33) (p := 10) rfl ?_); have qf0 := bf_ BK13.out 0; have qf1 := bf_ BK13.out 1; have qf2 := bf_ BK13.out 2; have qf3 := bf_ BK13.out 3; have qf4 := bf_ BK13.out 4; have qf5 := bf_ BK13.out 5; refine se_ (t := 33) (p := 10) (v := ?vo_15) (w1 := (ch6_ w14_ gb13_ (.slice Ao12_0 t29.length co12_0) (.slice Ao12_1 t30.length co12_1) (.slice Ao12_2 t31.length co12_2) (.slice Ao12_3 t32.length co12_3) (.slice Ao12_4 t33.length co12_4) (.slice Ao12_5 t34.length co12_5))) ?hg ?ho ?hn ?hr ?_; (case ho => rfl); (case hg => rfl); (case hn => rfl); (case hr => first | (go_simp; done) | (go_simp; rfl)); intro w15_ hw; clear qf0 qf1 qf2 qf3 qf4 qf5; obtain ⟨hbx, hkp, hbb⟩ := st6_ hw BK13 HB (by have := HS.out; omega); clear hw; replace HO4_0 := aVk HO4_0 hkp HS; replace HO4_1 := aVk HO4_1 hkp HS; replace HO4_2 := aVk HO4_2 hkp HS; replace HO4_3 := aVk HO4_3 hkp HS; replace HO4_4 := aVk HO4_4 hkp HS; replace HO4_5 := aVk HO4_5 hkp HS; replace HO4_6 := aVk HO4_6 hkp HS; replace HO9_0 := aRk HO9_0 hkp HS; replace HO9_1 := aRk HO9_1 hkp HS; replace HO9_2 := aRk HO9_2 hkp HS; replace HO9_3 := aRk HO9_3 hkp HS; replace HO9_4 := aSk HO9_4 hkp HS; replace HO9_5 := aSk HO9_5 hkp HS; replace HO12_0 := aRk HO12_0 hkp HS; replace HO12_1 := aRk HO12_1 hkp HS; replace HO12_2 := aRk HO12_2 hkp HS; replace HO12_3 := aRk HO12_3 hkp HS; replace HO12_4 := aSk HO12_4 hkp HS; replace HO12_5 := aSk HO12_5 hkp HS; replace HO12_6 := aRk HO12_6 hkp HS; replace BK1 := aBk BK1 hkp HS; replace BK5 := aBk BK5 hkp HS; replace BK6 := aBk BK6 hkp HS; replace BK10 := aBk BK10 hkp HS; replace BK14 := aBk BK14 hkp HS; replace BK13 := A_.mk hbx; replace HB := A_.mk hbb; replace HS := aHs HS hkp.1; clear hkp hbb hbx q1_0 q1_1 q1_2 q1_3 q1_4 q1_5 q5_0 q5_1 q5_2 q5_3 q5_4 q5_5 q6_0 q6_1 q6_2 q6_3 q6_4 q6_5 q6_6 q6_7 q10_0 q10_1 q10_2 q10_3 q10_4 q10_5 q13_0 q13_1 q13_2 q13_3 q13_4 q13_5 q14_0 q14_1 q14_2 q14_3 q14_4 q14_5 q14_6 q14_7; obtain ⟨q1_0, q1_1, q1_2, q1_3, q1_4, q1_5⟩ := blk6_ BK1.out; obtain ⟨q5_0, q5_1, q5_2, q5_3, q5_4, q5_5⟩ := blk6_ BK5.out; obtain ⟨q6_0, q6_1, q6_2, q6_3, q6_4, q6_5, q6_6, q6_7⟩ := blk8_ BK6.out; obtain ⟨q10_0, q10_1, q10_2, q10_3, q10_4, q10_5⟩ := blk6_ BK10.out; obtain ⟨q13_0, q13_1, q13_2, q13_3, q13_4, q13_5⟩ := blk6_ BK13.out; obtain ⟨q14_0, q14_1, q14_2, q14_3, q14_4, q14_5, q14_6, q14_7⟩ := blk8_ BK14.out) | ((with_reducible refine gs_ (t := 38) (p := 11) rfl ?_); have qf0 := bf_ BK14.out 0; have qf1 := bf_ BK14.out 1; have qf2 := bf_ BK14.out 2; have qf3 := bf_ BK14.out 3; have qf4 := bf_ BK14.out 4; have qf5 := bf_ BK14.out 5; have qf6 := bf_ BK14.out 6; have qf7 := bf_ BK14.out 7; refine se_ (t := 38) (p := 11) (v := ?vo_16) (w1 := (ch8_ w15_ gb14_ (.int .i64 t35) (.int .i64 t36) (.int .i64 t37) (.int .i64 t38) (.int .i64 t39) (.int .i64 t40) (.int .i64 t41) (.slice Ao12_6 t42.length co12_6))) ?hg ?ho ?hn ?hr ?_; (case ho => rfl); (case hg => rfl); (case hn => rfl); (case hr => first | (go_simp; done) | (go_simp; rfl)); intro w16_ hw; clear qf0 qf1 qf2 qf3 qf4 qf5 qf6 qf7; obtain ⟨hbx, hkp, hbb⟩ := st8_ hw BK14 HB (by have := HS.out; omega); clear hw; replace HO4_0 := aVk HO4_0 hkp HS; replace HO4_1 := aVk HO4_1 hkp HS; replace HO4_2 := aVk HO4_2 hkp HS; replace HO4_3 := aVk HO4_3 hkp HS; replace HO4_4 := aVk HO4_4 hkp HS; replace HO4_5 := aVk HO4_5 hkp HS; replace HO4_6 := aVk HO4_6 hkp HS; replace HO9_0 := aRk HO9_0 hkp HS; replace HO9_1 := aRk HO9_1 hkp HS; replace HO9_2 := aRk HO9_2 hkp HS; replace HO9_3 := aRk HO9_3 hkp HS; replace HO9_4 := aSk HO9_4 hkp HS; replace HO9_5 := aSk HO9_5 hkp HS; replace HO12_0 := aRk HO12_0 hkp HS; replace HO12_1 := aRk HO12_1 hkp HS; replace HO12_2 := aRk HO12_2 hkp HS; replace HO12_3 := aRk HO12_3 hkp HS; replace HO12_4 := aSk HO12_4 hkp HS; replace HO12_5 := aSk HO12_5 hkp HS; replace HO12_6 := aRk HO12_6 hkp HS; replace BK1 := aBk BK1 hkp HS; replace BK5 := aBk BK5 hkp HS; replace BK6 := aBk BK6 hkp HS; replace BK10 := aBk BK10 hkp HS; replace BK13 := aBk BK13 hkp HS; replace BK14 := A_.mk hbx; replace HB := A_.mk hbb; replace HS := aHs HS hkp.1; clear hkp hbb hbx q1_0 q1_1 q1_2 q1_3 q1_4 q1_5 q5_0 q5_1 q5_2 q5_3 q5_4 q5_5 q6_0 q6_1 q6_2 q6_3 q6_4 q6_5 q6_6 q6_7 q10_0 q10_1 q10_2 q10_3 q10_4 q10_5 q13_0 q13_1 q13_2 q13_3 q13_4 q13_5 q14_0 q14_1 q14_2 q14_3 q14_4 q14_5 q14_6 q14_7; obtain ⟨q1_0, q1_1, q1_2, q1_3, q1_4, q1_5⟩ := blk6_ BK1.out; obtain ⟨q5_0, q5_1, q5_2, q5_3, q5_4, q5_5⟩ := blk6_ BK5.out; obtain ⟨q6_0, q6_1, q6_2, q6_3, q6_4, q6_5, q6_6, q6_7⟩ := blk8_ BK6.out; obtain ⟨q10_0, q10_1, q10_2, q10_3, q10_4, q10_5⟩ := blk6_ BK10.out; obtain ⟨q13_0, q13_1, q13_2, q13_3, q13_4, q13_5⟩ := blk6_ BK13.out; obtain ⟨q14_0, q14_1, q14_2, q14_3, q14_4, q14_5, q14_6, q14_7⟩ := blk8_ BK14.out))
  (with_reducible refine (laws_eqChannel.calls k _ _ t29 _ _ t30 _ _ t31 _ _ t32 _ _ t33 _ _ t34 _ _ t8 _ _ t9 _ _ t10 _ _ t11 _ _ t12 _ _ t13 t44 _ (Kd.R_reads' HO12_0.out).2.2 (Kd.R_reads' HO12_0.out).2.1 (Kd.R_reads' HO12_1.out).2.2 (Kd.R_reads' HO12_1.out).2.1 (Kd.R_reads' HO12_2.out).2.2 (Kd.R_reads' HO12_2.out).2.1 (Kd.R_reads' HO12_3.out).2.2 (Kd.R_reads' HO12_3.out).2.1 (Kd.S_reads' HO12_4.out).2.2 (Kd.S_reads' HO12_4.out).2.1 (Kd.S_reads' HO12_5.out).2.2 (Kd.S_reads' HO12_5.out).2.1 (Kd.V_reads' HO4_0.out).2.2 (Kd.V_reads' HO4_0.out).2.1 (Kd.V_reads' HO4_1.out).2.2 (Kd.V_reads' HO4_1.out).2.1 (Kd.V_reads' HO4_2.out).2.2 (Kd.V_reads' HO4_2.out).2.1 (Kd.V_reads' HO4_3.out).2.2 (Kd.V_reads' HO4_3.out).2.1 (Kd.V_reads' HO4_4.out).2.2 (Kd.V_reads' HO4_4.out).2.1 (Kd.V_reads' HO4_5.out).2.2 (Kd.V_reads' HO4_5.out).2.1 A17.out).mono ?_)
  rintro e w17_ ⟨rfl, hb⟩
  replace HS := aHs HS hb.size
  replace HO4_0 := aVb HO4_0 hb
  replace HO4_1 := aVb HO4_1 hb
  replace HO4_2 := aVb HO4_2 hb
  replace HO4_3 := aVb HO4_3 hb
  replace HO4_4 := aVb HO4_4 hb
  replace HO4_5 := aVb HO4_5 hb
  replace HO4_6 := aVb HO4_6 hb
  replace HO9_0 := aRb HO9_0 hb
  replace HO9_1 := aRb HO9_1 hb
  replace HO9_2 := aRb HO9_2 hb
  replace HO9_3 := aRb HO9_3 hb
  replace HO9_4 := aSb HO9_4 hb
  replace HO9_5 := aSb HO9_5 hb
  replace HO12_0 := aRb HO12_0 hb
  replace HO12_1 := aRb HO12_1 hb
  replace HO12_2 := aRb HO12_2 hb
  replace HO12_3 := aRb HO12_3 hb
  replace HO12_4 := aSb HO12_4 hb
  replace HO12_5 := aSb HO12_5 hb
  replace HO12_6 := aRb HO12_6 hb
  replace BK1 := aBb BK1 hb
  replace BK5 := aBb BK5 hb
  replace BK6 := aBb BK6 hb
  replace BK10 := aBb BK10 hb
  replace BK13 := aBb BK13 hb
  replace BK14 := aBb BK14 hb
  replace HB := aHB HB hb
  clear hb  q1_0 q1_1 q1_2 q1_3 q1_4 q1_5 q5_0 q5_1 q5_2 q5_3 q5_4 q5_5 q6_0 q6_1 q6_2 q6_3 q6_4 q6_5 q6_6 q6_7 q10_0 q10_1 q10_2 q10_3 q10_4 q10_5 q13_0 q13_1 q13_2 q13_3 q13_4 q13_5 q14_0 q14_1 q14_2 q14_3 q14_4 q14_5 q14_6 q14_7
  obtain ⟨q1_0, q1_1, q1_2, q1_3, q1_4, q1_5⟩ := blk6_ BK1.out
  obtain ⟨q5_0, q5_1, q5_2, q5_3, q5_4, q5_5⟩ := blk6_ BK5.out
  obtain ⟨q6_0, q6_1, q6_2, q6_3, q6_4, q6_5, q6_6, q6_7⟩ := blk8_ BK6.out
  obtain ⟨q10_0, q10_1, q10_2, q10_3, q10_4, q10_5⟩ := blk6_ BK10.out
  obtain ⟨q13_0, q13_1, q13_2, q13_3, q13_4, q13_5⟩ := blk6_ BK13.out
  obtain ⟨q14_0, q14_1, q14_2, q14_3, q14_4, q14_5, q14_6, q14_7⟩ := blk8_ BK14.out
  replace H := H.out
  by_cases hc2_ : t44 = true
  case pos =>
   rw [if_pos hc2_] at H
   subst hc2_
   replace H := ob_ H
   obtain ⟨t45, A18_0, H⟩ := H
   have A18 := A_.mk A18_0
   clear A18_0
   replace H := A_.mk H
   go_wp2_with (fail)
   (with_reducible refine (laws_eqPacket.calls k t35 t36 t37 t38 t39 t40 t41 _ _ t42 t14 t15 t16 t17 t18 t19 t20 _ _ t21 t45 _ (Kd.R_reads' HO12_6.out).2.2 (Kd.R_reads' HO12_6.out).2.1 (Kd.V_reads' HO4_6.out).2.2 (Kd.V_reads' HO4_6.out).2.1 A18.out).mono ?_)
   rintro e w18_ ⟨rfl, hb⟩
   replace HS := aHs HS hb.size
   replace HO4_0 := aVb HO4_0 hb
   replace HO4_1 := aVb HO4_1 hb
   replace HO4_2 := aVb HO4_2 hb
   replace HO4_3 := aVb HO4_3 hb
   replace HO4_4 := aVb HO4_4 hb
   replace HO4_5 := aVb HO4_5 hb
   replace HO4_6 := aVb HO4_6 hb
   replace HO9_0 := aRb HO9_0 hb
   replace HO9_1 := aRb HO9_1 hb
   replace HO9_2 := aRb HO9_2 hb
   replace HO9_3 := aRb HO9_3 hb
   replace HO9_4 := aSb HO9_4 hb
   replace HO9_5 := aSb HO9_5 hb
   replace HO12_0 := aRb HO12_0 hb
   replace HO12_1 := aRb HO12_1 hb
   replace HO12_2 := aRb HO12_2 hb
   replace HO12_3 := aRb HO12_3 hb
   replace HO12_4 := aSb HO12_4 hb
   replace HO12_5 := aSb HO12_5 hb
   replace HO12_6 := aRb HO12_6 hb
   replace BK1 := aBb BK1 hb
   replace BK5 := aBb BK5 hb
   replace BK6 := aBb BK6 hb
   replace BK10 := aBb BK10 hb
   replace BK13 := aBb BK13 hb
   replace BK14 := aBb BK14 hb
   replace HB := aHB HB hb
   clear hb  q1_0 q1_1 q1_2 q1_3 q1_4 q1_5 q5_0 q5_1 q5_2 q5_3 q5_4 q5_5 q6_0 q6_1 q6_2 q6_3 q6_4 q6_5 q6_6 q6_7 q10_0 q10_1 q10_2 q10_3 q10_4 q10_5 q13_0 q13_1 q13_2 q13_3 q13_4 q13_5 q14_0 q14_1 q14_2 q14_3 q14_4 q14_5 q14_6 q14_7
   obtain ⟨q1_0, q1_1, q1_2, q1_3, q1_4, q1_5⟩ := blk6_ BK1.out
   obtain ⟨q5_0, q5_1, q5_2, q5_3, q5_4, q5_5⟩ := blk6_ BK5.out
   obtain ⟨q6_0, q6_1, q6_2, q6_3, q6_4, q6_5, q6_6, q6_7⟩ := blk8_ BK6.out
   obtain ⟨q10_0, q10_1, q10_2, q10_3, q10_4, q10_5⟩ := blk6_ BK10.out
   obtain ⟨q13_0, q13_1, q13_2, q13_3, q13_4, q13_5⟩ := blk6_ BK13.out
   obtain ⟨q14_0, q14_1, q14_2, q14_3, q14_4, q14_5, q14_6, q14_7⟩ := blk8_ BK14.out
   replace H := H.out
   by_cases hc3_ : t45 = true
   case pos =>
    rw [if_pos hc3_] at H
    subst hc3_
    by_cases hc4_ : t43 = t22
    case pos =>
     rw [if_pos hc4_] at H
     have hc4_b0 : (t43 == t22) = true := beq_iff_eq.mpr hc4_
     have hc4_b1 : (t43 != t22) = false := bne_eq_false_iff_eq.mpr hc4_
     replace hc4_ := A_.mk hc4_
     replace H := ob_ H
     obtain ⟨⟨t46, t47, t48, t49, t50, t51⟩, A19_0, H⟩ := H
     have A19 := A_.mk A19_0
     clear A19_0
     try dsimp only at H
     replace H := ob_ H
     obtain ⟨t52, A20_0, H⟩ := H
     have A20 := A_.mk A20_0
     clear A20_0
     by_cases hc5_ : t52 = true
     case pos =>
      rw [if_pos hc5_] at H
      subst hc5_
      replace H := ob_ H
      obtain ⟨⟨t53, t54, t55, t56, t57, t58, t59⟩, A21_0, H⟩ := H
      have A21 := A_.mk A21_0
      clear A21_0
      try dsimp only at H
      replace H := A_.mk H
      go_wp2_with (fail)
      refine start_ (n := 5) (S := fun w' => (w'.cell? ⟨gb1_, 0, none⟩ = some (.slice A0_0 l0_0.length c0_0) ∧ w'.cell? ⟨gb1_, 1, none⟩ = some (.slice A0_1 l0_1.length c0_1) ∧ w'.cell? ⟨gb1_, 2, none⟩ = some (.slice A0_2 l0_2.length c0_2) ∧ w'.cell? ⟨gb1_, 3, none⟩ = some (.slice A0_3 l0_3.length c0_3) ∧ w'.cell? ⟨gb1_, 4, none⟩ = some (.slice A0_4 l0_4.length c0_4) ∧ w'.cell? ⟨gb1_, 5, none⟩ = some (.slice A0_5 l0_5.length c0_5)) ∧ (w'.cell? ⟨gb10_, 0, none⟩ = some (.slice Ao9_0 t23.length co9_0) ∧ w'.cell? ⟨gb10_, 1, none⟩ = some (.slice Ao9_1 t24.length co9_1) ∧ w'.cell? ⟨gb10_, 2, none⟩ = some (.slice Ao9_2 t25.length co9_2) ∧ w'.cell? ⟨gb10_, 3, none⟩ = some (.slice Ao9_3 t26.length co9_3) ∧ w'.cell? ⟨gb10_, 4, none⟩ = some (.slice Ao9_4 t27.length co9_4) ∧ w'.cell? ⟨gb10_, 5, none⟩ = some (.slice Ao9_5 t28.length co9_5))) (ds := []) #[F, F, F, F, F] (by kernel_rfl) rfl rfl ⟨blk6_ BK1.out, blk6_ BK10.out⟩ (fun hHeld => ?_)
      clear q1_0 q1_1 q1_2 q1_3 q1_4 q1_5 q5_0 q5_1 q5_2 q5_3 q5_4 q5_5 q6_0 q6_1 q6_2 q6_3 q6_4 q6_5 q6_6 q6_7 q10_0 q10_1 q10_2 q10_3 q10_4 q10_5 q13_0 q13_1 q13_2 q13_3 q13_4 q13_5 q14_0 q14_1 q14_2 q14_3 q14_4 q14_5 q14_6 q14_7
      have hb := below_drew (Below.refl w18_.heap.size w18_)
      replace HS := aHs HS hb.size
      replace HO4_0 := aVb HO4_0 hb
      replace HO4_1 := aVb HO4_1 hb
      replace HO4_2 := aVb HO4_2 hb
      replace HO4_3 := aVb HO4_3 hb
      replace HO4_4 := aVb HO4_4 hb
      replace HO4_5 := aVb HO4_5 hb
      replace HO4_6 := aVb HO4_6 hb
      replace HO9_0 := aRb HO9_0 hb
      replace HO9_1 := aRb HO9_1 hb
      replace HO9_2 := aRb HO9_2 hb
      replace HO9_3 := aRb HO9_3 hb
      replace HO9_4 := aSb HO9_4 hb
      replace HO9_5 := aSb HO9_5 hb
      replace HO12_0 := aRb HO12_0 hb
      replace HO12_1 := aRb HO12_1 hb
      replace HO12_2 := aRb HO12_2 hb
      replace HO12_3 := aRb HO12_3 hb
      replace HO12_4 := aSb HO12_4 hb
      replace HO12_5 := aSb HO12_5 hb
      replace HO12_6 := aRb HO12_6 hb
      replace BK1 := aBb BK1 hb
      replace BK5 := aBb BK5 hb
      replace BK6 := aBb BK6 hb
      replace BK10 := aBb BK10 hb
      replace BK13 := aBb BK13 hb
      replace BK14 := aBb BK14 hb
      replace HB := aHB HB hb
      clear hb
      generalize w18_.drew = w38d_ at HO4_0 HO4_1 HO4_2 HO4_3 HO4_4 HO4_5 HO4_6 HO9_0 HO9_1 HO9_2 HO9_3 HO9_4 HO9_5 HO12_0 HO12_1 HO12_2 HO12_3 HO12_4 HO12_5 HO12_6 BK1 BK5 BK6 BK10 BK13 BK14 HB HS hHeld ⊢
      refine take_ (i := 0) (N := some 56) (v := ?_) (a' := ?_) #[T, F, F, F, F] rfl rfl (by kernel_rfl) (fun _ _ _ h => h) (Or.inl ⟨by rfl, ?_⟩) hHeld ?_ ?_
      rotate_left
      ·rintro w' ⟨⟨s1_0, s1_1, s1_2, s1_3, s1_4, s1_5⟩, ⟨s10_0, s10_1, s10_2, s10_3, s10_4, s10_5⟩⟩
       go_simp
       with_reducible rfl
      rotate_left
      ·simp only [pS]
       rfl
      refine take_ (i := 1) (N := some 57) (v := ?_) (a' := ?_) #[T, T, F, F, F] rfl rfl (by kernel_rfl) (fun _ _ _ h => h) (Or.inl ⟨by rfl, ?_⟩) hHeld ?_ ?_
      rotate_left
      ·rintro w' ⟨⟨s1_0, s1_1, s1_2, s1_3, s1_4, s1_5⟩, ⟨s10_0, s10_1, s10_2, s10_3, s10_4, s10_5⟩⟩
       go_simp
       with_reducible rfl
      rotate_left
      ·simp only [pS]
       rfl
      refine one_ (i := 2) (N := some 58) #[T, T, T, F, F] rfl rfl (by kernel_rfl) (by decide) (fun K hK => ?_)
      refine goes_ Try.func10 (by kernel_rfl) rfl #[.agg #[.slice A0_0 l0_0.length c0_0, .slice A0_1 l0_1.length c0_1, .slice A0_2 l0_2.length c0_2, .slice A0_3 l0_3.length c0_3, .slice A0_4 l0_4.length c0_4, .slice A0_5 l0_5.length c0_5]] (by rfl) rfl rfl (by (try simp only [List.map_toArray, List.map_cons, List.map_nil]); first | done | rfl) ?_
      with_reducible refine (laws_toChannel.calls k _ _ l0_0 _ _ l0_1 _ _ l0_2 _ _ l0_3 _ _ l0_4 _ _ l0_5 t46 t47 t48 t49 t50 t51 _ (Kd.C_below HR0_0.out HB.out) HC0_0.out (Kd.C_below HR0_1.out HB.out) HC0_1.out (Kd.C_below HR0_2.out HB.out) HC0_2.out (Kd.C_below HR0_3.out HB.out) HC0_3.out (Kd.C_below HR0_4.out HB.out) HC0_4.out (Kd.C_below HR0_5.out HB.out) HC0_5.out A19.out).mono ?_
      rintro e w19_ ⟨f19_, v0_, v1_, v2_, v3_, v4_, v5_, rfl, ho0_, ho1_, ho2_, ho3_, ho4_, ho5_, hb⟩
      refine ⟨_, rfl, ?_⟩
      replace HS := aHs HS hb.size
      obtain ⟨Ao19_0, co19_0, ev_⟩ := Kd.R_slice ho0_
      subst ev_
      have HO19_0 := aRn ho0_ HB.out.size
      obtain ⟨Ao19_1, co19_1, ev_⟩ := Kd.R_slice ho1_
      subst ev_
      have HO19_1 := aRn ho1_ HB.out.size
      obtain ⟨Ao19_2, co19_2, ev_⟩ := Kd.R_slice ho2_
      subst ev_
      have HO19_2 := aRn ho2_ HB.out.size
      obtain ⟨Ao19_3, co19_3, ev_⟩ := Kd.R_slice ho3_
      subst ev_
      have HO19_3 := aRn ho3_ HB.out.size
      obtain ⟨Ao19_4, co19_4, ev_⟩ := Kd.S_slice ho4_
      subst ev_
      have HO19_4 := aSn ho4_ HB.out.size
      obtain ⟨Ao19_5, co19_5, ev_⟩ := Kd.S_slice ho5_
      subst ev_
      have HO19_5 := aSn ho5_ HB.out.size
      replace HO4_0 := aVb HO4_0 hb
      replace HO4_1 := aVb HO4_1 hb
      replace HO4_2 := aVb HO4_2 hb
      replace HO4_3 := aVb HO4_3 hb
      replace HO4_4 := aVb HO4_4 hb
      replace HO4_5 := aVb HO4_5 hb
      replace HO4_6 := aVb HO4_6 hb
      replace HO9_0 := aRb HO9_0 hb
      replace HO9_1 := aRb HO9_1 hb
      replace HO9_2 := aRb HO9_2 hb
      replace HO9_3 := aRb HO9_3 hb
      replace HO9_4 := aSb HO9_4 hb
      replace HO9_5 := aSb HO9_5 hb
      replace HO12_0 := aRb HO12_0 hb
      replace HO12_1 := aRb HO12_1 hb
      replace HO12_2 := aRb HO12_2 hb
      replace HO12_3 := aRb HO12_3 hb
      replace HO12_4 := aSb HO12_4 hb
      replace HO12_5 := aSb HO12_5 hb
      replace HO12_6 := aRb HO12_6 hb
      replace BK1 := aBb BK1 hb
      replace BK5 := aBb BK5 hb
      replace BK6 := aBb BK6 hb
      replace BK10 := aBb BK10 hb
      replace BK13 := aBb BK13 hb
      replace BK14 := aBb BK14 hb
      replace HB := aHB HB hb
      clear hb ho0_ ho1_ ho2_ ho3_ ho4_ ho5_
      refine hK.out _ _ ⟨blk6_ BK1.out, blk6_ BK10.out⟩ (fun hHeld => ?_)
      clear hK K
      refine norm_ (a' := ?_) ?_ ?_
      rotate_left
      ·show Act.put _ (some 58) _ = _
       simp only [pS]
       rfl
      refine one_ (i := 3) (N := some 59) #[T, T, T, T, F] rfl rfl (by kernel_rfl) (by decide) (fun K hK => ?_)
      refine goes_ Try.func12 (by kernel_rfl) rfl #[.agg #[.slice Ao9_0 t23.length co9_0, .slice Ao9_1 t24.length co9_1, .slice Ao9_2 t25.length co9_2, .slice Ao9_3 t26.length co9_3, .slice Ao9_4 t27.length co9_4, .slice Ao9_5 t28.length co9_5], .agg #[.slice Ao19_0 t46.length co19_0, .slice Ao19_1 t47.length co19_1, .slice Ao19_2 t48.length co19_2, .slice Ao19_3 t49.length co19_3, .slice Ao19_4 t50.length co19_4, .slice Ao19_5 t51.length co19_5]] (by rfl) rfl rfl (by (try simp only [List.map_toArray, List.map_cons, List.map_nil]); first | done | rfl) ?_
      with_reducible refine (laws_eqChannel.calls k _ _ t23 _ _ t24 _ _ t25 _ _ t26 _ _ t27 _ _ t28 _ _ t46 _ _ t47 _ _ t48 _ _ t49 _ _ t50 _ _ t51 true _ (Kd.R_reads' HO9_0.out).2.2 (Kd.R_reads' HO9_0.out).2.1 (Kd.R_reads' HO9_1.out).2.2 (Kd.R_reads' HO9_1.out).2.1 (Kd.R_reads' HO9_2.out).2.2 (Kd.R_reads' HO9_2.out).2.1 (Kd.R_reads' HO9_3.out).2.2 (Kd.R_reads' HO9_3.out).2.1 (Kd.S_reads' HO9_4.out).2.2 (Kd.S_reads' HO9_4.out).2.1 (Kd.S_reads' HO9_5.out).2.2 (Kd.S_reads' HO9_5.out).2.1 (Kd.R_reads' HO19_0.out).2.2 (Kd.R_reads' HO19_0.out).2.1 (Kd.R_reads' HO19_1.out).2.2 (Kd.R_reads' HO19_1.out).2.1 (Kd.R_reads' HO19_2.out).2.2 (Kd.R_reads' HO19_2.out).2.1 (Kd.R_reads' HO19_3.out).2.2 (Kd.R_reads' HO19_3.out).2.1 (Kd.S_reads' HO19_4.out).2.2 (Kd.S_reads' HO19_4.out).2.1 (Kd.S_reads' HO19_5.out).2.2 (Kd.S_reads' HO19_5.out).2.1 A20.out).mono ?_
      rintro e w20_ ⟨rfl, hb⟩
      refine ⟨_, rfl, ?_⟩
      replace HS := aHs HS hb.size
      replace HO4_0 := aVb HO4_0 hb
      replace HO4_1 := aVb HO4_1 hb
      replace HO4_2 := aVb HO4_2 hb
      replace HO4_3 := aVb HO4_3 hb
      replace HO4_4 := aVb HO4_4 hb
      replace HO4_5 := aVb HO4_5 hb
      replace HO4_6 := aVb HO4_6 hb
      replace HO9_0 := aRb HO9_0 hb
      replace HO9_1 := aRb HO9_1 hb
      replace HO9_2 := aRb HO9_2 hb
      replace HO9_3 := aRb HO9_3 hb
      replace HO9_4 := aSb HO9_4 hb
      replace HO9_5 := aSb HO9_5 hb
      replace HO12_0 := aRb HO12_0 hb
      replace HO12_1 := aRb HO12_1 hb
      replace HO12_2 := aRb HO12_2 hb
      replace HO12_3 := aRb HO12_3 hb
      replace HO12_4 := aSb HO12_4 hb
      replace HO12_5 := aSb HO12_5 hb
      replace HO12_6 := aRb HO12_6 hb
      replace HO19_0 := aRb HO19_0 hb
      replace HO19_1 := aRb HO19_1 hb
      replace HO19_2 := aRb HO19_2 hb
      replace HO19_3 := aRb HO19_3 hb
      replace HO19_4 := aSb HO19_4 hb
      replace HO19_5 := aSb HO19_5 hb
      replace BK1 := aBb BK1 hb
      replace BK5 := aBb BK5 hb
      replace BK6 := aBb BK6 hb
      replace BK10 := aBb BK10 hb
      replace BK13 := aBb BK13 hb
      replace BK14 := aBb BK14 hb
      replace HB := aHB HB hb
      clear hb 
      refine hK.out _ _ ⟨blk6_ BK1.out, blk6_ BK10.out⟩ (fun hHeld => ?_)
      clear hK K
      refine norm_ (a' := ?_) ?_ ?_
      rotate_left
      ·show Act.put _ (some 59) _ = _
       simp only [pS]
       rfl
      refine pd_ (i := 4) (N := some 60) #[T, T, T, T, T] rfl ?_
      refine done_ (by kernel_rfl) ?_
      obtain ⟨q1_0, q1_1, q1_2, q1_3, q1_4, q1_5⟩ := blk6_ BK1.out
      obtain ⟨q5_0, q5_1, q5_2, q5_3, q5_4, q5_5⟩ := blk6_ BK5.out
      obtain ⟨q6_0, q6_1, q6_2, q6_3, q6_4, q6_5, q6_6, q6_7⟩ := blk8_ BK6.out
      obtain ⟨q10_0, q10_1, q10_2, q10_3, q10_4, q10_5⟩ := blk6_ BK10.out
      obtain ⟨q13_0, q13_1, q13_2, q13_3, q13_4, q13_5⟩ := blk6_ BK13.out
      obtain ⟨q14_0, q14_1, q14_2, q14_3, q14_4, q14_5, q14_6, q14_7⟩ := blk8_ BK14.out
      go_wp2_with (fail)
      (with_reducible refine (laws_markChannel.calls k (fun k_ => (w8_.heap.size ≤ k_ ∧ k_ < w9_.heap.size)) f9_ (.slice Ao9_0 t23.length co9_0) t23 (.slice Ao9_1 t24.length co9_1) t24 (.slice Ao9_2 t25.length co9_2) t25 (.slice Ao9_3 t26.length co9_3) t26 (.slice Ao9_4 t27.length co9_4) t27 (.slice Ao9_5 t28.length co9_5) t28 1 t53 t54 t55 t56 t57 t58 t59 w _ HB.out HO9_0.out HO9_1.out HO9_2.out HO9_3.out HO9_4.out HO9_5.out A21.out).mono ?_)
      rintro e w21_ ⟨rfl, ho0_, ho1_, ho2_, ho3_, ho4_, ho5_, ho6_, hkp⟩
      replace HS := aHs HS hkp.1
      replace HO4_0 := aVk HO4_0 hkp HS
      replace HO4_1 := aVk HO4_1 hkp HS
      replace HO4_2 := aVk HO4_2 hkp HS
      replace HO4_3 := aVk HO4_3 hkp HS
      replace HO4_4 := aVk HO4_4 hkp HS
      replace HO4_5 := aVk HO4_5 hkp HS
      replace HO4_6 := aVk HO4_6 hkp HS
      replace HO12_0 := aRk HO12_0 hkp HS
      replace HO12_1 := aRk HO12_1 hkp HS
      replace HO12_2 := aRk HO12_2 hkp HS
      replace HO12_3 := aRk HO12_3 hkp HS
      replace HO12_4 := aSk HO12_4 hkp HS
      replace HO12_5 := aSk HO12_5 hkp HS
      replace HO12_6 := aRk HO12_6 hkp HS
      replace BK1 := aBk BK1 hkp HS
      replace BK5 := aBk BK5 hkp HS
      replace BK6 := aBk BK6 hkp HS
      replace BK10 := aBk BK10 hkp HS
      replace BK13 := aBk BK13 hkp HS
      replace BK14 := aBk BK14 hkp HS
      replace HO9_0 := A_.mk (Kd.R_reok rfl ho0_ (fun k_ e_ => HO9_0.out.1 k_ e_))
      have LQHO9_0 := A_.mk (Kd.R_reads' HO9_0.out).1.symm
      replace HO9_1 := A_.mk (Kd.R_reok rfl ho1_ (fun k_ e_ => HO9_1.out.1 k_ e_))
      have LQHO9_1 := A_.mk (Kd.R_reads' HO9_1.out).1.symm
      replace HO9_2 := A_.mk (Kd.R_reok rfl ho2_ (fun k_ e_ => HO9_2.out.1 k_ e_))
      have LQHO9_2 := A_.mk (Kd.R_reads' HO9_2.out).1.symm
      replace HO9_3 := A_.mk (Kd.R_reok rfl ho3_ (fun k_ e_ => HO9_3.out.1 k_ e_))
      have LQHO9_3 := A_.mk (Kd.R_reads' HO9_3.out).1.symm
      replace HO9_4 := A_.mk (Kd.S_mono (ok' := (fun k_ => ((w8_.heap.size ≤ k_ ∧ k_ < w9_.heap.size) ∧ f9_ k_ = 4))) ho4_ (fun _ z_ => z_))
      have LQHO9_4 := A_.mk (Kd.S_reads' HO9_4.out).1.symm
      replace HO9_5 := A_.mk (Kd.S_mono (ok' := (fun k_ => ((w8_.heap.size ≤ k_ ∧ k_ < w9_.heap.size) ∧ f9_ k_ = 5))) ho5_ (fun _ z_ => z_))
      have LQHO9_5 := A_.mk (Kd.S_reads' HO9_5.out).1.symm
      replace HB := A_.mk ho6_
      clear hkp ho0_ ho1_ ho2_ ho3_ ho4_ ho5_ ho6_ q1_0 q1_1 q1_2 q1_3 q1_4 q1_5 q5_0 q5_1 q5_2 q5_3 q5_4 q5_5 q6_0 q6_1 q6_2 q6_3 q6_4 q6_5 q6_6 q6_7 q10_0 q10_1 q10_2 q10_3 q10_4 q10_5 q13_0 q13_1 q13_2 q13_3 q13_4 q13_5 q14_0 q14_1 q14_2 q14_3 q14_4 q14_5 q14_6 q14_7
      obtain ⟨q1_0, q1_1, q1_2, q1_3, q1_4, q1_5⟩ := blk6_ BK1.out
      obtain ⟨q5_0, q5_1, q5_2, q5_3, q5_4, q5_5⟩ := blk6_ BK5.out
      obtain ⟨q6_0, q6_1, q6_2, q6_3, q6_4, q6_5, q6_6, q6_7⟩ := blk8_ BK6.out
      obtain ⟨q10_0, q10_1, q10_2, q10_3, q10_4, q10_5⟩ := blk6_ BK10.out
      obtain ⟨q13_0, q13_1, q13_2, q13_3, q13_4, q13_5⟩ := blk6_ BK13.out
      obtain ⟨q14_0, q14_1, q14_2, q14_3, q14_4, q14_5, q14_6, q14_7⟩ := blk8_ BK14.out
      replace H := H.out
      by_cases hc6_ : t53 < 0
      case pos =>
       rw [if_pos hc6_] at H
       have hc6_b0 : decide (t53 < 0) = true := decide_eq_true hc6_
       exact absurd H (by simp)
      case neg =>
       rw [if_neg hc6_] at H
       have hc6_b0 : decide (t53 < 0) = false := decide_eq_false hc6_
       replace H := ob_ H
       obtain ⟨t60, A22_0, H⟩ := H
       have A22 := A_.mk A22_0
       clear A22_0
       replace H := A_.mk H
       go_wp2_with (fail)
       (with_reducible refine (laws_eqChannel.calls k _ _ t29 _ _ t30 _ _ t31 _ _ t32 _ _ t33 _ _ t34 _ _ t8 _ _ t9 _ _ t10 _ _ t11 _ _ t12 _ _ t13 t60 _ (Kd.R_reads' HO12_0.out).2.2 (Kd.R_reads' HO12_0.out).2.1 (Kd.R_reads' HO12_1.out).2.2 (Kd.R_reads' HO12_1.out).2.1 (Kd.R_reads' HO12_2.out).2.2 (Kd.R_reads' HO12_2.out).2.1 (Kd.R_reads' HO12_3.out).2.2 (Kd.R_reads' HO12_3.out).2.1 (Kd.S_reads' HO12_4.out).2.2 (Kd.S_reads' HO12_4.out).2.1 (Kd.S_reads' HO12_5.out).2.2 (Kd.S_reads' HO12_5.out).2.1 (Kd.V_reads' HO4_0.out).2.2 (Kd.V_reads' HO4_0.out).2.1 (Kd.V_reads' HO4_1.out).2.2 (Kd.V_reads' HO4_1.out).2.1 (Kd.V_reads' HO4_2.out).2.2 (Kd.V_reads' HO4_2.out).2.1 (Kd.V_reads' HO4_3.out).2.2 (Kd.V_reads' HO4_3.out).2.1 (Kd.V_reads' HO4_4.out).2.2 (Kd.V_reads' HO4_4.out).2.1 (Kd.V_reads' HO4_5.out).2.2 (Kd.V_reads' HO4_5.out).2.1 A22.out).mono ?_)
       rintro e w22_ ⟨rfl, hb⟩
       replace HS := aHs HS hb.size
       replace HO4_0 := aVb HO4_0 hb
       replace HO4_1 := aVb HO4_1 hb
       replace HO4_2 := aVb HO4_2 hb
       replace HO4_3 := aVb HO4_3 hb
       replace HO4_4 := aVb HO4_4 hb
       replace HO4_5 := aVb HO4_5 hb
       replace HO4_6 := aVb HO4_6 hb
       replace HO12_0 := aRb HO12_0 hb
       replace HO12_1 := aRb HO12_1 hb
       replace HO12_2 := aRb HO12_2 hb
       replace HO12_3 := aRb HO12_3 hb
       replace HO12_4 := aSb HO12_4 hb
       replace HO12_5 := aSb HO12_5 hb
       replace HO12_6 := aRb HO12_6 hb
       replace BK1 := aBb BK1 hb
       replace BK5 := aBb BK5 hb
       replace BK6 := aBb BK6 hb
       replace BK10 := aBb BK10 hb
       replace BK13 := aBb BK13 hb
       replace BK14 := aBb BK14 hb
       replace HB := aHB HB hb
       clear hb  q1_0 q1_1 q1_2 q1_3 q1_4 q1_5 q5_0 q5_1 q5_2 q5_3 q5_4 q5_5 q6_0 q6_1 q6_2 q6_3 q6_4 q6_5 q6_6 q6_7 q10_0 q10_1 q10_2 q10_3 q10_4 q10_5 q13_0 q13_1 q13_2 q13_3 q13_4 q13_5 q14_0 q14_1 q14_2 q14_3 q14_4 q14_5 q14_6 q14_7
       obtain ⟨q1_0, q1_1, q1_2, q1_3, q1_4, q1_5⟩ := blk6_ BK1.out
       obtain ⟨q5_0, q5_1, q5_2, q5_3, q5_4, q5_5⟩ := blk6_ BK5.out
       obtain ⟨q6_0, q6_1, q6_2, q6_3, q6_4, q6_5, q6_6, q6_7⟩ := blk8_ BK6.out
       obtain ⟨q10_0, q10_1, q10_2, q10_3, q10_4, q10_5⟩ := blk6_ BK10.out
       obtain ⟨q13_0, q13_1, q13_2, q13_3, q13_4, q13_5⟩ := blk6_ BK13.out
       obtain ⟨q14_0, q14_1, q14_2, q14_3, q14_4, q14_5, q14_6, q14_7⟩ := blk8_ BK14.out
       replace H := H.out
       by_cases hc7_ : t60 = true
       case pos =>
        rw [if_pos hc7_] at H
        subst hc7_
        replace H := ob_ H
        obtain ⟨t61, A23_0, H⟩ := H
        have A23 := A_.mk A23_0
        clear A23_0
        replace H := A_.mk H
        go_wp2_with (fail)
        (with_reducible refine (laws_eqPacket.calls k t35 t36 t37 t38 t39 t40 t41 _ _ t42 t14 t15 t16 t17 t18 t19 t20 _ _ t21 t61 _ (Kd.R_reads' HO12_6.out).2.2 (Kd.R_reads' HO12_6.out).2.1 (Kd.V_reads' HO4_6.out).2.2 (Kd.V_reads' HO4_6.out).2.1 A23.out).mono ?_)
        rintro e w23_ ⟨rfl, hb⟩
        replace HS := aHs HS hb.size
        replace HO4_0 := aVb HO4_0 hb
        replace HO4_1 := aVb HO4_1 hb
        replace HO4_2 := aVb HO4_2 hb
        replace HO4_3 := aVb HO4_3 hb
        replace HO4_4 := aVb HO4_4 hb
        replace HO4_5 := aVb HO4_5 hb
        replace HO4_6 := aVb HO4_6 hb
        replace HO12_0 := aRb HO12_0 hb
        replace HO12_1 := aRb HO12_1 hb
        replace HO12_2 := aRb HO12_2 hb
        replace HO12_3 := aRb HO12_3 hb
        replace HO12_4 := aSb HO12_4 hb
        replace HO12_5 := aSb HO12_5 hb
        replace HO12_6 := aRb HO12_6 hb
        replace BK1 := aBb BK1 hb
        replace BK5 := aBb BK5 hb
        replace BK6 := aBb BK6 hb
        replace BK10 := aBb BK10 hb
        replace BK13 := aBb BK13 hb
        replace BK14 := aBb BK14 hb
        replace HB := aHB HB hb
        clear hb  q1_0 q1_1 q1_2 q1_3 q1_4 q1_5 q5_0 q5_1 q5_2 q5_3 q5_4 q5_5 q6_0 q6_1 q6_2 q6_3 q6_4 q6_5 q6_6 q6_7 q10_0 q10_1 q10_2 q10_3 q10_4 q10_5 q13_0 q13_1 q13_2 q13_3 q13_4 q13_5 q14_0 q14_1 q14_2 q14_3 q14_4 q14_5 q14_6 q14_7
        obtain ⟨q1_0, q1_1, q1_2, q1_3, q1_4, q1_5⟩ := blk6_ BK1.out
        obtain ⟨q5_0, q5_1, q5_2, q5_3, q5_4, q5_5⟩ := blk6_ BK5.out
        obtain ⟨q6_0, q6_1, q6_2, q6_3, q6_4, q6_5, q6_6, q6_7⟩ := blk8_ BK6.out
        obtain ⟨q10_0, q10_1, q10_2, q10_3, q10_4, q10_5⟩ := blk6_ BK10.out
        obtain ⟨q13_0, q13_1, q13_2, q13_3, q13_4, q13_5⟩ := blk6_ BK13.out
        obtain ⟨q14_0, q14_1, q14_2, q14_3, q14_4, q14_5, q14_6, q14_7⟩ := blk8_ BK14.out
        replace H := H.out
        by_cases hc8_ : t61 = true
        case pos =>
         rw [if_pos hc8_] at H
         subst hc8_
         replace H := ob_ H
         obtain ⟨⟨t62, t63, t64, t65, t66, t67, t68⟩, A24_0, H⟩ := H
         have A24 := A_.mk A24_0
         clear A24_0
         try dsimp only at H
         replace H := ob_ H
         obtain ⟨⟨t69, t70⟩, A25_0, H⟩ := H
         have A25 := A_.mk A25_0
         clear A25_0
         try dsimp only at H
         replace H := ob_ H
         obtain ⟨t71, A26_0, H⟩ := H
         have A26 := A_.mk A26_0
         clear A26_0
         replace H := A_.mk H
         go_wp2_with (fail)
         (with_reducible refine (laws_markChannel.calls k (fun k_ => (w11_.heap.size ≤ k_ ∧ k_ < w12_.heap.size) ∧ f12_ k_ < 6) f12_ (.slice Ao12_0 t29.length co12_0) t29 (.slice Ao12_1 t30.length co12_1) t30 (.slice Ao12_2 t31.length co12_2) t31 (.slice Ao12_3 t32.length co12_3) t32 (.slice Ao12_4 t33.length co12_4) t33 (.slice Ao12_5 t34.length co12_5) t34 1 t62 t63 t64 t65 t66 t67 t68 w _ HB.out (Kd.R_mono HO12_0.out (fun _ z_ => ⟨⟨z_.1, by have := z_.2; omega⟩, z_.2⟩)) (Kd.R_mono HO12_1.out (fun _ z_ => ⟨⟨z_.1, by have := z_.2; omega⟩, z_.2⟩)) (Kd.R_mono HO12_2.out (fun _ z_ => ⟨⟨z_.1, by have := z_.2; omega⟩, z_.2⟩)) (Kd.R_mono HO12_3.out (fun _ z_ => ⟨⟨z_.1, by have := z_.2; omega⟩, z_.2⟩)) (Kd.S_mono HO12_4.out (fun _ z_ => ⟨⟨z_.1, by have := z_.2; omega⟩, z_.2⟩)) (Kd.S_mono HO12_5.out (fun _ z_ => ⟨⟨z_.1, by have := z_.2; omega⟩, z_.2⟩)) A24.out).mono ?_)
         rintro e w24_ ⟨rfl, ho0_, ho1_, ho2_, ho3_, ho4_, ho5_, ho6_, hkp⟩
         replace HS := aHs HS hkp.1
         replace HO4_0 := aVk HO4_0 hkp HS
         replace HO4_1 := aVk HO4_1 hkp HS
         replace HO4_2 := aVk HO4_2 hkp HS
         replace HO4_3 := aVk HO4_3 hkp HS
         replace HO4_4 := aVk HO4_4 hkp HS
         replace HO4_5 := aVk HO4_5 hkp HS
         replace HO4_6 := aVk HO4_6 hkp HS
         replace HO12_6 := aRk HO12_6 hkp HS
         replace BK1 := aBk BK1 hkp HS
         replace BK5 := aBk BK5 hkp HS
         replace BK6 := aBk BK6 hkp HS
         replace BK10 := aBk BK10 hkp HS
         replace BK13 := aBk BK13 hkp HS
         replace BK14 := aBk BK14 hkp HS
         replace HO12_0 := A_.mk (Kd.R_reok rfl ho0_ (fun k_ e_ => HO12_0.out.1 k_ e_))
         have LQHO12_0 := A_.mk (Kd.R_reads' HO12_0.out).1.symm
         replace HO12_1 := A_.mk (Kd.R_reok rfl ho1_ (fun k_ e_ => HO12_1.out.1 k_ e_))
         have LQHO12_1 := A_.mk (Kd.R_reads' HO12_1.out).1.symm
         replace HO12_2 := A_.mk (Kd.R_reok rfl ho2_ (fun k_ e_ => HO12_2.out.1 k_ e_))
         have LQHO12_2 := A_.mk (Kd.R_reads' HO12_2.out).1.symm
         replace HO12_3 := A_.mk (Kd.R_reok rfl ho3_ (fun k_ e_ => HO12_3.out.1 k_ e_))
         have LQHO12_3 := A_.mk (Kd.R_reads' HO12_3.out).1.symm
         replace HO12_4 := A_.mk (Kd.S_mono (ok' := (fun k_ => ((w11_.heap.size ≤ k_ ∧ k_ < w12_.heap.size) ∧ f12_ k_ = 4))) ho4_ (fun _ z_ => ⟨z_.1.1, z_.2⟩))
         have LQHO12_4 := A_.mk (Kd.S_reads' HO12_4.out).1.symm
         replace HO12_5 := A_.mk (Kd.S_mono (ok' := (fun k_ => ((w11_.heap.size ≤ k_ ∧ k_ < w12_.heap.size) ∧ f12_ k_ = 5))) ho5_ (fun _ z_ => ⟨z_.1.1, z_.2⟩))
         have LQHO12_5 := A_.mk (Kd.S_reads' HO12_5.out).1.symm
         replace HB := A_.mk ho6_
         clear hkp ho0_ ho1_ ho2_ ho3_ ho4_ ho5_ ho6_ q1_0 q1_1 q1_2 q1_3 q1_4 q1_5 q5_0 q5_1 q5_2 q5_3 q5_4 q5_5 q6_0 q6_1 q6_2 q6_3 q6_4 q6_5 q6_6 q6_7 q10_0 q10_1 q10_2 q10_3 q10_4 q10_5 q13_0 q13_1 q13_2 q13_3 q13_4 q13_5 q14_0 q14_1 q14_2 q14_3 q14_4 q14_5 q14_6 q14_7
         obtain ⟨q1_0, q1_1, q1_2, q1_3, q1_4, q1_5⟩ := blk6_ BK1.out
         obtain ⟨q5_0, q5_1, q5_2, q5_3, q5_4, q5_5⟩ := blk6_ BK5.out
         obtain ⟨q6_0, q6_1, q6_2, q6_3, q6_4, q6_5, q6_6, q6_7⟩ := blk8_ BK6.out
         obtain ⟨q10_0, q10_1, q10_2, q10_3, q10_4, q10_5⟩ := blk6_ BK10.out
         obtain ⟨q13_0, q13_1, q13_2, q13_3, q13_4, q13_5⟩ := blk6_ BK13.out
         obtain ⟨q14_0, q14_1, q14_2, q14_3, q14_4, q14_5, q14_6, q14_7⟩ := blk8_ BK14.out
         go_wp2_with (fail)
         (with_reducible refine (laws_markPacket.calls k t35 t36 t37 t38 t39 t40 t41 (fun k_ => ((w11_.heap.size ≤ k_ ∧ k_ < w12_.heap.size) ∧ f12_ k_ = 6)) (.slice Ao12_6 t42.length co12_6) t42 t62 t69 t70 w _ HB.out HO12_6.out A25.out).mono ?_)
         rintro e w25_ ⟨rfl, ho0_, ho1_, hkp⟩
         replace HS := aHs HS hkp.1
         replace HO4_0 := aVk HO4_0 hkp HS
         replace HO4_1 := aVk HO4_1 hkp HS
         replace HO4_2 := aVk HO4_2 hkp HS
         replace HO4_3 := aVk HO4_3 hkp HS
         replace HO4_4 := aVk HO4_4 hkp HS
         replace HO4_5 := aVk HO4_5 hkp HS
         replace HO4_6 := aVk HO4_6 hkp HS
         replace HO12_0 := aRk HO12_0 hkp HS
         replace HO12_1 := aRk HO12_1 hkp HS
         replace HO12_2 := aRk HO12_2 hkp HS
         replace HO12_3 := aRk HO12_3 hkp HS
         replace HO12_4 := aSk HO12_4 hkp HS
         replace HO12_5 := aSk HO12_5 hkp HS
         replace BK1 := aBk BK1 hkp HS
         replace BK5 := aBk BK5 hkp HS
         replace BK6 := aBk BK6 hkp HS
         replace BK10 := aBk BK10 hkp HS
         replace BK13 := aBk BK13 hkp HS
         replace BK14 := aBk BK14 hkp HS
         replace HO12_6 := A_.mk (Kd.R_reok rfl ho0_ (fun k_ e_ => HO12_6.out.1 k_ e_))
         have LQHO12_6 := A_.mk (Kd.R_reads' HO12_6.out).1.symm
         replace HB := A_.mk ho1_
         clear hkp ho0_ ho1_ q1_0 q1_1 q1_2 q1_3 q1_4 q1_5 q5_0 q5_1 q5_2 q5_3 q5_4 q5_5 q6_0 q6_1 q6_2 q6_3 q6_4 q6_5 q6_6 q6_7 q10_0 q10_1 q10_2 q10_3 q10_4 q10_5 q13_0 q13_1 q13_2 q13_3 q13_4 q13_5 q14_0 q14_1 q14_2 q14_3 q14_4 q14_5 q14_6 q14_7
         obtain ⟨q1_0, q1_1, q1_2, q1_3, q1_4, q1_5⟩ := blk6_ BK1.out
         obtain ⟨q5_0, q5_1, q5_2, q5_3, q5_4, q5_5⟩ := blk6_ BK5.out
         obtain ⟨q6_0, q6_1, q6_2, q6_3, q6_4, q6_5, q6_6, q6_7⟩ := blk8_ BK6.out
         obtain ⟨q10_0, q10_1, q10_2, q10_3, q10_4, q10_5⟩ := blk6_ BK10.out
         obtain ⟨q13_0, q13_1, q13_2, q13_3, q13_4, q13_5⟩ := blk6_ BK13.out
         obtain ⟨q14_0, q14_1, q14_2, q14_3, q14_4, q14_5, q14_6, q14_7⟩ := blk8_ BK14.out
         go_wp2_with (fail)
         refine (calls_cast (by rw [LQHO12_0.out, LQHO12_1.out, LQHO12_2.out, LQHO12_3.out, LQHO12_4.out, LQHO12_5.out]) (laws_heldChannel.calls k _ _ t63 _ _ t64 _ _ t65 _ _ t66 _ _ t67 _ _ t68 1 t71 _ (Kd.R_reads' HO12_0.out).2.2 (by rw [LQHO12_0.out]; exact (Kd.R_reads' HO12_0.out).2.1) (Kd.R_reads' HO12_1.out).2.2 (by rw [LQHO12_1.out]; exact (Kd.R_reads' HO12_1.out).2.1) (Kd.R_reads' HO12_2.out).2.2 (by rw [LQHO12_2.out]; exact (Kd.R_reads' HO12_2.out).2.1) (Kd.R_reads' HO12_3.out).2.2 (by rw [LQHO12_3.out]; exact (Kd.R_reads' HO12_3.out).2.1) (Kd.S_reads' HO12_4.out).2.2 (by rw [LQHO12_4.out]; exact (Kd.S_reads' HO12_4.out).2.1) (Kd.S_reads' HO12_5.out).2.2 (by rw [LQHO12_5.out]; exact (Kd.S_reads' HO12_5.out).2.1) A26.out)).mono ?_
         rintro e w26_ ⟨rfl, hb⟩
         replace HS := aHs HS hb.size
         replace HO4_0 := aVb HO4_0 hb
         replace HO4_1 := aVb HO4_1 hb
         replace HO4_2 := aVb HO4_2 hb
         replace HO4_3 := aVb HO4_3 hb
         replace HO4_4 := aVb HO4_4 hb
         replace HO4_5 := aVb HO4_5 hb
         replace HO4_6 := aVb HO4_6 hb
         replace HO12_0 := aRb HO12_0 hb
         replace HO12_1 := aRb HO12_1 hb
         replace HO12_2 := aRb HO12_2 hb
         replace HO12_3 := aRb HO12_3 hb
         replace HO12_4 := aSb HO12_4 hb
         replace HO12_5 := aSb HO12_5 hb
         replace HO12_6 := aRb HO12_6 hb
         replace BK1 := aBb BK1 hb
         replace BK5 := aBb BK5 hb
         replace BK6 := aBb BK6 hb
         replace BK10 := aBb BK10 hb
         replace BK13 := aBb BK13 hb
         replace BK14 := aBb BK14 hb
         replace HB := aHB HB hb
         clear hb  q1_0 q1_1 q1_2 q1_3 q1_4 q1_5 q5_0 q5_1 q5_2 q5_3 q5_4 q5_5 q6_0 q6_1 q6_2 q6_3 q6_4 q6_5 q6_6 q6_7 q10_0 q10_1 q10_2 q10_3 q10_4 q10_5 q13_0 q13_1 q13_2 q13_3 q13_4 q13_5 q14_0 q14_1 q14_2 q14_3 q14_4 q14_5 q14_6 q14_7
         obtain ⟨q1_0, q1_1, q1_2, q1_3, q1_4, q1_5⟩ := blk6_ BK1.out
         obtain ⟨q5_0, q5_1, q5_2, q5_3, q5_4, q5_5⟩ := blk6_ BK5.out
         obtain ⟨q6_0, q6_1, q6_2, q6_3, q6_4, q6_5, q6_6, q6_7⟩ := blk8_ BK6.out
         obtain ⟨q10_0, q10_1, q10_2, q10_3, q10_4, q10_5⟩ := blk6_ BK10.out
         obtain ⟨q13_0, q13_1, q13_2, q13_3, q13_4, q13_5⟩ := blk6_ BK13.out
         obtain ⟨q14_0, q14_1, q14_2, q14_3, q14_4, q14_5, q14_6, q14_7⟩ := blk8_ BK14.out
         replace H := H.out
         by_cases hc9_ : t71 < 0
         case pos =>
          rw [if_pos hc9_] at H
          have hc9_b0 : decide (t71 < 0) = true := decide_eq_true hc9_
          exact absurd H (by simp)
         case neg =>
          rw [if_neg hc9_] at H
          have hc9_b0 : decide (t71 < 0) = false := decide_eq_false hc9_
          replace H := ob_ H
          obtain ⟨t72, A27_0, H⟩ := H
          have A27 := A_.mk A27_0
          clear A27_0
          replace H := A_.mk H
          go_wp2_with (fail)
          refine (calls_cast (by rw [LQHO12_6.out]) (laws_heldPacket.calls k t35 t36 t37 t38 t39 t40 t41 _ _ t70 t71 t72 _ (Kd.R_reads' HO12_6.out).2.2 (by rw [LQHO12_6.out]; exact (Kd.R_reads' HO12_6.out).2.1) A27.out)).mono ?_
          rintro e w27_ ⟨rfl, hb⟩
          replace HS := aHs HS hb.size
          replace HO4_0 := aVb HO4_0 hb
          replace HO4_1 := aVb HO4_1 hb
          replace HO4_2 := aVb HO4_2 hb
          replace HO4_3 := aVb HO4_3 hb
          replace HO4_4 := aVb HO4_4 hb
          replace HO4_5 := aVb HO4_5 hb
          replace HO4_6 := aVb HO4_6 hb
          replace HO12_0 := aRb HO12_0 hb
          replace HO12_1 := aRb HO12_1 hb
          replace HO12_2 := aRb HO12_2 hb
          replace HO12_3 := aRb HO12_3 hb
          replace HO12_4 := aSb HO12_4 hb
          replace HO12_5 := aSb HO12_5 hb
          replace HO12_6 := aRb HO12_6 hb
          replace BK1 := aBb BK1 hb
          replace BK5 := aBb BK5 hb
          replace BK6 := aBb BK6 hb
          replace BK10 := aBb BK10 hb
          replace BK13 := aBb BK13 hb
          replace BK14 := aBb BK14 hb
          replace HB := aHB HB hb
          clear hb  q1_0 q1_1 q1_2 q1_3 q1_4 q1_5 q5_0 q5_1 q5_2 q5_3 q5_4 q5_5 q6_0 q6_1 q6_2 q6_3 q6_4 q6_5 q6_6 q6_7 q10_0 q10_1 q10_2 q10_3 q10_4 q10_5 q13_0 q13_1 q13_2 q13_3 q13_4 q13_5 q14_0 q14_1 q14_2 q14_3 q14_4 q14_5 q14_6 q14_7
          obtain ⟨q1_0, q1_1, q1_2, q1_3, q1_4, q1_5⟩ := blk6_ BK1.out
          obtain ⟨q5_0, q5_1, q5_2, q5_3, q5_4, q5_5⟩ := blk6_ BK5.out
          obtain ⟨q6_0, q6_1, q6_2, q6_3, q6_4, q6_5, q6_6, q6_7⟩ := blk8_ BK6.out
          obtain ⟨q10_0, q10_1, q10_2, q10_3, q10_4, q10_5⟩ := blk6_ BK10.out
          obtain ⟨q13_0, q13_1, q13_2, q13_3, q13_4, q13_5⟩ := blk6_ BK13.out
          obtain ⟨q14_0, q14_1, q14_2, q14_3, q14_4, q14_5, q14_6, q14_7⟩ := blk8_ BK14.out
          replace H := H.out
          by_cases hc10_ : t72 < 0
          case pos =>
           rw [if_pos hc10_] at H
           have hc10_b0 : decide (t72 < 0) = true := decide_eq_true hc10_
           exact absurd H (by simp)
          case neg =>
           rw [if_neg hc10_] at H
           have hc10_b0 : decide (t72 < 0) = false := decide_eq_false hc10_
           by_cases hc11_ : t72 = t69
           case pos =>
            rw [if_pos hc11_] at H
            have hc11_b0 : (t72 == t69) = true := beq_iff_eq.mpr hc11_
            have hc11_bn : (t72 != t69) = false := bne_eq_false_iff_eq.mpr hc11_
            replace hc11_ := A_.mk hc11_
            replace H := ob_ H
            obtain ⟨⟨t73, t74, t75, t76, t77, t78⟩, A28_0, H⟩ := H
            have A28 := A_.mk A28_0
            clear A28_0
            try dsimp only at H
            replace H := ob_ H
            obtain ⟨⟨t79, t80, t81, t82, t83, t84, t85, t86, t87, t88, t89, t90, t91, t92, t93⟩, A29_0, H⟩ := H
            have A29 := A_.mk A29_0
            clear A29_0
            try dsimp only at H
            replace H := ob_ H
            obtain ⟨t94, A34_0, H⟩ := H
            have A34 := A_.mk A34_0
            clear A34_0
            replace H := A_.mk H
            go_wp2_with (first | ((with_reducible refine gc_ (f := 10) rfl ?_); refine gl_ (some 104) Try.func10 #[.agg #[.slice A0_0 l0_0.length c0_0, .slice A0_1 l0_1.length c0_1, .slice A0_2 l0_2.length c0_2, .slice A0_3 l0_3.length c0_3, .slice A0_4 l0_4.length c0_4, .slice A0_5 l0_5.length c0_5]] ?_; (with_reducible refine (laws_toChannel.calls k _ _ l0_0 _ _ l0_1 _ _ l0_2 _ _ l0_3 _ _ l0_4 _ _ l0_5 t73 t74 t75 t76 t77 t78 _ (Kd.C_below HR0_0.out HB.out) HC0_0.out (Kd.C_below HR0_1.out HB.out) HC0_1.out (Kd.C_below HR0_2.out HB.out) HC0_2.out (Kd.C_below HR0_3.out HB.out) HC0_3.out (Kd.C_below HR0_4.out HB.out) HC0_4.out (Kd.C_below HR0_5.out HB.out) HC0_5.out A28.out).mono ?_); rintro e w28_ ⟨f28_, v0_, v1_, v2_, v3_, v4_, v5_, rfl, ho0_, ho1_, ho2_, ho3_, ho4_, ho5_, hb⟩; refine ⟨_, rfl, ?_⟩; replace HS := aHs HS hb.size; obtain ⟨Ao28_0, co28_0, ev_⟩ := Kd.R_slice ho0_; subst ev_; have HO28_0 := aRn ho0_ HB.out.size; obtain ⟨Ao28_1, co28_1, ev_⟩ := Kd.R_slice ho1_; subst ev_; have HO28_1 := aRn ho1_ HB.out.size; obtain ⟨Ao28_2, co28_2, ev_⟩ := Kd.R_slice ho2_; subst ev_; have HO28_2 := aRn ho2_ HB.out.size; obtain ⟨Ao28_3, co28_3, ev_⟩ := Kd.R_slice ho3_; subst ev_; have HO28_3 := aRn ho3_ HB.out.size; obtain ⟨Ao28_4, co28_4, ev_⟩ := Kd.S_slice ho4_; subst ev_; have HO28_4 := aSn ho4_ HB.out.size; obtain ⟨Ao28_5, co28_5, ev_⟩ := Kd.S_slice ho5_; subst ev_; have HO28_5 := aSn ho5_ HB.out.size; replace HO4_0 := aVb HO4_0 hb; replace HO4_1 := aVb HO4_1 hb; replace HO4_2 := aVb HO4_2 hb; replace HO4_3 := aVb HO4_3 hb; replace HO4_4 := aVb HO4_4 hb; replace HO4_5 := aVb HO4_5 hb; replace HO4_6 := aVb HO4_6 hb; replace HO12_0 := aRb HO12_0 hb; replace HO12_1 := aRb HO12_1 hb; replace HO12_2 := aRb HO12_2 hb; replace HO12_3 := aRb HO12_3 hb; replace HO12_4 := aSb HO12_4 hb; replace HO12_5 := aSb HO12_5 hb; replace HO12_6 := aRb HO12_6 hb; replace BK1 := aBb BK1 hb; replace BK5 := aBb BK5 hb; replace BK6 := aBb BK6 hb; replace BK10 := aBb BK10 hb; replace BK13 := aBb BK13 hb; replace BK14 := aBb BK14 hb; replace HB := aHB HB hb; clear hb ho0_ ho1_ ho2_ ho3_ ho4_ ho5_ q1_0 q1_1 q1_2 q1_3 q1_4 q1_5 q5_0 q5_1 q5_2 q5_3 q5_4 q5_5 q6_0 q6_1 q6_2 q6_3 q6_4 q6_5 q6_6 q6_7 q10_0 q10_1 q10_2 q10_3 q10_4 q10_5 q13_0 q13_1 q13_2 q13_3 q13_4 q13_5 q14_0 q14_1 q14_2 q14_3 q14_4 q14_5 q14_6 q14_7; obtain ⟨q1_0, q1_1, q1_2, q1_3, q1_4, q1_5⟩ := blk6_ BK1.out; obtain ⟨q5_0, q5_1, q5_2, q5_3, q5_4, q5_5⟩ := blk6_ BK5.out; obtain ⟨q6_0, q6_1, q6_2, q6_3, q6_4, q6_5, q6_6, q6_7⟩ := blk8_ BK6.out; obtain ⟨q10_0, q10_1, q10_2, q10_3, q10_4, q10_5⟩ := blk6_ BK10.out; obtain ⟨q13_0, q13_1, q13_2, q13_3, q13_4, q13_5⟩ := blk6_ BK13.out; obtain ⟨q14_0, q14_1, q14_2, q14_3, q14_4, q14_5, q14_6, q14_7⟩ := blk8_ BK14.out) | ((with_reducible refine gc_ (f := 14) rfl ?_); refine gl_ (some 106) Try.func14 #[.agg #[.slice Ao28_0 t73.length co28_0, .slice Ao28_1 t74.length co28_1, .slice Ao28_2 t75.length co28_2, .slice Ao28_3 t76.length co28_3, .slice Ao28_4 t77.length co28_4, .slice Ao28_5 t78.length co28_5], .int .i64 a1] ?_; (with_reducible refine (impl_FreePacket.calls k _ _ t73 _ _ t74 _ _ t75 _ _ t76 (fun k_ => ((w27_.heap.size ≤ k_ ∧ k_ < w28_.heap.size) ∧ f28_ k_ = 4)) _ _ t77 (fun k_ => ((w27_.heap.size ≤ k_ ∧ k_ < w28_.heap.size) ∧ f28_ k_ = 5)) _ _ t78 a1 t79 t80 t81 t82 t83 t84 t85 t86 t87 t88 t89 t90 t91 t92 t93 _ (Kd.R_reads' HO28_0.out).2.2 (Kd.R_reads' HO28_0.out).2.1 (Kd.R_reads' HO28_1.out).2.2 (Kd.R_reads' HO28_1.out).2.1 (Kd.R_reads' HO28_2.out).2.2 (Kd.R_reads' HO28_2.out).2.1 (Kd.R_reads' HO28_3.out).2.2 (Kd.R_reads' HO28_3.out).2.1 (Kd.S_V HO28_4.out) (Kd.S_V HO28_5.out) A29.out).mono ?_); rintro e w29_ ⟨f29_, v0_, v1_, v2_, v3_, v4_, v5_, v6_, rfl, ho0_, ho1_, ho2_, ho3_, ho4_, ho5_, ho6_, hb⟩; refine ⟨_, rfl, ?_⟩; replace HS := aHs HS hb.size; obtain ⟨Ao29_0, co29_0, ev_⟩ := Kd.R_slice ho0_; subst ev_; have HO29_0 := aRn ho0_ HB.out.size; obtain ⟨Ao29_1, co29_1, ev_⟩ := Kd.R_slice ho1_; subst ev_; have HO29_1 := aRn ho1_ HB.out.size; obtain ⟨Ao29_2, co29_2, ev_⟩ := Kd.R_slice ho2_; subst ev_; have HO29_2 := aRn ho2_ HB.out.size; obtain ⟨Ao29_3, co29_3, ev_⟩ := Kd.R_slice ho3_; subst ev_; have HO29_3 := aRn ho3_ HB.out.size; obtain ⟨Ao29_4, co29_4, ev_⟩ := Kd.S_slice ho4_; subst ev_; have HO29_4 := aSn ho4_ HB.out.size; obtain ⟨Ao29_5, co29_5, ev_⟩ := Kd.S_slice ho5_; subst ev_; have HO29_5 := aSn ho5_ HB.out.size; obtain ⟨Ao29_6, co29_6, ev_⟩ := Kd.R_slice ho6_; subst ev_; have HO29_6 := aRn ho6_ HB.out.size; replace HO4_0 := aVb HO4_0 hb; replace HO4_1 := aVb HO4_1 hb; replace HO4_2 := aVb HO4_2 hb; replace HO4_3 := aVb HO4_3 hb; replace HO4_4 := aVb HO4_4 hb; replace HO4_5 := aVb HO4_5 hb; replace HO4_6 := aVb HO4_6 hb; replace HO12_0 := aRb HO12_0 hb; replace HO12_1 := aRb HO12_1 hb; replace HO12_2 := aRb HO12_2 hb; replace HO12_3 := aRb HO12_3 hb; replace HO12_4 := aSb HO12_4 hb; replace HO12_5 := aSb HO12_5 hb; replace HO12_6 := aRb HO12_6 hb; replace HO28_0 := aRb HO28_0 hb; replace HO28_1 := aRb HO28_1 hb; replace HO28_2 := aRb HO28_2 hb; replace HO28_3 := aRb HO28_3 hb; replace HO28_4 := aSb HO28_4 hb; replace HO28_5 := aSb HO28_5 hb; replace BK1 := aBb BK1 hb; replace BK5 := aBb BK5 hb; replace BK6 := aBb BK6 hb; replace BK10 := aBb BK10 hb; replace BK13 := aBb BK13 hb; replace BK14 := aBb BK14 hb; replace HB := aHB HB hb; clear hb ho0_ ho1_ ho2_ ho3_ ho4_ ho5_ ho6_ q1_0 q1_1 q1_2 q1_3 q1_4 q1_5 q5_0 q5_1 q5_2 q5_3 q5_4 q5_5 q6_0 q6_1 q6_2 q6_3 q6_4 q6_5 q6_6 q6_7 q10_0 q10_1 q10_2 q10_3 q10_4 q10_5 q13_0 q13_1 q13_2 q13_3 q13_4 q13_5 q14_0 q14_1 q14_2 q14_3 q14_4 q14_5 q14_6 q14_7; obtain ⟨q1_0, q1_1, q1_2, q1_3, q1_4, q1_5⟩ := blk6_ BK1.out; obtain ⟨q5_0, q5_1, q5_2, q5_3, q5_4, q5_5⟩ := blk6_ BK5.out; obtain ⟨q6_0, q6_1, q6_2, q6_3, q6_4, q6_5, q6_6, q6_7⟩ := blk8_ BK6.out; obtain ⟨q10_0, q10_1, q10_2, q10_3, q10_4, q10_5⟩ := blk6_ BK10.out; obtain ⟨q13_0, q13_1, q13_2, q13_3, q13_4, q13_5⟩ := blk6_ BK13.out; obtain ⟨q14_0, q14_1, q14_2, q14_3, q14_4, q14_5, q14_6, q14_7⟩ := blk8_ BK14.out) | ((with_reducible refine gd_ (N := 16) rfl ?_); refine by_ 16 (cs := #[.slice none 0 0, .slice none 0 0, .slice none 0 0, .slice none 0 0, .slice none 0 0, .slice none 0 0]) (t := 33) ?_; intro gb30_ hg w30_ hbox hb; replace HS := A_.mk (And.intro HS.out (show gb30_ = w29_.heap.size ∧ gb30_ < w30_.heap.size from ⟨hg, blk_lt hbox⟩)); replace HO4_0 := aVb HO4_0 hb; replace HO4_1 := aVb HO4_1 hb; replace HO4_2 := aVb HO4_2 hb; replace HO4_3 := aVb HO4_3 hb; replace HO4_4 := aVb HO4_4 hb; replace HO4_5 := aVb HO4_5 hb; replace HO4_6 := aVb HO4_6 hb; replace HO12_0 := aRb HO12_0 hb; replace HO12_1 := aRb HO12_1 hb; replace HO12_2 := aRb HO12_2 hb; replace HO12_3 := aRb HO12_3 hb; replace HO12_4 := aSb HO12_4 hb; replace HO12_5 := aSb HO12_5 hb; replace HO12_6 := aRb HO12_6 hb; replace HO29_0 := aRb HO29_0 hb; replace HO29_1 := aRb HO29_1 hb; replace HO29_2 := aRb HO29_2 hb; replace HO29_3 := aRb HO29_3 hb; replace HO29_4 := aSb HO29_4 hb; replace HO29_5 := aSb HO29_5 hb; replace HO29_6 := aRb HO29_6 hb; replace BK1 := aBb BK1 hb; replace BK5 := aBb BK5 hb; replace BK6 := aBb BK6 hb; replace BK10 := aBb BK10 hb; replace BK13 := aBb BK13 hb; replace BK14 := aBb BK14 hb; replace HB := aHB HB hb; have BK30 := A_.mk hbox; clear hbox hb hg q1_0 q1_1 q1_2 q1_3 q1_4 q1_5 q5_0 q5_1 q5_2 q5_3 q5_4 q5_5 q6_0 q6_1 q6_2 q6_3 q6_4 q6_5 q6_6 q6_7 q10_0 q10_1 q10_2 q10_3 q10_4 q10_5 q13_0 q13_1 q13_2 q13_3 q13_4 q13_5 q14_0 q14_1 q14_2 q14_3 q14_4 q14_5 q14_6 q14_7; obtain ⟨q1_0, q1_1, q1_2, q1_3, q1_4, q1_5⟩ := blk6_ BK1.out; obtain ⟨q5_0, q5_1, q5_2, q5_3, q5_4, q5_5⟩ := blk6_ BK5.out; obtain ⟨q6_0, q6_1, q6_2, q6_3, q6_4, q6_5, q6_6, q6_7⟩ := blk8_ BK6.out; obtain ⟨q10_0, q10_1, q10_2, q10_3, q10_4, q10_5⟩ := blk6_ BK10.out; obtain ⟨q13_0, q13_1, q13_2, q13_3, q13_4, q13_5⟩ := blk6_ BK13.out; obtain ⟨q14_0, q14_1, q14_2, q14_3, q14_4, q14_5, q14_6, q14_7⟩ := blk8_ BK14.out; obtain ⟨q30_0, q30_1, q30_2, q30_3, q30_4, q30_5⟩ := blk6_ BK30.out) | ((with_reducible refine gd_ (N := 17) rfl ?_); refine by_ 17 (cs := #[.int .i64 0, .int .i64 0, .int .i64 0, .int .i64 0, .int .i64 0, .int .i64 0, .int .i64 0, .slice none 0 0]) (t := 38) ?_; intro gb31_ hg w31_ hbox hb; replace HS := A_.mk (And.intro HS.out (show gb31_ = w30_.heap.size ∧ gb31_ < w31_.heap.size from ⟨hg, blk_lt hbox⟩)); replace HO4_0 := aVb HO4_0 hb; replace HO4_1 := aVb HO4_1 hb; replace HO4_2 := aVb HO4_2 hb; replace HO4_3 := aVb HO4_3 hb; replace HO4_4 := aVb HO4_4 hb; replace HO4_5 := aVb HO4_5 hb; replace HO4_6 := aVb HO4_6 hb; replace HO12_0 := aRb HO12_0 hb; replace HO12_1 := aRb HO12_1 hb; replace HO12_2 := aRb HO12_2 hb; replace HO12_3 := aRb HO12_3 hb; replace HO12_4 := aSb HO12_4 hb; replace HO12_5 := aSb HO12_5 hb; replace HO12_6 := aRb HO12_6 hb; replace HO29_0 := aRb HO29_0 hb; replace HO29_1 := aRb HO29_1 hb; replace HO29_2 := aRb HO29_2 hb; replace HO29_3 := aRb HO29_3 hb; replace HO29_4 := aSb HO29_4 hb; replace HO29_5 := aSb HO29_5 hb; replace HO29_6 := aRb HO29_6 hb; replace BK1 := aBb BK1 hb; replace BK5 := aBb BK5 hb; replace BK6 := aBb BK6 hb; replace BK10 := aBb BK10 hb; replace BK13 := aBb BK13 hb; replace BK14 := aBb BK14 hb; replace BK30 := aBb BK30 hb; replace HB := aHB HB hb; have BK31 := A_.mk hbox; clear hbox hb hg q1_0 q1_1 q1_2 q1_3 q1_4 q1_5 q5_0 q5_1 q5_2 q5_3 q5_4 q5_5 q6_0 q6_1 q6_2 q6_3 q6_4 q6_5 q6_6 q6_7 q10_0 q10_1 q10_2 q10_3 q10_4 q10_5 q13_0 q13_1 q13_2 q13_3 q13_4 q13_5 q14_0 q14_1 q14_2 q14_3 q14_4 q14_5 q14_6 q14_7 q30_0 q30_1 q30_2 q30_3 q30_4 q30_5; obtain ⟨q1_0, q1_1, q1_2, q1_3, q1_4, q1_5⟩ := blk6_ BK1.out; obtain ⟨q5_0, q5_1, q5_2, q5_3, q5_4, q5_5⟩ := blk6_ BK5.out; obtain ⟨q6_0, q6_1, q6_2, q6_3, q6_4, q6_5, q6_6, q6_7⟩ := blk8_ BK6.out; obtain ⟨q10_0, q10_1, q10_2, q10_3, q10_4, q10_5⟩ := blk6_ BK10.out; obtain ⟨q13_0, q13_1, q13_2, q13_3, q13_4, q13_5⟩ := blk6_ BK13.out; obtain ⟨q14_0, q14_1, q14_2, q14_3, q14_4, q14_5, q14_6, q14_7⟩ := blk8_ BK14.out; obtain ⟨q30_0, q30_1, q30_2, q30_3, q30_4, q30_5⟩ := blk6_ BK30.out; obtain ⟨q31_0, q31_1, q31_2, q31_3, q31_4, q31_5, q31_6, q31_7⟩ := blk8_ BK31.out) | ((with_reducible refine gs_ (t := 33) (p := 16) rfl ?_); have qf0 := bf_ BK30.out 0; have qf1 := bf_ BK30.out 1; have qf2 := bf_ BK30.out 2; have qf3 := bf_ BK30.out 3; have qf4 := bf_ BK30.out 4; have qf5 := bf_ BK30.out 5; refine se_ (t := 33) (p := 16) (v := ?vo_32) (w1 := (ch6_ w31_ gb30_ (.slice Ao29_0 t79.length co29_0) (.slice Ao29_1 t80.length co29_1) (.slice Ao29_2 t81.length co29_2) (.slice Ao29_3 t82.length co29_3) (.slice Ao29_4 t83.length co29_4) (.slice Ao29_5 t84.length co29_5))) ?hg ?ho ?hn ?hr ?_; (case ho => rfl); (case hg => rfl); (case hn => rfl); (case hr => first | (go_simp; done) | (go_simp; rfl)); intro w32_ hw; clear qf0 qf1 qf2 qf3 qf4 qf5; obtain ⟨hbx, hkp, hbb⟩ := st6_ hw BK30 HB (by have := HS.out; omega); clear hw; replace HO4_0 := aVk HO4_0 hkp HS; replace HO4_1 := aVk HO4_1 hkp HS; replace HO4_2 := aVk HO4_2 hkp HS; replace HO4_3 := aVk HO4_3 hkp HS; replace HO4_4 := aVk HO4_4 hkp HS; replace HO4_5 := aVk HO4_5 hkp HS; replace HO4_6 := aVk HO4_6 hkp HS; replace HO12_0 := aRk HO12_0 hkp HS; replace HO12_1 := aRk HO12_1 hkp HS; replace HO12_2 := aRk HO12_2 hkp HS; replace HO12_3 := aRk HO12_3 hkp HS; replace HO12_4 := aSk HO12_4 hkp HS; replace HO12_5 := aSk HO12_5 hkp HS; replace HO12_6 := aRk HO12_6 hkp HS; replace HO29_0 := aRk HO29_0 hkp HS; replace HO29_1 := aRk HO29_1 hkp HS; replace HO29_2 := aRk HO29_2 hkp HS; replace HO29_3 := aRk HO29_3 hkp HS; replace HO29_4 := aSk HO29_4 hkp HS; replace HO29_5 := aSk HO29_5 hkp HS; replace HO29_6 := aRk HO29_6 hkp HS; replace BK1 := aBk BK1 hkp HS; replace BK5 := aBk BK5 hkp HS; replace BK6 := aBk BK6 hkp HS; replace BK10 := aBk BK10 hkp HS; replace BK13 := aBk BK13 hkp HS; replace BK14 := aBk BK14 hkp HS; replace BK31 := aBk BK31 hkp HS; replace BK30 := A_.mk hbx; replace HB := A_.mk hbb; replace HS := aHs HS hkp.1; clear hkp hbb hbx q1_0 q1_1 q1_2 q1_3 q1_4 q1_5 q5_0 q5_1 q5_2 q5_3 q5_4 q5_5 q6_0 q6_1 q6_2 q6_3 q6_4 q6_5 q6_6 q6_7 q10_0 q10_1 q10_2 q10_3 q10_4 q10_5 q13_0 q13_1 q13_2 q13_3 q13_4 q13_5 q14_0 q14_1 q14_2 q14_3 q14_4 q14_5 q14_6 q14_7 q30_0 q30_1 q30_2 q30_3 q30_4 q30_5 q31_0 q31_1 q31_2 q31_3 q31_4 q31_5 q31_6 q31_7; obtain ⟨q1_0, q1_1, q1_2, q1_3, q1_4, q1_5⟩ := blk6_ BK1.out; obtain ⟨q5_0, q5_1, q5_2, q5_3, q5_4, q5_5⟩ := blk6_ BK5.out; obtain ⟨q6_0, q6_1, q6_2, q6_3, q6_4, q6_5, q6_6, q6_7⟩ := blk8_ BK6.out; obtain ⟨q10_0, q10_1, q10_2, q10_3, q10_4, q10_5⟩ := blk6_ BK10.out; obtain ⟨q13_0, q13_1, q13_2, q13_3, q13_4, q13_5⟩ := blk6_ BK13.out; obtain ⟨q14_0, q14_1, q14_2, q14_3, q14_4, q14_5, q14_6, q14_7⟩ := blk8_ BK14.out; obtain ⟨q30_0, q30_1, q30_2, q30_3, q30_4, q30_5⟩ := blk6_ BK30.out; obtain ⟨q31_0, q31_1, q31_2, q31_3, q31_4, q31_5, q31_6, q31_7⟩ := blk8_ BK31.out) | ((with_reducible refine gs_ (t := 38) (p := 17) rfl ?_); have qf0 := bf_ BK31.out 0; have qf1 := bf_ BK31.out 1; have qf2 := bf_ BK31.out 2; have qf3 := bf_ BK31.out 3; have qf4 := bf_ BK31.out 4; have qf5 := bf_ BK31.out 5; have qf6 := bf_ BK31.out 6; have qf7 := bf_ BK31.out 7; refine se_ (t := 38) (p := 17) (v := ?vo_33) (w1 := (ch8_ w32_ gb31_ (.int .i64 t85) (.int .i64 t86) (.int .i64 t87) (.int .i64 t88) (.int .i64 t89) (.int .i64 t90) (.int .i64 t91) (.slice Ao29_6 t92.length co29_6))) ?hg ?ho ?hn ?hr ?_; (case ho => rfl); (case hg => rfl); (case hn => rfl); (case hr => first | (go_simp; done) | (go_simp; rfl)); intro w33_ hw; clear qf0 qf1 qf2 qf3 qf4 qf5 qf6 qf7; obtain ⟨hbx, hkp, hbb⟩ := st8_ hw BK31 HB (by have := HS.out; omega); clear hw; replace HO4_0 := aVk HO4_0 hkp HS; replace HO4_1 := aVk HO4_1 hkp HS; replace HO4_2 := aVk HO4_2 hkp HS; replace HO4_3 := aVk HO4_3 hkp HS; replace HO4_4 := aVk HO4_4 hkp HS; replace HO4_5 := aVk HO4_5 hkp HS; replace HO4_6 := aVk HO4_6 hkp HS; replace HO12_0 := aRk HO12_0 hkp HS; replace HO12_1 := aRk HO12_1 hkp HS; replace HO12_2 := aRk HO12_2 hkp HS; replace HO12_3 := aRk HO12_3 hkp HS; replace HO12_4 := aSk HO12_4 hkp HS; replace HO12_5 := aSk HO12_5 hkp HS; replace HO12_6 := aRk HO12_6 hkp HS; replace HO29_0 := aRk HO29_0 hkp HS; replace HO29_1 := aRk HO29_1 hkp HS; replace HO29_2 := aRk HO29_2 hkp HS; replace HO29_3 := aRk HO29_3 hkp HS; replace HO29_4 := aSk HO29_4 hkp HS; replace HO29_5 := aSk HO29_5 hkp HS; replace HO29_6 := aRk HO29_6 hkp HS; replace BK1 := aBk BK1 hkp HS; replace BK5 := aBk BK5 hkp HS; replace BK6 := aBk BK6 hkp HS; replace BK10 := aBk BK10 hkp HS; replace BK13 := aBk BK13 hkp HS; replace BK14 := aBk BK14 hkp HS; replace BK30 := aBk BK30 hkp HS; replace BK31 := A_.mk hbx; replace HB := A_.mk hbb; replace HS := aHs HS hkp.1; clear hkp hbb hbx q1_0 q1_1 q1_2 q1_3 q1_4 q1_5 q5_0 q5_1 q5_2 q5_3 q5_4 q5_5 q6_0 q6_1 q6_2 q6_3 q6_4 q6_5 q6_6 q6_7 q10_0 q10_1 q10_2 q10_3 q10_4 q10_5 q13_0 q13_1 q13_2 q13_3 q13_4 q13_5 q14_0 q14_1 q14_2 q14_3 q14_4 q14_5 q14_6 q14_7 q30_0 q30_1 q30_2 q30_3 q30_4 q30_5 q31_0 q31_1 q31_2 q31_3 q31_4 q31_5 q31_6 q31_7; obtain ⟨q1_0, q1_1, q1_2, q1_3, q1_4, q1_5⟩ := blk6_ BK1.out; obtain ⟨q5_0, q5_1, q5_2, q5_3, q5_4, q5_5⟩ := blk6_ BK5.out; obtain ⟨q6_0, q6_1, q6_2, q6_3, q6_4, q6_5, q6_6, q6_7⟩ := blk8_ BK6.out; obtain ⟨q10_0, q10_1, q10_2, q10_3, q10_4, q10_5⟩ := blk6_ BK10.out; obtain ⟨q13_0, q13_1, q13_2, q13_3, q13_4, q13_5⟩ := blk6_ BK13.out; obtain ⟨q14_0, q14_1, q14_2, q14_3, q14_4, q14_5, q14_6, q14_7⟩ := blk8_ BK14.out; obtain ⟨q30_0, q30_1, q30_2, q30_3, q30_4, q30_5⟩ := blk6_ BK30.out; obtain ⟨q31_0, q31_1, q31_2, q31_3, q31_4, q31_5, q31_6, q31_7⟩ := blk8_ BK31.out))
            (with_reducible refine (laws_eqChannel.calls k _ _ t79 _ _ t80 _ _ t81 _ _ t82 _ _ t83 _ _ t84 _ _ t8 _ _ t9 _ _ t10 _ _ t11 _ _ t12 _ _ t13 t94 _ (Kd.R_reads' HO29_0.out).2.2 (Kd.R_reads' HO29_0.out).2.1 (Kd.R_reads' HO29_1.out).2.2 (Kd.R_reads' HO29_1.out).2.1 (Kd.R_reads' HO29_2.out).2.2 (Kd.R_reads' HO29_2.out).2.1 (Kd.R_reads' HO29_3.out).2.2 (Kd.R_reads' HO29_3.out).2.1 (Kd.S_reads' HO29_4.out).2.2 (Kd.S_reads' HO29_4.out).2.1 (Kd.S_reads' HO29_5.out).2.2 (Kd.S_reads' HO29_5.out).2.1 (Kd.V_reads' HO4_0.out).2.2 (Kd.V_reads' HO4_0.out).2.1 (Kd.V_reads' HO4_1.out).2.2 (Kd.V_reads' HO4_1.out).2.1 (Kd.V_reads' HO4_2.out).2.2 (Kd.V_reads' HO4_2.out).2.1 (Kd.V_reads' HO4_3.out).2.2 (Kd.V_reads' HO4_3.out).2.1 (Kd.V_reads' HO4_4.out).2.2 (Kd.V_reads' HO4_4.out).2.1 (Kd.V_reads' HO4_5.out).2.2 (Kd.V_reads' HO4_5.out).2.1 A34.out).mono ?_)
            rintro e w34_ ⟨rfl, hb⟩
            replace HS := aHs HS hb.size
            replace HO4_0 := aVb HO4_0 hb
            replace HO4_1 := aVb HO4_1 hb
            replace HO4_2 := aVb HO4_2 hb
            replace HO4_3 := aVb HO4_3 hb
            replace HO4_4 := aVb HO4_4 hb
            replace HO4_5 := aVb HO4_5 hb
            replace HO4_6 := aVb HO4_6 hb
            replace HO12_0 := aRb HO12_0 hb
            replace HO12_1 := aRb HO12_1 hb
            replace HO12_2 := aRb HO12_2 hb
            replace HO12_3 := aRb HO12_3 hb
            replace HO12_4 := aSb HO12_4 hb
            replace HO12_5 := aSb HO12_5 hb
            replace HO12_6 := aRb HO12_6 hb
            replace HO29_0 := aRb HO29_0 hb
            replace HO29_1 := aRb HO29_1 hb
            replace HO29_2 := aRb HO29_2 hb
            replace HO29_3 := aRb HO29_3 hb
            replace HO29_4 := aSb HO29_4 hb
            replace HO29_5 := aSb HO29_5 hb
            replace HO29_6 := aRb HO29_6 hb
            replace BK1 := aBb BK1 hb
            replace BK5 := aBb BK5 hb
            replace BK6 := aBb BK6 hb
            replace BK10 := aBb BK10 hb
            replace BK13 := aBb BK13 hb
            replace BK14 := aBb BK14 hb
            replace BK30 := aBb BK30 hb
            replace BK31 := aBb BK31 hb
            replace HB := aHB HB hb
            clear hb  q1_0 q1_1 q1_2 q1_3 q1_4 q1_5 q5_0 q5_1 q5_2 q5_3 q5_4 q5_5 q6_0 q6_1 q6_2 q6_3 q6_4 q6_5 q6_6 q6_7 q10_0 q10_1 q10_2 q10_3 q10_4 q10_5 q13_0 q13_1 q13_2 q13_3 q13_4 q13_5 q14_0 q14_1 q14_2 q14_3 q14_4 q14_5 q14_6 q14_7 q30_0 q30_1 q30_2 q30_3 q30_4 q30_5 q31_0 q31_1 q31_2 q31_3 q31_4 q31_5 q31_6 q31_7
            obtain ⟨q1_0, q1_1, q1_2, q1_3, q1_4, q1_5⟩ := blk6_ BK1.out
            obtain ⟨q5_0, q5_1, q5_2, q5_3, q5_4, q5_5⟩ := blk6_ BK5.out
            obtain ⟨q6_0, q6_1, q6_2, q6_3, q6_4, q6_5, q6_6, q6_7⟩ := blk8_ BK6.out
            obtain ⟨q10_0, q10_1, q10_2, q10_3, q10_4, q10_5⟩ := blk6_ BK10.out
            obtain ⟨q13_0, q13_1, q13_2, q13_3, q13_4, q13_5⟩ := blk6_ BK13.out
            obtain ⟨q14_0, q14_1, q14_2, q14_3, q14_4, q14_5, q14_6, q14_7⟩ := blk8_ BK14.out
            obtain ⟨q30_0, q30_1, q30_2, q30_3, q30_4, q30_5⟩ := blk6_ BK30.out
            obtain ⟨q31_0, q31_1, q31_2, q31_3, q31_4, q31_5, q31_6, q31_7⟩ := blk8_ BK31.out
            replace H := H.out
            by_cases hc12_ : t94 = true
            case pos =>
             rw [if_pos hc12_] at H
             subst hc12_
             replace H := ob_ H
             obtain ⟨t95, A35_0, H⟩ := H
             have A35 := A_.mk A35_0
             clear A35_0
             replace H := A_.mk H
             go_wp2_with (fail)
             (with_reducible refine (laws_eqPacket.calls k t85 t86 t87 t88 t89 t90 t91 _ _ t92 t14 t15 t16 t17 t18 t19 t20 _ _ t21 t95 _ (Kd.R_reads' HO29_6.out).2.2 (Kd.R_reads' HO29_6.out).2.1 (Kd.V_reads' HO4_6.out).2.2 (Kd.V_reads' HO4_6.out).2.1 A35.out).mono ?_)
             rintro e w35_ ⟨rfl, hb⟩
             replace HS := aHs HS hb.size
             replace HO4_6 := aVb HO4_6 hb
             replace HO12_0 := aRb HO12_0 hb
             replace HO12_1 := aRb HO12_1 hb
             replace HO12_2 := aRb HO12_2 hb
             replace HO12_3 := aRb HO12_3 hb
             replace HO12_4 := aSb HO12_4 hb
             replace HO12_5 := aSb HO12_5 hb
             replace HO12_6 := aRb HO12_6 hb
             replace HO29_6 := aRb HO29_6 hb
             replace BK1 := aBb BK1 hb
             replace BK5 := aBb BK5 hb
             replace BK6 := aBb BK6 hb
             replace BK10 := aBb BK10 hb
             replace BK13 := aBb BK13 hb
             replace BK14 := aBb BK14 hb
             replace BK30 := aBb BK30 hb
             replace BK31 := aBb BK31 hb
             replace HB := aHB HB hb
             clear hb  q1_0 q1_1 q1_2 q1_3 q1_4 q1_5 q5_0 q5_1 q5_2 q5_3 q5_4 q5_5 q6_0 q6_1 q6_2 q6_3 q6_4 q6_5 q6_6 q6_7 q10_0 q10_1 q10_2 q10_3 q10_4 q10_5 q13_0 q13_1 q13_2 q13_3 q13_4 q13_5 q14_0 q14_1 q14_2 q14_3 q14_4 q14_5 q14_6 q14_7 q30_0 q30_1 q30_2 q30_3 q30_4 q30_5 q31_0 q31_1 q31_2 q31_3 q31_4 q31_5 q31_6 q31_7
             obtain ⟨q1_0, q1_1, q1_2, q1_3, q1_4, q1_5⟩ := blk6_ BK1.out
             obtain ⟨q5_0, q5_1, q5_2, q5_3, q5_4, q5_5⟩ := blk6_ BK5.out
             obtain ⟨q6_0, q6_1, q6_2, q6_3, q6_4, q6_5, q6_6, q6_7⟩ := blk8_ BK6.out
             obtain ⟨q10_0, q10_1, q10_2, q10_3, q10_4, q10_5⟩ := blk6_ BK10.out
             obtain ⟨q13_0, q13_1, q13_2, q13_3, q13_4, q13_5⟩ := blk6_ BK13.out
             obtain ⟨q14_0, q14_1, q14_2, q14_3, q14_4, q14_5, q14_6, q14_7⟩ := blk8_ BK14.out
             obtain ⟨q30_0, q30_1, q30_2, q30_3, q30_4, q30_5⟩ := blk6_ BK30.out
             obtain ⟨q31_0, q31_1, q31_2, q31_3, q31_4, q31_5, q31_6, q31_7⟩ := blk8_ BK31.out
             replace H := H.out
             by_cases hc13_ : t95 = true
             case pos =>
              rw [if_pos hc13_] at H
              subst hc13_
              by_cases hc14_ : t93 = t22
              case pos =>
               rw [if_pos hc14_] at H
               have hc14_b0 : (t93 == t22) = true := beq_iff_eq.mpr hc14_
               have hc14_b1 : (t93 != t22) = false := bne_eq_false_iff_eq.mpr hc14_
               replace hc14_ := A_.mk hc14_
               replace H := ob_ H
               obtain ⟨t96, A36_0, H⟩ := H
               have A36 := A_.mk A36_0
               clear A36_0
               replace H := A_.mk H
               go_wp2_with (fail)
               refine (calls_cast (by rw [LQHO12_0.out, LQHO12_1.out, LQHO12_2.out, LQHO12_3.out, LQHO12_4.out, LQHO12_5.out]) (laws_heldChannel.calls k _ _ t63 _ _ t64 _ _ t65 _ _ t66 _ _ t67 _ _ t68 1 t96 _ (Kd.R_reads' HO12_0.out).2.2 (by rw [LQHO12_0.out]; exact (Kd.R_reads' HO12_0.out).2.1) (Kd.R_reads' HO12_1.out).2.2 (by rw [LQHO12_1.out]; exact (Kd.R_reads' HO12_1.out).2.1) (Kd.R_reads' HO12_2.out).2.2 (by rw [LQHO12_2.out]; exact (Kd.R_reads' HO12_2.out).2.1) (Kd.R_reads' HO12_3.out).2.2 (by rw [LQHO12_3.out]; exact (Kd.R_reads' HO12_3.out).2.1) (Kd.S_reads' HO12_4.out).2.2 (by rw [LQHO12_4.out]; exact (Kd.S_reads' HO12_4.out).2.1) (Kd.S_reads' HO12_5.out).2.2 (by rw [LQHO12_5.out]; exact (Kd.S_reads' HO12_5.out).2.1) A36.out)).mono ?_
               rintro e w36_ ⟨rfl, hb⟩
               replace HS := aHs HS hb.size
               replace HO12_0 := aRb HO12_0 hb
               replace HO12_1 := aRb HO12_1 hb
               replace HO12_2 := aRb HO12_2 hb
               replace HO12_3 := aRb HO12_3 hb
               replace HO12_4 := aSb HO12_4 hb
               replace HO12_5 := aSb HO12_5 hb
               replace HO12_6 := aRb HO12_6 hb
               replace BK1 := aBb BK1 hb
               replace BK5 := aBb BK5 hb
               replace BK6 := aBb BK6 hb
               replace BK10 := aBb BK10 hb
               replace BK13 := aBb BK13 hb
               replace BK14 := aBb BK14 hb
               replace BK30 := aBb BK30 hb
               replace BK31 := aBb BK31 hb
               replace HB := aHB HB hb
               clear hb  q1_0 q1_1 q1_2 q1_3 q1_4 q1_5 q5_0 q5_1 q5_2 q5_3 q5_4 q5_5 q6_0 q6_1 q6_2 q6_3 q6_4 q6_5 q6_6 q6_7 q10_0 q10_1 q10_2 q10_3 q10_4 q10_5 q13_0 q13_1 q13_2 q13_3 q13_4 q13_5 q14_0 q14_1 q14_2 q14_3 q14_4 q14_5 q14_6 q14_7 q30_0 q30_1 q30_2 q30_3 q30_4 q30_5 q31_0 q31_1 q31_2 q31_3 q31_4 q31_5 q31_6 q31_7
               obtain ⟨q1_0, q1_1, q1_2, q1_3, q1_4, q1_5⟩ := blk6_ BK1.out
               obtain ⟨q5_0, q5_1, q5_2, q5_3, q5_4, q5_5⟩ := blk6_ BK5.out
               obtain ⟨q6_0, q6_1, q6_2, q6_3, q6_4, q6_5, q6_6, q6_7⟩ := blk8_ BK6.out
               obtain ⟨q10_0, q10_1, q10_2, q10_3, q10_4, q10_5⟩ := blk6_ BK10.out
               obtain ⟨q13_0, q13_1, q13_2, q13_3, q13_4, q13_5⟩ := blk6_ BK13.out
               obtain ⟨q14_0, q14_1, q14_2, q14_3, q14_4, q14_5, q14_6, q14_7⟩ := blk8_ BK14.out
               obtain ⟨q30_0, q30_1, q30_2, q30_3, q30_4, q30_5⟩ := blk6_ BK30.out
               obtain ⟨q31_0, q31_1, q31_2, q31_3, q31_4, q31_5, q31_6, q31_7⟩ := blk8_ BK31.out
               replace H := H.out
               by_cases hc15_ : t96 < 0
               case pos =>
                rw [if_pos hc15_] at H
                have hc15_b0 : decide (t96 < 0) = true := decide_eq_true hc15_
                exact absurd H (by simp)
               case neg =>
                rw [if_neg hc15_] at H
                have hc15_b0 : decide (t96 < 0) = false := decide_eq_false hc15_
                replace H := ob_ H
                obtain ⟨t97, A37_0, H⟩ := H
                have A37 := A_.mk A37_0
                clear A37_0
                replace H := A_.mk H
                go_wp2_with (fail)
                refine (calls_cast (by rw [LQHO12_6.out]) (laws_heldPacket.calls k t35 t36 t37 t38 t39 t40 t41 _ _ t70 t96 t97 _ (Kd.R_reads' HO12_6.out).2.2 (by rw [LQHO12_6.out]; exact (Kd.R_reads' HO12_6.out).2.1) A37.out)).mono ?_
                rintro e w37_ ⟨rfl, hb⟩
                replace HS := aHs HS hb.size
                replace HO12_6 := aRb HO12_6 hb
                replace BK1 := aBb BK1 hb
                replace BK5 := aBb BK5 hb
                replace BK6 := aBb BK6 hb
                replace BK10 := aBb BK10 hb
                replace BK13 := aBb BK13 hb
                replace BK14 := aBb BK14 hb
                replace BK30 := aBb BK30 hb
                replace BK31 := aBb BK31 hb
                replace HB := aHB HB hb
                clear hb  q1_0 q1_1 q1_2 q1_3 q1_4 q1_5 q5_0 q5_1 q5_2 q5_3 q5_4 q5_5 q6_0 q6_1 q6_2 q6_3 q6_4 q6_5 q6_6 q6_7 q10_0 q10_1 q10_2 q10_3 q10_4 q10_5 q13_0 q13_1 q13_2 q13_3 q13_4 q13_5 q14_0 q14_1 q14_2 q14_3 q14_4 q14_5 q14_6 q14_7 q30_0 q30_1 q30_2 q30_3 q30_4 q30_5 q31_0 q31_1 q31_2 q31_3 q31_4 q31_5 q31_6 q31_7
                obtain ⟨q1_0, q1_1, q1_2, q1_3, q1_4, q1_5⟩ := blk6_ BK1.out
                obtain ⟨q5_0, q5_1, q5_2, q5_3, q5_4, q5_5⟩ := blk6_ BK5.out
                obtain ⟨q6_0, q6_1, q6_2, q6_3, q6_4, q6_5, q6_6, q6_7⟩ := blk8_ BK6.out
                obtain ⟨q10_0, q10_1, q10_2, q10_3, q10_4, q10_5⟩ := blk6_ BK10.out
                obtain ⟨q13_0, q13_1, q13_2, q13_3, q13_4, q13_5⟩ := blk6_ BK13.out
                obtain ⟨q14_0, q14_1, q14_2, q14_3, q14_4, q14_5, q14_6, q14_7⟩ := blk8_ BK14.out
                obtain ⟨q30_0, q30_1, q30_2, q30_3, q30_4, q30_5⟩ := blk6_ BK30.out
                obtain ⟨q31_0, q31_1, q31_2, q31_3, q31_4, q31_5, q31_6, q31_7⟩ := blk8_ BK31.out
                replace H := H.out
                by_cases hc16_ : t97 < 0
                case pos =>
                 rw [if_pos hc16_] at H
                 have hc16_b0 : decide (t97 < 0) = true := decide_eq_true hc16_
                 exact absurd H (by simp)
                case neg =>
                 rw [if_neg hc16_] at H
                 have hc16_b0 : decide (t97 < 0) = false := decide_eq_false hc16_
                 by_cases hc17_ : t97 = t69
                 case pos =>
                  rw [if_pos hc17_] at H
                  have hc17_b0 : (t97 == t69) = true := beq_iff_eq.mpr hc17_
                  have hc17_bn : (t97 != t69) = false := bne_eq_false_iff_eq.mpr hc17_
                  replace hc17_ := A_.mk hc17_
                  clear H
                  go_wp2
                  go_ret
                  exact ⟨rfl, HB.out⟩
                 case neg =>
                  rw [if_neg hc17_] at H
                  have hc17_b0 : (t97 == t69) = false := beq_eq_false_iff_ne.mpr hc17_
                  have hc17_bn : (t97 != t69) = true := bne_iff_ne.mpr hc17_
                  exact absurd H (by simp)
              case neg =>
               rw [if_neg hc14_] at H
               have hc14_b0 : (t93 == t22) = false := beq_eq_false_iff_ne.mpr hc14_
               have hc14_b1 : (t93 != t22) = true := bne_iff_ne.mpr hc14_
               replace hc14_ := A_.mk hc14_
               exact absurd H (by simp)
             case neg =>
              rw [if_neg hc13_] at H
              replace hc13_ := eq_false_of_ne_true hc13_
              subst hc13_
              exact absurd H (by simp)
            case neg =>
             rw [if_neg hc12_] at H
             replace hc12_ := eq_false_of_ne_true hc12_
             subst hc12_
             exact absurd H (by simp)
           case neg =>
            rw [if_neg hc11_] at H
            have hc11_b0 : (t72 == t69) = false := beq_eq_false_iff_ne.mpr hc11_
            have hc11_bn : (t72 != t69) = true := bne_iff_ne.mpr hc11_
            exact absurd H (by simp)
        case neg =>
         rw [if_neg hc8_] at H
         replace hc8_ := eq_false_of_ne_true hc8_
         subst hc8_
         exact absurd H (by simp)
       case neg =>
        rw [if_neg hc7_] at H
        replace hc7_ := eq_false_of_ne_true hc7_
        subst hc7_
        exact absurd H (by simp)
     case neg =>
      rw [if_neg hc5_] at H
      replace hc5_ := eq_false_of_ne_true hc5_
      subst hc5_
      exact absurd H (by simp)
    case neg =>
     rw [if_neg hc4_] at H
     have hc4_b0 : (t43 == t22) = false := beq_eq_false_iff_ne.mpr hc4_
     have hc4_b1 : (t43 != t22) = true := bne_iff_ne.mpr hc4_
     replace hc4_ := A_.mk hc4_
     exact absurd H (by simp)
   case neg =>
    rw [if_neg hc3_] at H
    replace hc3_ := eq_false_of_ne_true hc3_
    subst hc3_
    exact absurd H (by simp)
  case neg =>
   rw [if_neg hc2_] at H
   replace hc2_ := eq_false_of_ne_true hc2_
   subst hc2_
   exact absurd H (by simp)
/-- THE ONE PURE STATEMENT of laws_FnExactFreePacket. -/
def laws_FnExactFreePacket.Pure : Prop := ∀ (l0_0 : List Int) (l0_1 : List Int) (l0_2 : List Int) (l0_3 : List Int) (l0_4 : List (S47)) (l0_5 : List (S47)) (a1 : Int), (l0_0.length ≤ 9223372036854775807 ∧ ∀ e333 ∈ l0_0, (Lit.int .i64 e333).wf = true) → (l0_1.length ≤ 9223372036854775807 ∧ ∀ e334 ∈ l0_1, (Lit.int .i64 e334).wf = true) → (l0_2.length ≤ 9223372036854775807 ∧ ∀ e335 ∈ l0_2, (Lit.int .i64 e335).wf = true) → (l0_3.length ≤ 9223372036854775807 ∧ ∀ e336 ∈ l0_3, (Lit.int .i64 e336).wf = true) → (l0_4.length ≤ 9223372036854775807 ∧ ∀ e337 ∈ l0_4, ((Lit.int .i64 e337.f0).wf = true) ∧ (((Lit.int .i64 e337.f1).wf = true) ∧ (((Lit.int .i64 e337.f2).wf = true) ∧ (((Lit.int .i64 e337.f3).wf = true) ∧ (((Lit.int .i64 e337.f4).wf = true) ∧ (((Lit.int .i64 e337.f5).wf = true) ∧ (((Lit.int .i64 e337.f6).wf = true) ∧ ((e337.f7.length ≤ 9223372036854775807 ∧ ∀ e338 ∈ e337.f7, (Lit.int .i64 e338).wf = true))))))))) → (l0_5.length ≤ 9223372036854775807 ∧ ∀ e339 ∈ l0_5, ((Lit.int .i64 e339.f0).wf = true) ∧ (((Lit.int .i64 e339.f1).wf = true) ∧ (((Lit.int .i64 e339.f2).wf = true) ∧ (((Lit.int .i64 e339.f3).wf = true) ∧ (((Lit.int .i64 e339.f4).wf = true) ∧ (((Lit.int .i64 e339.f5).wf = true) ∧ (((Lit.int .i64 e339.f6).wf = true) ∧ ((e339.f7.length ≤ 9223372036854775807 ∧ ∀ e340 ∈ e339.f7, (Lit.int .i64 e340).wf = true))))))))) → ((Lit.int .i64 a1).wf = true) → ∃ k, laws_FnExactFreePacket.f k l0_0 l0_1 l0_2 l0_3 l0_4 l0_5 a1 = some true

end Go.Proofs.Ytlombfmebinjbaa.PFnExactFreePacket
