-- Written by a program of this session (wip/xp): not trusted, Lean checks it.
import Derived.Test.YtlombfmebinjbaaPFnExactPutPacketx0
import Derived.Test.YtlombfmebinjbaaPFnExactPutPacketx1
import Derived.Test.YtlombfmebinjbaaPFnExactPutPacketx2
import Derived.Test.YtlombfmebinjbaaPFnExactPutPacketx3
import Derived.Test.YtlombfmebinjbaaPFnExactPutPacketx4
import Derived.Test.YtlombfmebinjbaaPFnExactPutPacketx6
import Derived.Test.YtlombfmebinjbaaPFnExactPutPacketx13
import Derived.Test.YtlombfmebinjbaaPFnExactPutPacketx22
namespace Go.Proofs.Ytlombfmebinjbaa.PFnExactPutPacket
open Go.RowKit Go.Proofs.YtlombfmebinjbaaW.PrintWords Go.Proofs.YtlombfmebinjbaaW.PrintLast Go.Proofs.YtlombfmebinjbaaW.PrintMore
attribute [local go_sem] max2_int min2_int max_two min_two max_three min_three max_four min_four   -- for this text's walks alone
set_option linter.unusedVariables false
set_option linter.unusedSimpArgs false

theorem calls_cast {P : Program} {n : Nat} {a b : Array Value} {w : World} {Q : Ending → World → Prop} (h : a = b) (hc : Calls P n a w Q) : Calls P n b w Q := h ▸ hc
/-! ### laws_FnExactPutPacket: function 6, all its calls in a row -/
def laws_FnExactPutPacket.f (k : Nat) (l0_0 : List Int) (l0_1 : List Int) (l0_2 : List Int) (l0_3 : List Int) (l0_4 : List (S47)) (l0_5 : List (S47)) (a1_0 : Int) (a1_1 : Int) (a1_2 : Int) (a1_3 : Int) (a1_4 : Int) (a1_5 : Int) (a1_6 : Int) (l1_7 : List Int) : Option (Bool) := ((laws_szChannel.f k l0_0 l0_1 l0_2 l0_3 l0_4 l0_5 1048576).bind fun t1 => (if t1 < 0 then (some true) else ((laws_szPacket.f k a1_0 a1_1 a1_2 a1_3 a1_4 a1_5 a1_6 l1_7 t1).bind fun t2 => (if t2 < 0 then (some true) else ((laws_toChannel.f k l0_0 l0_1 l0_2 l0_3 l0_4 l0_5).bind fun ⟨t3, t4, t5, t6, t7, t8⟩ => ((laws_toPacket.f k a1_0 a1_1 a1_2 a1_3 a1_4 a1_5 a1_6 l1_7).bind fun ⟨t9, t10, t11, t12, t13, t14, t15, t16⟩ => ((spec_PutPacket.f k t3 t4 t5 t6 t7 t8 t9 t10 t11 t12 t13 t14 t15 t16).bind fun ⟨t17, t18, t19, t20, t21, t22, t23⟩ => ((laws_toChannel.f k l0_0 l0_1 l0_2 l0_3 l0_4 l0_5).bind fun ⟨t24, t25, t26, t27, t28, t29⟩ => ((laws_toPacket.f k a1_0 a1_1 a1_2 a1_3 a1_4 a1_5 a1_6 l1_7).bind fun ⟨t30, t31, t32, t33, t34, t35, t36, t37⟩ => ((impl_PutPacket.f k t24 t25 t26 t27 t28 t29 t30 t31 t32 t33 t34 t35 t36 t37).bind fun ⟨t38, t39, t40, t41, t42, t43, t44⟩ => ((laws_eqChannel.f k t38 t39 t40 t41 t42 t43 t17 t18 t19 t20 t21 t22).bind fun t45 => (if t45 = true then (if t44 = t23 then ((laws_toChannel.f k l0_0 l0_1 l0_2 l0_3 l0_4 l0_5).bind fun ⟨t46, t47, t48, t49, t50, t51⟩ => ((laws_eqChannel.f k t24 t25 t26 t27 t28 t29 t46 t47 t48 t49 t50 t51).bind fun t52 => (if t52 = true then ((laws_toPacket.f k a1_0 a1_1 a1_2 a1_3 a1_4 a1_5 a1_6 l1_7).bind fun ⟨t53, t54, t55, t56, t57, t58, t59, t60⟩ => ((laws_eqPacket.f k t30 t31 t32 t33 t34 t35 t36 t37 t53 t54 t55 t56 t57 t58 t59 t60).bind fun t61 => (if t61 = true then ((laws_markChannel.f k t24 t25 t26 t27 t28 t29 1).bind fun ⟨t62, t63, t64, t65, t66, t67, t68⟩ => ((laws_markPacket.f k t30 t31 t32 t33 t34 t35 t36 t37 t62).bind fun ⟨t69, t70⟩ => (if t69 < 0 then (some false) else ((laws_eqChannel.f k t38 t39 t40 t41 t42 t43 t17 t18 t19 t20 t21 t22).bind fun t71 => (if t71 = true then ((laws_markChannel.f k t38 t39 t40 t41 t42 t43 1).bind fun ⟨t72, t73, t74, t75, t76, t77, t78⟩ => ((laws_heldChannel.f k t73 t74 t75 t76 t77 t78 1).bind fun t79 => (if t79 < 0 then (some false) else (if t79 = t72 then ((laws_toChannel.f k l0_0 l0_1 l0_2 l0_3 l0_4 l0_5).bind fun ⟨t80, t81, t82, t83, t84, t85⟩ => ((laws_toPacket.f k a1_0 a1_1 a1_2 a1_3 a1_4 a1_5 a1_6 l1_7).bind fun ⟨t86, t87, t88, t89, t90, t91, t92, t93⟩ => ((impl_PutPacket.f k t80 t81 t82 t83 t84 t85 t86 t87 t88 t89 t90 t91 t92 t93).bind fun ⟨t94, t95, t96, t97, t98, t99, t100⟩ => ((laws_eqChannel.f k t94 t95 t96 t97 t98 t99 t17 t18 t19 t20 t21 t22).bind fun t101 => (if t101 = true then (if t100 = t23 then ((laws_heldChannel.f k t73 t74 t75 t76 t77 t78 1).bind fun t102 => (if t102 < 0 then (some false) else (if t102 = t72 then (some true) else (some false)))) else (some false)) else (some false)))))) else (some false))))) else (some false)))))) else (some false)))) else (some false)))) else (some false)) else (some false)))))))))))))
set_option maxHeartbeats 8000000 in
set_option maxRecDepth 100000 in
theorem laws_FnExactPutPacket.calls (k : Nat) (A0_0 : Option Addr) (c0_0 : Nat) (l0_0 : List Int) (A0_1 : Option Addr) (c0_1 : Nat) (l0_1 : List Int) (A0_2 : Option Addr) (c0_2 : Nat) (l0_2 : List Int) (A0_3 : Option Addr) (c0_3 : Nat) (l0_3 : List Int) (A0_4 : Option Addr) (c0_4 : Nat) (l0_4 : List (S47)) (A0_5 : Option Addr) (c0_5 : Nat) (l0_5 : List (S47)) (a1_0 : Int) (a1_1 : Int) (a1_2 : Int) (a1_3 : Int) (a1_4 : Int) (a1_5 : Int) (a1_6 : Int) (A1_7 : Option Addr) (c1_7 : Nat) (l1_7 : List Int) (r : Bool) (w : World) (hr0_0 : Kd.C (Kd.int .i64) w A0_0 l0_0.length l0_0) (hc0_0 : l0_0.length ≤ c0_0) (hr0_1 : Kd.C (Kd.int .i64) w A0_1 l0_1.length l0_1) (hc0_1 : l0_1.length ≤ c0_1) (hr0_2 : Kd.C (Kd.int .i64) w A0_2 l0_2.length l0_2) (hc0_2 : l0_2.length ≤ c0_2) (hr0_3 : Kd.C (Kd.int .i64) w A0_3 l0_3.length l0_3) (hc0_3 : l0_3.length ≤ c0_3) (hr0_4 : Kd.C k47 w A0_4 l0_4.length l0_4) (hc0_4 : l0_4.length ≤ c0_4) (hr0_5 : Kd.C k47 w A0_5 l0_5.length l0_5) (hc0_5 : l0_5.length ≤ c0_5) (hr1_7 : Kd.C (Kd.int .i64) w A1_7 l1_7.length l1_7) (hc1_7 : l1_7.length ≤ c1_7) (hrt : A_ (r = true)) (h : laws_FnExactPutPacket.f k l0_0 l0_1 l0_2 l0_3 l0_4 l0_5 a1_0 a1_1 a1_2 a1_3 a1_4 a1_5 a1_6 l1_7 = some r) :
  Calls Try.prog 6 #[.agg #[.slice A0_0 l0_0.length c0_0, .slice A0_1 l0_1.length c0_1, .slice A0_2 l0_2.length c0_2, .slice A0_3 l0_3.length c0_3, .slice A0_4 l0_4.length c0_4, .slice A0_5 l0_5.length c0_5], .agg #[.int .i64 a1_0, .int .i64 a1_1, .int .i64 a1_2, .int .i64 a1_3, .int .i64 a1_4, .int .i64 a1_5, .int .i64 a1_6, .slice A1_7 l1_7.length c1_7]] w fun e w' => e = .returned (.bool r) ∧ Below w.heap.size w w' := by
 have HR0_0 := A_.mk hr0_0
 have HC0_0 := A_.mk hc0_0
 clear hr0_0 hc0_0
 have HR0_1 := A_.mk hr0_1
 have HC0_1 := A_.mk hc0_1
 clear hr0_1 hc0_1
 have HR0_2 := A_.mk hr0_2
 have HC0_2 := A_.mk hc0_2
 clear hr0_2 hc0_2
 have HR0_3 := A_.mk hr0_3
 have HC0_3 := A_.mk hc0_3
 clear hr0_3 hc0_3
 have HR0_4 := A_.mk hr0_4
 have HC0_4 := A_.mk hc0_4
 clear hr0_4 hc0_4
 have HR0_5 := A_.mk hr0_5
 have HC0_5 := A_.mk hc0_5
 clear hr0_5 hc0_5
 have HR1_7 := A_.mk hr1_7
 have HC1_7 := A_.mk hc1_7
 clear hr1_7 hc1_7
 obtain rfl := hrt.out
 clear hrt
 have HB := A_.mk (Below.refl w.heap.size w)
 unfold laws_FnExactPutPacket.f at h
 have H := h
 clear h
 replace H := oa_ H
 obtain ⟨t1, A3, H⟩ := H
 replace H := A_.mk H
 have hu27 := Try.underlying27
 have hu33 := Try.underlying33
 have hu38 := Try.underlying38
 have hu47 := Try.underlying47
 go_enter Try.func6, Try.ntmps6
 have HS := A_.mk (Nat.le_refl w.heap.size)
 go_wp2_with (first | ((with_reducible refine gd_ (N := 2) rfl ?_); refine by_ 2 (cs := #[.slice A0_0 l0_0.length c0_0, .slice A0_1 l0_1.length c0_1, .slice A0_2 l0_2.length c0_2, .slice A0_3 l0_3.length c0_3, .slice A0_4 l0_4.length c0_4, .slice A0_5 l0_5.length c0_5]) (t := 27) ?_; intro gb1_ hg w1_ hbox hb; replace HS := A_.mk (And.intro HS.out (show gb1_ = w.heap.size ∧ gb1_ < w1_.heap.size from ⟨hg, blk_lt hbox⟩)); replace HB := aHB HB hb; have BK1 := A_.mk hbox; clear hbox hb hg; have Q1 := blk6_ BK1.out) | ((with_reducible refine gd_ (N := 3) rfl ?_); refine by_ 3 (cs := #[.int .i64 a1_0, .int .i64 a1_1, .int .i64 a1_2, .int .i64 a1_3, .int .i64 a1_4, .int .i64 a1_5, .int .i64 a1_6, .slice A1_7 l1_7.length c1_7]) (t := 47) ?_; intro gb2_ hg w2_ hbox hb; replace HS := A_.mk (And.intro HS.out (show gb2_ = w1_.heap.size ∧ gb2_ < w2_.heap.size from ⟨hg, blk_lt hbox⟩)); replace BK1 := aBb BK1 hb; replace HB := aHB HB hb; have BK2 := A_.mk hbox; clear hbox hb hg Q1; have Q1 := blk6_ BK1.out; have Q2 := blk8_ BK2.out))
 (with_reducible refine (laws_szChannel.calls k _ _ l0_0 _ _ l0_1 _ _ l0_2 _ _ l0_3 _ _ l0_4 _ _ l0_5 1048576 t1 _ (Kd.C_below HR0_0.out HB.out) HC0_0.out (Kd.C_below HR0_1.out HB.out) HC0_1.out (Kd.C_below HR0_2.out HB.out) HC0_2.out (Kd.C_below HR0_3.out HB.out) HC0_3.out (Kd.C_below HR0_4.out HB.out) HC0_4.out (Kd.C_below HR0_5.out HB.out) HC0_5.out A3.out).mono ?_)
 rintro e w3_ ⟨rfl, hb⟩
 replace HS := aHs HS hb.size
 replace BK1 := aBb BK1 hb
 replace BK2 := aBb BK2 hb
 replace HB := aHB HB hb
 clear hb  Q1 Q2
 have Q1 := blk6_ BK1.out
 have Q2 := blk8_ BK2.out
 replace H := H.out
 by_cases hc1_ : t1 < 0
 case pos =>
  rw [if_pos hc1_] at H
  have hc1_b0 : decide (t1 < 0) = true := decide_eq_true hc1_
  clear H
  go_wp2
  go_ret
  exact ⟨rfl, HB.out⟩
 rw [if_neg hc1_] at H
 have hc1_b0 : decide (t1 < 0) = false := decide_eq_false hc1_
 replace H := oa_ H
 obtain ⟨t2, A4, H⟩ := H
 replace H := A_.mk H
 go_wp2_with (fail)
 (with_reducible refine (laws_szPacket.calls k a1_0 a1_1 a1_2 a1_3 a1_4 a1_5 a1_6 _ _ l1_7 t1 t2 _ (Kd.C_below HR1_7.out HB.out) HC1_7.out A4.out).mono ?_)
 rintro e w4_ ⟨rfl, hb⟩
 replace HS := aHs HS hb.size
 replace BK1 := aBb BK1 hb
 replace BK2 := aBb BK2 hb
 replace HB := aHB HB hb
 clear hb  Q1 Q2
 have Q1 := blk6_ BK1.out
 have Q2 := blk8_ BK2.out
 replace H := H.out
 by_cases hc2_ : t2 < 0
 case pos =>
  rw [if_pos hc2_] at H
  have hc2_b0 : decide (t2 < 0) = true := decide_eq_true hc2_
  clear H
  go_wp2
  go_ret
  exact ⟨rfl, HB.out⟩
 rw [if_neg hc2_] at H
 have hc2_b0 : decide (t2 < 0) = false := decide_eq_false hc2_
 replace H := oa_ H
 obtain ⟨⟨t3, t4, t5, t6, t7, t8⟩, A5, H⟩ := H
 try dsimp only at H
 replace H := oa_ H
 obtain ⟨⟨t9, t10, t11, t12, t13, t14, t15, t16⟩, A6, H⟩ := H
 try dsimp only at H
 replace H := oa_ H
 obtain ⟨⟨t17, t18, t19, t20, t21, t22, t23⟩, A7, H⟩ := H
 try dsimp only at H
 replace H := oa_ H
 obtain ⟨⟨t24, t25, t26, t27, t28, t29⟩, A10, H⟩ := H
 try dsimp only at H
 replace H := oa_ H
 obtain ⟨⟨t30, t31, t32, t33, t34, t35, t36, t37⟩, A13, H⟩ := H
 try dsimp only at H
 replace H := oa_ H
 obtain ⟨⟨t38, t39, t40, t41, t42, t43, t44⟩, A16, H⟩ := H
 try dsimp only at H
 replace H := oa_ H
 obtain ⟨t45, A19, H⟩ := H
 replace H := A_.mk H
 go_wp2_with (fail)
 refine start_ (n := 11) (S := fun w' => (w'.cell? ⟨gb1_, 0, none⟩ = some (.slice A0_0 l0_0.length c0_0) ∧ w'.cell? ⟨gb1_, 1, none⟩ = some (.slice A0_1 l0_1.length c0_1) ∧ w'.cell? ⟨gb1_, 2, none⟩ = some (.slice A0_2 l0_2.length c0_2) ∧ w'.cell? ⟨gb1_, 3, none⟩ = some (.slice A0_3 l0_3.length c0_3) ∧ w'.cell? ⟨gb1_, 4, none⟩ = some (.slice A0_4 l0_4.length c0_4) ∧ w'.cell? ⟨gb1_, 5, none⟩ = some (.slice A0_5 l0_5.length c0_5)) ∧ (w'.cell? ⟨gb2_, 0, none⟩ = some (.int .i64 a1_0) ∧ w'.cell? ⟨gb2_, 1, none⟩ = some (.int .i64 a1_1) ∧ w'.cell? ⟨gb2_, 2, none⟩ = some (.int .i64 a1_2) ∧ w'.cell? ⟨gb2_, 3, none⟩ = some (.int .i64 a1_3) ∧ w'.cell? ⟨gb2_, 4, none⟩ = some (.int .i64 a1_4) ∧ w'.cell? ⟨gb2_, 5, none⟩ = some (.int .i64 a1_5) ∧ w'.cell? ⟨gb2_, 6, none⟩ = some (.int .i64 a1_6) ∧ w'.cell? ⟨gb2_, 7, none⟩ = some (.slice A1_7 l1_7.length c1_7))) (ds := [9]) #[F, F, F, F, F, F, F, F, F, F, F] (by kernel_rfl) rfl rfl ⟨blk6_ BK1.out, blk8_ BK2.out⟩ (fun hHeld => ?_)
 clear Q1 Q2
 have hb := below_drew (Below.refl w4_.heap.size w4_)
 replace HS := aHs HS hb.size
 replace BK1 := aBb BK1 hb
 replace BK2 := aBb BK2 hb
 replace HB := aHB HB hb
 clear hb
 generalize w4_.drew = w36d_ at BK1 BK2 HB HS hHeld ⊢
 refine tl_ (i := 0) (N := some 28) #[T, F, F, F, F, F, F, F, F, F, F] rfl hHeld ?_
 refine tl_ (i := 2) (N := some 30) #[T, F, T, F, F, F, F, F, F, F, F] rfl hHeld ?_
 refine join_ (σ := Value × Value × Value × Value × Value × Value × Value × Value × Value × Value × Value × Value × Value × Nat × Nat × Nat) 2 #[T, T, T, T, T, T, T, T, T, F, F] (fun s_ => [(29, .agg #[s_.1, s_.2.1, s_.2.2.1, s_.2.2.2.1, s_.2.2.2.2.1, s_.2.2.2.2.2.1]), (31, .agg #[.int .i64 t9, .int .i64 t10, .int .i64 t11, .int .i64 t12, .int .i64 t13, .int .i64 t14, .int .i64 t15, s_.2.2.2.2.2.2.1]), (32, .tuple #[.agg #[s_.2.2.2.2.2.2.2.1, s_.2.2.2.2.2.2.2.2.1, s_.2.2.2.2.2.2.2.2.2.1, s_.2.2.2.2.2.2.2.2.2.2.1, s_.2.2.2.2.2.2.2.2.2.2.2.1, s_.2.2.2.2.2.2.2.2.2.2.2.2.1], .bool t23]), (27, .tuple #[.agg #[s_.2.2.2.2.2.2.2.1, s_.2.2.2.2.2.2.2.2.1, s_.2.2.2.2.2.2.2.2.2.1, s_.2.2.2.2.2.2.2.2.2.2.1, s_.2.2.2.2.2.2.2.2.2.2.2.1, s_.2.2.2.2.2.2.2.2.2.2.2.2.1], .bool t23]), (33, .agg #[s_.2.2.2.2.2.2.2.1, s_.2.2.2.2.2.2.2.2.1, s_.2.2.2.2.2.2.2.2.2.1, s_.2.2.2.2.2.2.2.2.2.2.1, s_.2.2.2.2.2.2.2.2.2.2.2.1, s_.2.2.2.2.2.2.2.2.2.2.2.2.1]), (34, .bool t23), (6, .pointer (some ⟨s_.2.2.2.2.2.2.2.2.2.2.2.2.2.1, 0, none⟩))]) (fun s_ w' => ((w'.cell? ⟨gb1_, 0, none⟩ = some (.slice A0_0 l0_0.length c0_0) ∧ w'.cell? ⟨gb1_, 1, none⟩ = some (.slice A0_1 l0_1.length c0_1) ∧ w'.cell? ⟨gb1_, 2, none⟩ = some (.slice A0_2 l0_2.length c0_2) ∧ w'.cell? ⟨gb1_, 3, none⟩ = some (.slice A0_3 l0_3.length c0_3) ∧ w'.cell? ⟨gb1_, 4, none⟩ = some (.slice A0_4 l0_4.length c0_4) ∧ w'.cell? ⟨gb1_, 5, none⟩ = some (.slice A0_5 l0_5.length c0_5)) ∧ (w'.cell? ⟨gb2_, 0, none⟩ = some (.int .i64 a1_0) ∧ w'.cell? ⟨gb2_, 1, none⟩ = some (.int .i64 a1_1) ∧ w'.cell? ⟨gb2_, 2, none⟩ = some (.int .i64 a1_2) ∧ w'.cell? ⟨gb2_, 3, none⟩ = some (.int .i64 a1_3) ∧ w'.cell? ⟨gb2_, 4, none⟩ = some (.int .i64 a1_4) ∧ w'.cell? ⟨gb2_, 5, none⟩ = some (.int .i64 a1_5) ∧ w'.cell? ⟨gb2_, 6, none⟩ = some (.int .i64 a1_6) ∧ w'.cell? ⟨gb2_, 7, none⟩ = some (.slice A1_7 l1_7.length c1_7))) ∧ w'.heap[gb1_]? = some (.cells #[.slice A0_0 l0_0.length c0_0, .slice A0_1 l0_1.length c0_1, .slice A0_2 l0_2.length c0_2, .slice A0_3 l0_3.length c0_3, .slice A0_4 l0_4.length c0_4, .slice A0_5 l0_5.length c0_5] 27 (0, 0)) ∧ w'.heap[gb2_]? = some (.cells #[.int .i64 a1_0, .int .i64 a1_1, .int .i64 a1_2, .int .i64 a1_3, .int .i64 a1_4, .int .i64 a1_5, .int .i64 a1_6, .slice A1_7 l1_7.length c1_7] 47 (0, 0)) ∧ Below w.heap.size w w' ∧ w36d_.heap.size ≤ w'.heap.size ∧ (w36d_.heap.size ≤ s_.2.2.2.2.2.2.2.2.2.2.2.2.2.2.1 ∧ s_.2.2.2.2.2.2.2.2.2.2.2.2.2.2.1 ≤ s_.2.2.2.2.2.2.2.2.2.2.2.2.2.2.2 ∧ s_.2.2.2.2.2.2.2.2.2.2.2.2.2.2.2 ≤ w'.heap.size) ∧ Kd.V (Kd.int .i64) 3 w' w.heap.size (fun k_ => (s_.2.2.2.2.2.2.2.2.2.2.2.2.2.2.1 ≤ k_ ∧ k_ < s_.2.2.2.2.2.2.2.2.2.2.2.2.2.2.2)) s_.2.2.2.2.2.2.2.1 t17 ∧ Kd.V (Kd.int .i64) 3 w' w.heap.size (fun k_ => (s_.2.2.2.2.2.2.2.2.2.2.2.2.2.2.1 ≤ k_ ∧ k_ < s_.2.2.2.2.2.2.2.2.2.2.2.2.2.2.2)) s_.2.2.2.2.2.2.2.2.1 t18 ∧ Kd.V (Kd.int .i64) 3 w' w.heap.size (fun k_ => (s_.2.2.2.2.2.2.2.2.2.2.2.2.2.2.1 ≤ k_ ∧ k_ < s_.2.2.2.2.2.2.2.2.2.2.2.2.2.2.2)) s_.2.2.2.2.2.2.2.2.2.1 t19 ∧ Kd.V (Kd.int .i64) 3 w' w.heap.size (fun k_ => (s_.2.2.2.2.2.2.2.2.2.2.2.2.2.2.1 ≤ k_ ∧ k_ < s_.2.2.2.2.2.2.2.2.2.2.2.2.2.2.2)) s_.2.2.2.2.2.2.2.2.2.2.1 t20 ∧ Kd.V k38 38 w' w.heap.size (fun k_ => (s_.2.2.2.2.2.2.2.2.2.2.2.2.2.2.1 ≤ k_ ∧ k_ < s_.2.2.2.2.2.2.2.2.2.2.2.2.2.2.2)) s_.2.2.2.2.2.2.2.2.2.2.2.1 t21 ∧ Kd.V k38 38 w' w.heap.size (fun k_ => (s_.2.2.2.2.2.2.2.2.2.2.2.2.2.2.1 ≤ k_ ∧ k_ < s_.2.2.2.2.2.2.2.2.2.2.2.2.2.2.2)) s_.2.2.2.2.2.2.2.2.2.2.2.2.1 t22 ∧ w'.heap[s_.2.2.2.2.2.2.2.2.2.2.2.2.2.1]? = some (.cells #[.slice none 0 0, .slice none 0 0, .slice none 0 0, .slice none 0 0, .slice none 0 0, .slice none 0 0] 33 (0, 0)) ∧ (w36d_.heap.size ≤ s_.2.2.2.2.2.2.2.2.2.2.2.2.2.1 ∧ s_.2.2.2.2.2.2.2.2.2.2.2.2.2.1 < w'.heap.size ∧ (s_.2.2.2.2.2.2.2.2.2.2.2.2.2.1 < s_.2.2.2.2.2.2.2.2.2.2.2.2.2.2.1 ∨ s_.2.2.2.2.2.2.2.2.2.2.2.2.2.2.2 ≤ s_.2.2.2.2.2.2.2.2.2.2.2.2.2.1))) ?_ ?_
 rotate_left
 ·intro hCont
  refine two_ (i := 1) (j := 8) (Ni := some 29) (Nj := some 6) #[T, T, T, F, F, F, F, F, F, F, F] #[T, F, T, F, F, F, F, F, T, F, F] rfl rfl rfl rfl (by kernel_rfl) (by decide) (by decide) (fun K hK => ?_) (fun K hK => ?_)
  ·skip
   refine gz_ Try.func10 #[.agg #[.slice A0_0 l0_0.length c0_0, .slice A0_1 l0_1.length c0_1, .slice A0_2 l0_2.length c0_2, .slice A0_3 l0_3.length c0_3, .slice A0_4 l0_4.length c0_4, .slice A0_5 l0_5.length c0_5]] ?_
   with_reducible refine (laws_toChannel.calls k _ _ l0_0 _ _ l0_1 _ _ l0_2 _ _ l0_3 _ _ l0_4 _ _ l0_5 t3 t4 t5 t6 t7 t8 _ (Kd.C_below HR0_0.out HB.out) HC0_0.out (Kd.C_below HR0_1.out HB.out) HC0_1.out (Kd.C_below HR0_2.out HB.out) HC0_2.out (Kd.C_below HR0_3.out HB.out) HC0_3.out (Kd.C_below HR0_4.out HB.out) HC0_4.out (Kd.C_below HR0_5.out HB.out) HC0_5.out A5.out).mono ?_
   rintro e w5_ ⟨f5_, v0_, v1_, v2_, v3_, v4_, v5_, rfl, ho0_, ho1_, ho2_, ho3_, ho4_, ho5_, hb⟩
   refine ⟨_, rfl, ?_⟩
   replace HS := aHs HS hb.size
   obtain ⟨Ao5_0, co5_0, ev_⟩ := Kd.R_slice ho0_
   subst ev_
   have HO5_0 := aRn ho0_ HB.out.size
   obtain ⟨Ao5_1, co5_1, ev_⟩ := Kd.R_slice ho1_
   subst ev_
   have HO5_1 := aRn ho1_ HB.out.size
   obtain ⟨Ao5_2, co5_2, ev_⟩ := Kd.R_slice ho2_
   subst ev_
   have HO5_2 := aRn ho2_ HB.out.size
   obtain ⟨Ao5_3, co5_3, ev_⟩ := Kd.R_slice ho3_
   subst ev_
   have HO5_3 := aRn ho3_ HB.out.size
   obtain ⟨Ao5_4, co5_4, ev_⟩ := Kd.S_slice ho4_
   subst ev_
   have HO5_4 := aSn ho4_ HB.out.size
   obtain ⟨Ao5_5, co5_5, ev_⟩ := Kd.S_slice ho5_
   subst ev_
   have HO5_5 := aSn ho5_ HB.out.size
   replace BK1 := aBb BK1 hb
   replace BK2 := aBb BK2 hb
   replace HB := aHB HB hb
   clear hb ho0_ ho1_ ho2_ ho3_ ho4_ ho5_
   refine hK.out _ _ ⟨blk6_ BK1.out, blk8_ BK2.out⟩ (fun hHeld => ?_)
   clear hK K
   refine nm_ ?_
   refine two_ (i := 3) (j := 8) (Ni := some 31) (Nj := some 6) #[T, T, T, T, F, F, F, F, F, F, F] #[T, T, T, F, F, F, F, F, T, F, F] rfl rfl rfl rfl (by kernel_rfl) (by decide) (by decide) (fun K hK => ?_) (fun K hK => ?_)
   ·skip
    refine gz_ Try.func24 #[.agg #[.int .i64 a1_0, .int .i64 a1_1, .int .i64 a1_2, .int .i64 a1_3, .int .i64 a1_4, .int .i64 a1_5, .int .i64 a1_6, .slice A1_7 l1_7.length c1_7]] ?_
    with_reducible refine (laws_toPacket.calls k a1_0 a1_1 a1_2 a1_3 a1_4 a1_5 a1_6 _ _ l1_7 t9 t10 t11 t12 t13 t14 t15 t16 _ (Kd.C_below HR1_7.out HB.out) HC1_7.out A6.out).mono ?_
    rintro e w6_ ⟨v7_, rfl, ho0_, hb⟩
    refine ⟨_, rfl, ?_⟩
    replace HS := aHs HS hb.size
    obtain ⟨Ao6_7, co6_7, ev_⟩ := Kd.R_slice ho0_
    subst ev_
    have HO6_7 := aRm ho0_ HB.out.size
    replace HO5_0 := aRb HO5_0 hb
    replace HO5_1 := aRb HO5_1 hb
    replace HO5_2 := aRb HO5_2 hb
    replace HO5_3 := aRb HO5_3 hb
    replace HO5_4 := aSb HO5_4 hb
    replace HO5_5 := aSb HO5_5 hb
    replace BK1 := aBb BK1 hb
    replace BK2 := aBb BK2 hb
    replace HB := aHB HB hb
    clear hb ho0_
    refine hK.out _ _ ⟨blk6_ BK1.out, blk8_ BK2.out⟩ (fun hHeld => ?_)
    clear hK K
    refine nm_ ?_
    refine two_ (i := 4) (j := 8) (Ni := some 32) (Nj := some 6) #[T, T, T, T, T, F, F, F, F, F, F] #[T, T, T, T, F, F, F, F, T, F, F] rfl rfl rfl rfl (by kernel_rfl) (by decide) (by decide) (fun K hK => ?_) (fun K hK => ?_)
    ·skip
     refine gz_ Try.func23 #[.agg #[.slice Ao5_0 t3.length co5_0, .slice Ao5_1 t4.length co5_1, .slice Ao5_2 t5.length co5_2, .slice Ao5_3 t6.length co5_3, .slice Ao5_4 t7.length co5_4, .slice Ao5_5 t8.length co5_5], .agg #[.int .i64 t9, .int .i64 t10, .int .i64 t11, .int .i64 t12, .int .i64 t13, .int .i64 t14, .int .i64 t15, .slice Ao6_7 t16.length co6_7]] ?_
     with_reducible refine (spec_PutPacket.calls k _ _ t3 _ _ t4 _ _ t5 _ _ t6 (fun k_ => ((w36d_.heap.size ≤ k_ ∧ k_ < w5_.heap.size) ∧ f5_ k_ = 4)) _ _ t7 (fun k_ => ((w36d_.heap.size ≤ k_ ∧ k_ < w5_.heap.size) ∧ f5_ k_ = 5)) _ _ t8 t9 t10 t11 t12 t13 t14 t15 _ _ t16 t17 t18 t19 t20 t21 t22 t23 _ (Kd.R_reads' HO5_0.out).2.2 (Kd.R_reads' HO5_0.out).2.1 (Kd.R_reads' HO5_1.out).2.2 (Kd.R_reads' HO5_1.out).2.1 (Kd.R_reads' HO5_2.out).2.2 (Kd.R_reads' HO5_2.out).2.1 (Kd.R_reads' HO5_3.out).2.2 (Kd.R_reads' HO5_3.out).2.1 (Kd.S_V HO5_4.out) (Kd.S_V HO5_5.out) (Kd.R_reads' HO6_7.out).2.2 (Kd.R_reads' HO6_7.out).2.1 A7.out).mono ?_
     rintro e w7_ ⟨v0_, v1_, v2_, v3_, v4_, v5_, rfl, ho0_, ho1_, ho2_, ho3_, ho4_, ho5_, hb⟩
     refine ⟨_, rfl, ?_⟩
     replace HS := aHs HS hb.size
     obtain ⟨Ao7_0, co7_0, ev_⟩ := Kd.V_slice ho0_
     subst ev_
     have HO7_0 := aVm ho0_ HB.out.size
     obtain ⟨Ao7_1, co7_1, ev_⟩ := Kd.V_slice ho1_
     subst ev_
     have HO7_1 := aVm ho1_ HB.out.size
     obtain ⟨Ao7_2, co7_2, ev_⟩ := Kd.V_slice ho2_
     subst ev_
     have HO7_2 := aVm ho2_ HB.out.size
     obtain ⟨Ao7_3, co7_3, ev_⟩ := Kd.V_slice ho3_
     subst ev_
     have HO7_3 := aVm ho3_ HB.out.size
     obtain ⟨Ao7_4, co7_4, ev_⟩ := Kd.V_slice ho4_
     subst ev_
     have HO7_4 := aVm ho4_ HB.out.size
     obtain ⟨Ao7_5, co7_5, ev_⟩ := Kd.V_slice ho5_
     subst ev_
     have HO7_5 := aVm ho5_ HB.out.size
     replace HO5_0 := aRb HO5_0 hb
     replace HO5_1 := aRb HO5_1 hb
     replace HO5_2 := aRb HO5_2 hb
     replace HO5_3 := aRb HO5_3 hb
     replace HO5_4 := aSb HO5_4 hb
     replace HO5_5 := aSb HO5_5 hb
     replace HO6_7 := aRb HO6_7 hb
     replace BK1 := aBb BK1 hb
     replace BK2 := aBb BK2 hb
     replace HB := aHB HB hb
     clear hb ho0_ ho1_ ho2_ ho3_ ho4_ ho5_
     refine hK.out _ _ ⟨blk6_ BK1.out, blk8_ BK2.out⟩ (fun hHeld => ?_)
     clear hK K
     refine nm_ ?_
     refine pd_ (i := 5) (N := some 27) #[T, T, T, T, T, T, F, F, F, F, F] rfl ?_
     refine pd_ (i := 6) (N := some 33) #[T, T, T, T, T, T, T, F, F, F, F] rfl ?_
     refine pd_ (i := 7) (N := some 34) #[T, T, T, T, T, T, T, T, F, F, F] rfl ?_
     refine on_ (i := 8) (N := some 6) #[T, T, T, T, T, T, T, T, T, F, F] rfl (fun K hK => ?_)
     refine box_step ?hg (N := 6) ?hd (cs := #[.slice none 0 0, .slice none 0 0, .slice none 0 0, .slice none 0 0, .slice none 0 0, .slice none 0 0]) (t := 33) ?hr ?_; (case hd => rfl); (case hg => rfl); (case hr => first | (go_simp; done) | (go_simp; rfl))
     intro gb8_ hg w8_ hbox hb
     replace HS := A_.mk (And.intro HS.out (show gb8_ = w7_.heap.size ∧ gb8_ < w8_.heap.size from ⟨hg, blk_lt hbox⟩))
     replace HO5_0 := aRb HO5_0 hb
     replace HO5_1 := aRb HO5_1 hb
     replace HO5_2 := aRb HO5_2 hb
     replace HO5_3 := aRb HO5_3 hb
     replace HO5_4 := aSb HO5_4 hb
     replace HO5_5 := aSb HO5_5 hb
     replace HO6_7 := aRb HO6_7 hb
     replace HO7_0 := aVb HO7_0 hb
     replace HO7_1 := aVb HO7_1 hb
     replace HO7_2 := aVb HO7_2 hb
     replace HO7_3 := aVb HO7_3 hb
     replace HO7_4 := aVb HO7_4 hb
     replace HO7_5 := aVb HO7_5 hb
     replace BK1 := aBb BK1 hb
     replace BK2 := aBb BK2 hb
     replace HB := aHB HB hb
     have BK8 := A_.mk hbox
     clear hbox hb hg
     refine hK.out _ _ ⟨blk6_ BK1.out, blk8_ BK2.out⟩ (fun hHeld => ?_)
     clear hK K
     refine nm_ ?_
     exact norm_ (by simp only [putAll, Act.put, List.setIfInBounds_toArray, List.set_cons_zero, List.set_cons_succ]) (hCont (.slice Ao5_0 t3.length co5_0, .slice Ao5_1 t4.length co5_1, .slice Ao5_2 t5.length co5_2, .slice Ao5_3 t6.length co5_3, .slice Ao5_4 t7.length co5_4, .slice Ao5_5 t8.length co5_5, .slice Ao6_7 t16.length co6_7, .slice Ao7_0 t17.length co7_0, .slice Ao7_1 t18.length co7_1, .slice Ao7_2 t19.length co7_2, .slice Ao7_3 t20.length co7_3, .slice Ao7_4 t21.length co7_4, .slice Ao7_5 t22.length co7_5, gb8_, (w6_.heap.size), (w7_.heap.size)) _ ⟨hHeld, BK1.out, BK2.out, HB.out, (by have := HS.out; omega), (by have := HS.out; (try dsimp only); omega), HO7_0.out, HO7_1.out, HO7_2.out, HO7_3.out, HO7_4.out, HO7_5.out, BK8.out, (by have := HS.out; (try dsimp only); omega)⟩)
    ·skip
     refine box_step ?hg (N := 6) ?hd (cs := #[.slice none 0 0, .slice none 0 0, .slice none 0 0, .slice none 0 0, .slice none 0 0, .slice none 0 0]) (t := 33) ?hr ?_; (case hd => rfl); (case hg => rfl); (case hr => first | (go_simp; done) | (go_simp; rfl))
     intro gb8_ hg w8_ hbox hb
     replace HS := A_.mk (And.intro HS.out (show gb8_ = w6_.heap.size ∧ gb8_ < w8_.heap.size from ⟨hg, blk_lt hbox⟩))
     replace HO5_0 := aRb HO5_0 hb
     replace HO5_1 := aRb HO5_1 hb
     replace HO5_2 := aRb HO5_2 hb
     replace HO5_3 := aRb HO5_3 hb
     replace HO5_4 := aSb HO5_4 hb
     replace HO5_5 := aSb HO5_5 hb
     replace HO6_7 := aRb HO6_7 hb
     replace BK1 := aBb BK1 hb
     replace BK2 := aBb BK2 hb
     replace HB := aHB HB hb
     have BK8 := A_.mk hbox
     clear hbox hb hg
     refine hK.out _ _ ⟨blk6_ BK1.out, blk8_ BK2.out⟩ (fun hHeld => ?_)
     clear hK K
     refine nm_ ?_
     refine on_ (i := 4) (N := some 32) #[T, T, T, T, T, F, F, F, T, F, F] rfl (fun K hK => ?_)
     refine gz_ Try.func23 #[.agg #[.slice Ao5_0 t3.length co5_0, .slice Ao5_1 t4.length co5_1, .slice Ao5_2 t5.length co5_2, .slice Ao5_3 t6.length co5_3, .slice Ao5_4 t7.length co5_4, .slice Ao5_5 t8.length co5_5], .agg #[.int .i64 t9, .int .i64 t10, .int .i64 t11, .int .i64 t12, .int .i64 t13, .int .i64 t14, .int .i64 t15, .slice Ao6_7 t16.length co6_7]] ?_
     with_reducible refine (spec_PutPacket.calls k _ _ t3 _ _ t4 _ _ t5 _ _ t6 (fun k_ => ((w36d_.heap.size ≤ k_ ∧ k_ < w5_.heap.size) ∧ f5_ k_ = 4)) _ _ t7 (fun k_ => ((w36d_.heap.size ≤ k_ ∧ k_ < w5_.heap.size) ∧ f5_ k_ = 5)) _ _ t8 t9 t10 t11 t12 t13 t14 t15 _ _ t16 t17 t18 t19 t20 t21 t22 t23 _ (Kd.R_reads' HO5_0.out).2.2 (Kd.R_reads' HO5_0.out).2.1 (Kd.R_reads' HO5_1.out).2.2 (Kd.R_reads' HO5_1.out).2.1 (Kd.R_reads' HO5_2.out).2.2 (Kd.R_reads' HO5_2.out).2.1 (Kd.R_reads' HO5_3.out).2.2 (Kd.R_reads' HO5_3.out).2.1 (Kd.S_V HO5_4.out) (Kd.S_V HO5_5.out) (Kd.R_reads' HO6_7.out).2.2 (Kd.R_reads' HO6_7.out).2.1 A7.out).mono ?_
     rintro e w7_ ⟨v0_, v1_, v2_, v3_, v4_, v5_, rfl, ho0_, ho1_, ho2_, ho3_, ho4_, ho5_, hb⟩
     refine ⟨_, rfl, ?_⟩
     replace HS := aHs HS hb.size
     obtain ⟨Ao7_0, co7_0, ev_⟩ := Kd.V_slice ho0_
     subst ev_
     have HO7_0 := aVm ho0_ HB.out.size
     obtain ⟨Ao7_1, co7_1, ev_⟩ := Kd.V_slice ho1_
     subst ev_
     have HO7_1 := aVm ho1_ HB.out.size
     obtain ⟨Ao7_2, co7_2, ev_⟩ := Kd.V_slice ho2_
     subst ev_
     have HO7_2 := aVm ho2_ HB.out.size
     obtain ⟨Ao7_3, co7_3, ev_⟩ := Kd.V_slice ho3_
     subst ev_
     have HO7_3 := aVm ho3_ HB.out.size
     obtain ⟨Ao7_4, co7_4, ev_⟩ := Kd.V_slice ho4_
     subst ev_
     have HO7_4 := aVm ho4_ HB.out.size
     obtain ⟨Ao7_5, co7_5, ev_⟩ := Kd.V_slice ho5_
     subst ev_
     have HO7_5 := aVm ho5_ HB.out.size
     replace HO5_0 := aRb HO5_0 hb
     replace HO5_1 := aRb HO5_1 hb
     replace HO5_2 := aRb HO5_2 hb
     replace HO5_3 := aRb HO5_3 hb
     replace HO5_4 := aSb HO5_4 hb
     replace HO5_5 := aSb HO5_5 hb
     replace HO6_7 := aRb HO6_7 hb
     replace BK1 := aBb BK1 hb
     replace BK2 := aBb BK2 hb
     replace BK8 := aBb BK8 hb
     replace HB := aHB HB hb
     clear hb ho0_ ho1_ ho2_ ho3_ ho4_ ho5_
     refine hK.out _ _ ⟨blk6_ BK1.out, blk8_ BK2.out⟩ (fun hHeld => ?_)
     clear hK K
     refine nm_ ?_
     refine pd_ (i := 5) (N := some 27) #[T, T, T, T, T, T, F, F, T, F, F] rfl ?_
     refine pd_ (i := 6) (N := some 33) #[T, T, T, T, T, T, T, F, T, F, F] rfl ?_
     refine pd_ (i := 7) (N := some 34) #[T, T, T, T, T, T, T, T, T, F, F] rfl ?_
     exact norm_ (by simp only [putAll, Act.put, List.setIfInBounds_toArray, List.set_cons_zero, List.set_cons_succ]) (hCont (.slice Ao5_0 t3.length co5_0, .slice Ao5_1 t4.length co5_1, .slice Ao5_2 t5.length co5_2, .slice Ao5_3 t6.length co5_3, .slice Ao5_4 t7.length co5_4, .slice Ao5_5 t8.length co5_5, .slice Ao6_7 t16.length co6_7, .slice Ao7_0 t17.length co7_0, .slice Ao7_1 t18.length co7_1, .slice Ao7_2 t19.length co7_2, .slice Ao7_3 t20.length co7_3, .slice Ao7_4 t21.length co7_4, .slice Ao7_5 t22.length co7_5, gb8_, (w8_.heap.size), (w7_.heap.size)) _ ⟨hHeld, BK1.out, BK2.out, HB.out, (by have := HS.out; omega), (by have := HS.out; (try dsimp only); omega), HO7_0.out, HO7_1.out, HO7_2.out, HO7_3.out, HO7_4.out, HO7_5.out, BK8.out, (by have := HS.out; (try dsimp only); omega)⟩)
   ·skip
    refine box_step ?hg (N := 6) ?hd (cs := #[.slice none 0 0, .slice none 0 0, .slice none 0 0, .slice none 0 0, .slice none 0 0, .slice none 0 0]) (t := 33) ?hr ?_; (case hd => rfl); (case hg => rfl); (case hr => first | (go_simp; done) | (go_simp; rfl))
    intro gb8_ hg w8_ hbox hb
    replace HS := A_.mk (And.intro HS.out (show gb8_ = w5_.heap.size ∧ gb8_ < w8_.heap.size from ⟨hg, blk_lt hbox⟩))
    replace HO5_0 := aRb HO5_0 hb
    replace HO5_1 := aRb HO5_1 hb
    replace HO5_2 := aRb HO5_2 hb
    replace HO5_3 := aRb HO5_3 hb
    replace HO5_4 := aSb HO5_4 hb
    replace HO5_5 := aSb HO5_5 hb
    replace BK1 := aBb BK1 hb
    replace BK2 := aBb BK2 hb
    replace HB := aHB HB hb
    have BK8 := A_.mk hbox
    clear hbox hb hg
    refine hK.out _ _ ⟨blk6_ BK1.out, blk8_ BK2.out⟩ (fun hHeld => ?_)
    clear hK K
    refine nm_ ?_
    refine on_ (i := 3) (N := some 31) #[T, T, T, T, F, F, F, F, T, F, F] rfl (fun K hK => ?_)
    refine gz_ Try.func24 #[.agg #[.int .i64 a1_0, .int .i64 a1_1, .int .i64 a1_2, .int .i64 a1_3, .int .i64 a1_4, .int .i64 a1_5, .int .i64 a1_6, .slice A1_7 l1_7.length c1_7]] ?_
    with_reducible refine (laws_toPacket.calls k a1_0 a1_1 a1_2 a1_3 a1_4 a1_5 a1_6 _ _ l1_7 t9 t10 t11 t12 t13 t14 t15 t16 _ (Kd.C_below HR1_7.out HB.out) HC1_7.out A6.out).mono ?_
    rintro e w6_ ⟨v7_, rfl, ho0_, hb⟩
    refine ⟨_, rfl, ?_⟩
    replace HS := aHs HS hb.size
    obtain ⟨Ao6_7, co6_7, ev_⟩ := Kd.R_slice ho0_
    subst ev_
    have HO6_7 := aRm ho0_ HB.out.size
    replace HO5_0 := aRb HO5_0 hb
    replace HO5_1 := aRb HO5_1 hb
    replace HO5_2 := aRb HO5_2 hb
    replace HO5_3 := aRb HO5_3 hb
    replace HO5_4 := aSb HO5_4 hb
    replace HO5_5 := aSb HO5_5 hb
    replace BK1 := aBb BK1 hb
    replace BK2 := aBb BK2 hb
    replace BK8 := aBb BK8 hb
    replace HB := aHB HB hb
    clear hb ho0_
    refine hK.out _ _ ⟨blk6_ BK1.out, blk8_ BK2.out⟩ (fun hHeld => ?_)
    clear hK K
    refine nm_ ?_
    refine on_ (i := 4) (N := some 32) #[T, T, T, T, T, F, F, F, T, F, F] rfl (fun K hK => ?_)
    refine gz_ Try.func23 #[.agg #[.slice Ao5_0 t3.length co5_0, .slice Ao5_1 t4.length co5_1, .slice Ao5_2 t5.length co5_2, .slice Ao5_3 t6.length co5_3, .slice Ao5_4 t7.length co5_4, .slice Ao5_5 t8.length co5_5], .agg #[.int .i64 t9, .int .i64 t10, .int .i64 t11, .int .i64 t12, .int .i64 t13, .int .i64 t14, .int .i64 t15, .slice Ao6_7 t16.length co6_7]] ?_
    with_reducible refine (spec_PutPacket.calls k _ _ t3 _ _ t4 _ _ t5 _ _ t6 (fun k_ => ((w36d_.heap.size ≤ k_ ∧ k_ < w5_.heap.size) ∧ f5_ k_ = 4)) _ _ t7 (fun k_ => ((w36d_.heap.size ≤ k_ ∧ k_ < w5_.heap.size) ∧ f5_ k_ = 5)) _ _ t8 t9 t10 t11 t12 t13 t14 t15 _ _ t16 t17 t18 t19 t20 t21 t22 t23 _ (Kd.R_reads' HO5_0.out).2.2 (Kd.R_reads' HO5_0.out).2.1 (Kd.R_reads' HO5_1.out).2.2 (Kd.R_reads' HO5_1.out).2.1 (Kd.R_reads' HO5_2.out).2.2 (Kd.R_reads' HO5_2.out).2.1 (Kd.R_reads' HO5_3.out).2.2 (Kd.R_reads' HO5_3.out).2.1 (Kd.S_V HO5_4.out) (Kd.S_V HO5_5.out) (Kd.R_reads' HO6_7.out).2.2 (Kd.R_reads' HO6_7.out).2.1 A7.out).mono ?_
    rintro e w7_ ⟨v0_, v1_, v2_, v3_, v4_, v5_, rfl, ho0_, ho1_, ho2_, ho3_, ho4_, ho5_, hb⟩
    refine ⟨_, rfl, ?_⟩
    replace HS := aHs HS hb.size
    obtain ⟨Ao7_0, co7_0, ev_⟩ := Kd.V_slice ho0_
    subst ev_
    have HO7_0 := aVm ho0_ HB.out.size
    obtain ⟨Ao7_1, co7_1, ev_⟩ := Kd.V_slice ho1_
    subst ev_
    have HO7_1 := aVm ho1_ HB.out.size
    obtain ⟨Ao7_2, co7_2, ev_⟩ := Kd.V_slice ho2_
    subst ev_
    have HO7_2 := aVm ho2_ HB.out.size
    obtain ⟨Ao7_3, co7_3, ev_⟩ := Kd.V_slice ho3_
    subst ev_
    have HO7_3 := aVm ho3_ HB.out.size
    obtain ⟨Ao7_4, co7_4, ev_⟩ := Kd.V_slice ho4_
    subst ev_
    have HO7_4 := aVm ho4_ HB.out.size
    obtain ⟨Ao7_5, co7_5, ev_⟩ := Kd.V_slice ho5_
    subst ev_
    have HO7_5 := aVm ho5_ HB.out.size
    replace HO5_0 := aRb HO5_0 hb
    replace HO5_1 := aRb HO5_1 hb
    replace HO5_2 := aRb HO5_2 hb
    replace HO5_3 := aRb HO5_3 hb
    replace HO5_4 := aSb HO5_4 hb
    replace HO5_5 := aSb HO5_5 hb
    replace HO6_7 := aRb HO6_7 hb
    replace BK1 := aBb BK1 hb
    replace BK2 := aBb BK2 hb
    replace BK8 := aBb BK8 hb
    replace HB := aHB HB hb
    clear hb ho0_ ho1_ ho2_ ho3_ ho4_ ho5_
    refine hK.out _ _ ⟨blk6_ BK1.out, blk8_ BK2.out⟩ (fun hHeld => ?_)
    clear hK K
    refine nm_ ?_
    refine pd_ (i := 5) (N := some 27) #[T, T, T, T, T, T, F, F, T, F, F] rfl ?_
    refine pd_ (i := 6) (N := some 33) #[T, T, T, T, T, T, T, F, T, F, F] rfl ?_
    refine pd_ (i := 7) (N := some 34) #[T, T, T, T, T, T, T, T, T, F, F] rfl ?_
    exact norm_ (by simp only [putAll, Act.put, List.setIfInBounds_toArray, List.set_cons_zero, List.set_cons_succ]) (hCont (.slice Ao5_0 t3.length co5_0, .slice Ao5_1 t4.length co5_1, .slice Ao5_2 t5.length co5_2, .slice Ao5_3 t6.length co5_3, .slice Ao5_4 t7.length co5_4, .slice Ao5_5 t8.length co5_5, .slice Ao6_7 t16.length co6_7, .slice Ao7_0 t17.length co7_0, .slice Ao7_1 t18.length co7_1, .slice Ao7_2 t19.length co7_2, .slice Ao7_3 t20.length co7_3, .slice Ao7_4 t21.length co7_4, .slice Ao7_5 t22.length co7_5, gb8_, (w6_.heap.size), (w7_.heap.size)) _ ⟨hHeld, BK1.out, BK2.out, HB.out, (by have := HS.out; omega), (by have := HS.out; (try dsimp only); omega), HO7_0.out, HO7_1.out, HO7_2.out, HO7_3.out, HO7_4.out, HO7_5.out, BK8.out, (by have := HS.out; (try dsimp only); omega)⟩)
  ·skip
   refine box_step ?hg (N := 6) ?hd (cs := #[.slice none 0 0, .slice none 0 0, .slice none 0 0, .slice none 0 0, .slice none 0 0, .slice none 0 0]) (t := 33) ?hr ?_; (case hd => rfl); (case hg => rfl); (case hr => first | (go_simp; done) | (go_simp; rfl))
   intro gb8_ hg w8_ hbox hb
   replace HS := A_.mk (And.intro HS.out (show gb8_ = w36d_.heap.size ∧ gb8_ < w8_.heap.size from ⟨hg, blk_lt hbox⟩))
   replace BK1 := aBb BK1 hb
   replace BK2 := aBb BK2 hb
   replace HB := aHB HB hb
   have BK8 := A_.mk hbox
   clear hbox hb hg
   refine hK.out _ _ ⟨blk6_ BK1.out, blk8_ BK2.out⟩ (fun hHeld => ?_)
   clear hK K
   refine nm_ ?_
   refine on_ (i := 1) (N := some 29) #[T, T, T, F, F, F, F, F, T, F, F] rfl (fun K hK => ?_)
   refine gz_ Try.func10 #[.agg #[.slice A0_0 l0_0.length c0_0, .slice A0_1 l0_1.length c0_1, .slice A0_2 l0_2.length c0_2, .slice A0_3 l0_3.length c0_3, .slice A0_4 l0_4.length c0_4, .slice A0_5 l0_5.length c0_5]] ?_
   with_reducible refine (laws_toChannel.calls k _ _ l0_0 _ _ l0_1 _ _ l0_2 _ _ l0_3 _ _ l0_4 _ _ l0_5 t3 t4 t5 t6 t7 t8 _ (Kd.C_below HR0_0.out HB.out) HC0_0.out (Kd.C_below HR0_1.out HB.out) HC0_1.out (Kd.C_below HR0_2.out HB.out) HC0_2.out (Kd.C_below HR0_3.out HB.out) HC0_3.out (Kd.C_below HR0_4.out HB.out) HC0_4.out (Kd.C_below HR0_5.out HB.out) HC0_5.out A5.out).mono ?_
   rintro e w5_ ⟨f5_, v0_, v1_, v2_, v3_, v4_, v5_, rfl, ho0_, ho1_, ho2_, ho3_, ho4_, ho5_, hb⟩
   refine ⟨_, rfl, ?_⟩
   replace HS := aHs HS hb.size
   obtain ⟨Ao5_0, co5_0, ev_⟩ := Kd.R_slice ho0_
   subst ev_
   have HO5_0 := aRn ho0_ HB.out.size
   obtain ⟨Ao5_1, co5_1, ev_⟩ := Kd.R_slice ho1_
   subst ev_
   have HO5_1 := aRn ho1_ HB.out.size
   obtain ⟨Ao5_2, co5_2, ev_⟩ := Kd.R_slice ho2_
   subst ev_
   have HO5_2 := aRn ho2_ HB.out.size
   obtain ⟨Ao5_3, co5_3, ev_⟩ := Kd.R_slice ho3_
   subst ev_
   have HO5_3 := aRn ho3_ HB.out.size
   obtain ⟨Ao5_4, co5_4, ev_⟩ := Kd.S_slice ho4_
   subst ev_
   have HO5_4 := aSn ho4_ HB.out.size
   obtain ⟨Ao5_5, co5_5, ev_⟩ := Kd.S_slice ho5_
   subst ev_
   have HO5_5 := aSn ho5_ HB.out.size
   replace BK1 := aBb BK1 hb
   replace BK2 := aBb BK2 hb
   replace BK8 := aBb BK8 hb
   replace HB := aHB HB hb
   clear hb ho0_ ho1_ ho2_ ho3_ ho4_ ho5_
   refine hK.out _ _ ⟨blk6_ BK1.out, blk8_ BK2.out⟩ (fun hHeld => ?_)
   clear hK K
   refine nm_ ?_
   refine on_ (i := 3) (N := some 31) #[T, T, T, T, F, F, F, F, T, F, F] rfl (fun K hK => ?_)
   refine gz_ Try.func24 #[.agg #[.int .i64 a1_0, .int .i64 a1_1, .int .i64 a1_2, .int .i64 a1_3, .int .i64 a1_4, .int .i64 a1_5, .int .i64 a1_6, .slice A1_7 l1_7.length c1_7]] ?_
   with_reducible refine (laws_toPacket.calls k a1_0 a1_1 a1_2 a1_3 a1_4 a1_5 a1_6 _ _ l1_7 t9 t10 t11 t12 t13 t14 t15 t16 _ (Kd.C_below HR1_7.out HB.out) HC1_7.out A6.out).mono ?_
   rintro e w6_ ⟨v7_, rfl, ho0_, hb⟩
   refine ⟨_, rfl, ?_⟩
   replace HS := aHs HS hb.size
   obtain ⟨Ao6_7, co6_7, ev_⟩ := Kd.R_slice ho0_
   subst ev_
   have HO6_7 := aRm ho0_ HB.out.size
   replace HO5_0 := aRb HO5_0 hb
   replace HO5_1 := aRb HO5_1 hb
   replace HO5_2 := aRb HO5_2 hb
   replace HO5_3 := aRb HO5_3 hb
   replace HO5_4 := aSb HO5_4 hb
   replace HO5_5 := aSb HO5_5 hb
   replace BK1 := aBb BK1 hb
   replace BK2 := aBb BK2 hb
   replace BK8 := aBb BK8 hb
   replace HB := aHB HB hb
   clear hb ho0_
   refine hK.out _ _ ⟨blk6_ BK1.out, blk8_ BK2.out⟩ (fun hHeld => ?_)
   clear hK K
   refine nm_ ?_
   refine on_ (i := 4) (N := some 32) #[T, T, T, T, T, F, F, F, T, F, F] rfl (fun K hK => ?_)
   refine gz_ Try.func23 #[.agg #[.slice Ao5_0 t3.length co5_0, .slice Ao5_1 t4.length co5_1, .slice Ao5_2 t5.length co5_2, .slice Ao5_3 t6.length co5_3, .slice Ao5_4 t7.length co5_4, .slice Ao5_5 t8.length co5_5], .agg #[.int .i64 t9, .int .i64 t10, .int .i64 t11, .int .i64 t12, .int .i64 t13, .int .i64 t14, .int .i64 t15, .slice Ao6_7 t16.length co6_7]] ?_
   with_reducible refine (spec_PutPacket.calls k _ _ t3 _ _ t4 _ _ t5 _ _ t6 (fun k_ => ((w8_.heap.size ≤ k_ ∧ k_ < w5_.heap.size) ∧ f5_ k_ = 4)) _ _ t7 (fun k_ => ((w8_.heap.size ≤ k_ ∧ k_ < w5_.heap.size) ∧ f5_ k_ = 5)) _ _ t8 t9 t10 t11 t12 t13 t14 t15 _ _ t16 t17 t18 t19 t20 t21 t22 t23 _ (Kd.R_reads' HO5_0.out).2.2 (Kd.R_reads' HO5_0.out).2.1 (Kd.R_reads' HO5_1.out).2.2 (Kd.R_reads' HO5_1.out).2.1 (Kd.R_reads' HO5_2.out).2.2 (Kd.R_reads' HO5_2.out).2.1 (Kd.R_reads' HO5_3.out).2.2 (Kd.R_reads' HO5_3.out).2.1 (Kd.S_V HO5_4.out) (Kd.S_V HO5_5.out) (Kd.R_reads' HO6_7.out).2.2 (Kd.R_reads' HO6_7.out).2.1 A7.out).mono ?_
   rintro e w7_ ⟨v0_, v1_, v2_, v3_, v4_, v5_, rfl, ho0_, ho1_, ho2_, ho3_, ho4_, ho5_, hb⟩
   refine ⟨_, rfl, ?_⟩
   replace HS := aHs HS hb.size
   obtain ⟨Ao7_0, co7_0, ev_⟩ := Kd.V_slice ho0_
   subst ev_
   have HO7_0 := aVm ho0_ HB.out.size
   obtain ⟨Ao7_1, co7_1, ev_⟩ := Kd.V_slice ho1_
   subst ev_
   have HO7_1 := aVm ho1_ HB.out.size
   obtain ⟨Ao7_2, co7_2, ev_⟩ := Kd.V_slice ho2_
   subst ev_
   have HO7_2 := aVm ho2_ HB.out.size
   obtain ⟨Ao7_3, co7_3, ev_⟩ := Kd.V_slice ho3_
   subst ev_
   have HO7_3 := aVm ho3_ HB.out.size
   obtain ⟨Ao7_4, co7_4, ev_⟩ := Kd.V_slice ho4_
   subst ev_
   have HO7_4 := aVm ho4_ HB.out.size
   obtain ⟨Ao7_5, co7_5, ev_⟩ := Kd.V_slice ho5_
   subst ev_
   have HO7_5 := aVm ho5_ HB.out.size
   replace HO5_0 := aRb HO5_0 hb
   replace HO5_1 := aRb HO5_1 hb
   replace HO5_2 := aRb HO5_2 hb
   replace HO5_3 := aRb HO5_3 hb
   replace HO5_4 := aSb HO5_4 hb
   replace HO5_5 := aSb HO5_5 hb
   replace HO6_7 := aRb HO6_7 hb
   replace BK1 := aBb BK1 hb
   replace BK2 := aBb BK2 hb
   replace BK8 := aBb BK8 hb
   replace HB := aHB HB hb
   clear hb ho0_ ho1_ ho2_ ho3_ ho4_ ho5_
   refine hK.out _ _ ⟨blk6_ BK1.out, blk8_ BK2.out⟩ (fun hHeld => ?_)
   clear hK K
   refine nm_ ?_
   refine pd_ (i := 5) (N := some 27) #[T, T, T, T, T, T, F, F, T, F, F] rfl ?_
   refine pd_ (i := 6) (N := some 33) #[T, T, T, T, T, T, T, F, T, F, F] rfl ?_
   refine pd_ (i := 7) (N := some 34) #[T, T, T, T, T, T, T, T, T, F, F] rfl ?_
   exact norm_ (by simp only [putAll, Act.put, List.setIfInBounds_toArray, List.set_cons_zero, List.set_cons_succ]) (hCont (.slice Ao5_0 t3.length co5_0, .slice Ao5_1 t4.length co5_1, .slice Ao5_2 t5.length co5_2, .slice Ao5_3 t6.length co5_3, .slice Ao5_4 t7.length co5_4, .slice Ao5_5 t8.length co5_5, .slice Ao6_7 t16.length co6_7, .slice Ao7_0 t17.length co7_0, .slice Ao7_1 t18.length co7_1, .slice Ao7_2 t19.length co7_2, .slice Ao7_3 t20.length co7_3, .slice Ao7_4 t21.length co7_4, .slice Ao7_5 t22.length co7_5, gb8_, (w6_.heap.size), (w7_.heap.size)) _ ⟨hHeld, BK1.out, BK2.out, HB.out, (by have := HS.out; omega), (by have := HS.out; (try dsimp only); omega), HO7_0.out, HO7_1.out, HO7_2.out, HO7_3.out, HO7_4.out, HO7_5.out, BK8.out, (by have := HS.out; (try dsimp only); omega)⟩)
 rintro ⟨z0_, z1_, z2_, z3_, z4_, z5_, z6_, z7_, z8_, z9_, z10_, z11_, z12_, gb8_, lo36j_, up36j_⟩ w36j_ ⟨hHeld, m0_, m1_, m2_, m3_, m4_, m5_, m6_, m7_, m8_, m9_, m10_, m11_, m12_⟩
 replace BK1 := A_.mk m0_
 replace BK2 := A_.mk m1_
 replace HB := A_.mk m2_
 replace HS := A_.mk (And.intro HS.out m3_)
 replace HS := A_.mk (And.intro HS.out (show w36d_.heap.size ≤ lo36j_ ∧ lo36j_ ≤ up36j_ ∧ up36j_ ≤ w36j_.heap.size from m4_))
 obtain ⟨Ao7_0, co7_0, ev_⟩ := Kd.V_slice m5_
 replace ev_ : z7_ = _ := ev_
 subst ev_
 have HO7_0 := A_.mk (show Kd.V (Kd.int .i64) 3 w36j_ w.heap.size (fun k_ => ((lo36j_ ≤ k_ ∧ k_ < up36j_))) (.slice Ao7_0 t17.length co7_0) t17 from m5_)
 obtain ⟨Ao7_1, co7_1, ev_⟩ := Kd.V_slice m6_
 replace ev_ : z8_ = _ := ev_
 subst ev_
 have HO7_1 := A_.mk (show Kd.V (Kd.int .i64) 3 w36j_ w.heap.size (fun k_ => ((lo36j_ ≤ k_ ∧ k_ < up36j_))) (.slice Ao7_1 t18.length co7_1) t18 from m6_)
 obtain ⟨Ao7_2, co7_2, ev_⟩ := Kd.V_slice m7_
 replace ev_ : z9_ = _ := ev_
 subst ev_
 have HO7_2 := A_.mk (show Kd.V (Kd.int .i64) 3 w36j_ w.heap.size (fun k_ => ((lo36j_ ≤ k_ ∧ k_ < up36j_))) (.slice Ao7_2 t19.length co7_2) t19 from m7_)
 obtain ⟨Ao7_3, co7_3, ev_⟩ := Kd.V_slice m8_
 replace ev_ : z10_ = _ := ev_
 subst ev_
 have HO7_3 := A_.mk (show Kd.V (Kd.int .i64) 3 w36j_ w.heap.size (fun k_ => ((lo36j_ ≤ k_ ∧ k_ < up36j_))) (.slice Ao7_3 t20.length co7_3) t20 from m8_)
 obtain ⟨Ao7_4, co7_4, ev_⟩ := Kd.V_slice m9_
 replace ev_ : z11_ = _ := ev_
 subst ev_
 have HO7_4 := A_.mk (show Kd.V k38 38 w36j_ w.heap.size (fun k_ => ((lo36j_ ≤ k_ ∧ k_ < up36j_))) (.slice Ao7_4 t21.length co7_4) t21 from m9_)
 obtain ⟨Ao7_5, co7_5, ev_⟩ := Kd.V_slice m10_
 replace ev_ : z12_ = _ := ev_
 subst ev_
 have HO7_5 := A_.mk (show Kd.V k38 38 w36j_ w.heap.size (fun k_ => ((lo36j_ ≤ k_ ∧ k_ < up36j_))) (.slice Ao7_5 t22.length co7_5) t22 from m10_)
 have BK8 := A_.mk (show w36j_.heap[gb8_]? = some (.cells #[.slice none 0 0, .slice none 0 0, .slice none 0 0, .slice none 0 0, .slice none 0 0, .slice none 0 0] 33 (0, 0)) from m11_)
 replace HS := A_.mk (And.intro HS.out (show w36d_.heap.size ≤ gb8_ ∧ gb8_ < w36j_.heap.size ∧ (gb8_ < lo36j_ ∨ up36j_ ≤ gb8_) from m12_))
 clear m0_ m1_ m2_ m3_ m4_ m5_ m6_ m7_ m8_ m9_ m10_ m11_ m12_
 refine norm_ (a' := ?_) ?_ ?_
 rotate_left
 ·simp only [putAll, Act.put, List.setIfInBounds_toArray, List.set_cons_zero, List.set_cons_succ]
  rfl
 refine last_ (i := 9) (N := none) #[T, T, T, T, T, T, T, T, T, T, F] rfl rfl (by kernel_rfl) (by decide) (fun K hK => ?_)
 have Q1 := blk6_ BK1.out
 have Q2 := blk8_ BK2.out
 have Q8 := blk6_ BK8.out
 have qf0 := bf_ BK8.out 0; have qf1 := bf_ BK8.out 1; have qf2 := bf_ BK8.out 2; have qf3 := bf_ BK8.out 3; have qf4 := bf_ BK8.out 4; have qf5 := bf_ BK8.out 5
 obtain ⟨w9_, hw⟩ : ∃ q_ : World, q_ = (ch6_ w36j_ gb8_ (.slice Ao7_0 t17.length co7_0) (.slice Ao7_1 t18.length co7_1) (.slice Ao7_2 t19.length co7_2) (.slice Ao7_3 t20.length co7_3) (.slice Ao7_4 t21.length co7_4) (.slice Ao7_5 t22.length co7_5)) := ⟨_, rfl⟩
 refine skip_ (w1 := w9_) (by rfl) rfl ?_ ?_
 ·rw [hw]; go_simp; try rfl
 refine hK.out _ _ ?_
 clear hK K qf0 qf1 qf2 qf3 qf4 qf5 Q1 Q2 Q8
 obtain ⟨hbx, hkp, hbb⟩ := st6_ hw BK8 HB (by have := HS.out; omega)
 clear hw
 replace HO7_0 := aVk HO7_0 hkp HS
 replace HO7_1 := aVk HO7_1 hkp HS
 replace HO7_2 := aVk HO7_2 hkp HS
 replace HO7_3 := aVk HO7_3 hkp HS
 replace HO7_4 := aVk HO7_4 hkp HS
 replace HO7_5 := aVk HO7_5 hkp HS
 replace BK1 := aBk BK1 hkp HS
 replace BK2 := aBk BK2 hkp HS
 replace BK8 := A_.mk hbx
 replace HB := A_.mk hbb
 replace HS := aHs HS hkp.1
 clear hkp hbb hbx
 refine pd_ (i := 10) (N := some 7) #[T, T, T, T, T, T, T, T, T, T, T] rfl ?_
 refine done_ (by kernel_rfl) ?_
 have Q1 := blk6_ BK1.out
 have Q2 := blk8_ BK2.out
 have Q8 := blk6_ BK8.out
 go_wp2_with (first | ((with_reducible refine gc_ (f := 10) rfl ?_); refine gl_ (some 36) Try.func10 #[.agg #[.slice A0_0 l0_0.length c0_0, .slice A0_1 l0_1.length c0_1, .slice A0_2 l0_2.length c0_2, .slice A0_3 l0_3.length c0_3, .slice A0_4 l0_4.length c0_4, .slice A0_5 l0_5.length c0_5]] ?_; (with_reducible refine (laws_toChannel.calls k _ _ l0_0 _ _ l0_1 _ _ l0_2 _ _ l0_3 _ _ l0_4 _ _ l0_5 t24 t25 t26 t27 t28 t29 _ (Kd.C_below HR0_0.out HB.out) HC0_0.out (Kd.C_below HR0_1.out HB.out) HC0_1.out (Kd.C_below HR0_2.out HB.out) HC0_2.out (Kd.C_below HR0_3.out HB.out) HC0_3.out (Kd.C_below HR0_4.out HB.out) HC0_4.out (Kd.C_below HR0_5.out HB.out) HC0_5.out A10.out).mono ?_); rintro e w10_ ⟨f10_, v0_, v1_, v2_, v3_, v4_, v5_, rfl, ho0_, ho1_, ho2_, ho3_, ho4_, ho5_, hb⟩; refine ⟨_, rfl, ?_⟩; replace HS := aHs HS hb.size; obtain ⟨Ao10_0, co10_0, ev_⟩ := Kd.R_slice ho0_; subst ev_; have HO10_0 := aRn ho0_ HB.out.size; obtain ⟨Ao10_1, co10_1, ev_⟩ := Kd.R_slice ho1_; subst ev_; have HO10_1 := aRn ho1_ HB.out.size; obtain ⟨Ao10_2, co10_2, ev_⟩ := Kd.R_slice ho2_; subst ev_; have HO10_2 := aRn ho2_ HB.out.size; obtain ⟨Ao10_3, co10_3, ev_⟩ := Kd.R_slice ho3_; subst ev_; have HO10_3 := aRn ho3_ HB.out.size; obtain ⟨Ao10_4, co10_4, ev_⟩ := Kd.S_slice ho4_; subst ev_; have HO10_4 := aSn ho4_ HB.out.size; obtain ⟨Ao10_5, co10_5, ev_⟩ := Kd.S_slice ho5_; subst ev_; have HO10_5 := aSn ho5_ HB.out.size; replace HO7_0 := aVb HO7_0 hb; replace HO7_1 := aVb HO7_1 hb; replace HO7_2 := aVb HO7_2 hb; replace HO7_3 := aVb HO7_3 hb; replace HO7_4 := aVb HO7_4 hb; replace HO7_5 := aVb HO7_5 hb; replace BK1 := aBb BK1 hb; replace BK2 := aBb BK2 hb; replace BK8 := aBb BK8 hb; replace HB := aHB HB hb; clear hb ho0_ ho1_ ho2_ ho3_ ho4_ ho5_ Q1 Q2 Q8; have Q1 := blk6_ BK1.out; have Q2 := blk8_ BK2.out; have Q8 := blk6_ BK8.out) | ((with_reducible refine gd_ (N := 8) rfl ?_); refine by_ 8 (cs := #[.slice none 0 0, .slice none 0 0, .slice none 0 0, .slice none 0 0, .slice none 0 0, .slice none 0 0]) (t := 33) ?_; intro gb11_ hg w11_ hbox hb; replace HS := A_.mk (And.intro HS.out (show gb11_ = w10_.heap.size ∧ gb11_ < w11_.heap.size from ⟨hg, blk_lt hbox⟩)); replace HO7_0 := aVb HO7_0 hb; replace HO7_1 := aVb HO7_1 hb; replace HO7_2 := aVb HO7_2 hb; replace HO7_3 := aVb HO7_3 hb; replace HO7_4 := aVb HO7_4 hb; replace HO7_5 := aVb HO7_5 hb; replace HO10_0 := aRb HO10_0 hb; replace HO10_1 := aRb HO10_1 hb; replace HO10_2 := aRb HO10_2 hb; replace HO10_3 := aRb HO10_3 hb; replace HO10_4 := aSb HO10_4 hb; replace HO10_5 := aSb HO10_5 hb; replace BK1 := aBb BK1 hb; replace BK2 := aBb BK2 hb; replace BK8 := aBb BK8 hb; replace HB := aHB HB hb; have BK11 := A_.mk hbox; clear hbox hb hg Q1 Q2 Q8; have Q1 := blk6_ BK1.out; have Q2 := blk8_ BK2.out; have Q8 := blk6_ BK8.out; have Q11 := blk6_ BK11.out) | ((with_reducible refine gs_ (t := 33) (p := 8) rfl ?_); have qf0 := bf_ BK11.out 0; have qf1 := bf_ BK11.out 1; have qf2 := bf_ BK11.out 2; have qf3 := bf_ BK11.out 3; have qf4 := bf_ BK11.out 4; have qf5 := bf_ BK11.out 5; refine se_ (t := 33) (p := 8) (v := ?vo_12) (w1 := (ch6_ w11_ gb11_ (.slice Ao10_0 t24.length co10_0) (.slice Ao10_1 t25.length co10_1) (.slice Ao10_2 t26.length co10_2) (.slice Ao10_3 t27.length co10_3) (.slice Ao10_4 t28.length co10_4) (.slice Ao10_5 t29.length co10_5))) ?hg ?ho ?hn ?hr ?_; (case ho => rfl); (case hg => rfl); (case hn => rfl); (case hr => first | (go_simp; done) | (go_simp; rfl)); intro w12_ hw; clear qf0 qf1 qf2 qf3 qf4 qf5; obtain ⟨hbx, hkp, hbb⟩ := st6_ hw BK11 HB (by have := HS.out; omega); clear hw; replace HO7_0 := aVk HO7_0 hkp HS; replace HO7_1 := aVk HO7_1 hkp HS; replace HO7_2 := aVk HO7_2 hkp HS; replace HO7_3 := aVk HO7_3 hkp HS; replace HO7_4 := aVk HO7_4 hkp HS; replace HO7_5 := aVk HO7_5 hkp HS; replace HO10_0 := aRk HO10_0 hkp HS; replace HO10_1 := aRk HO10_1 hkp HS; replace HO10_2 := aRk HO10_2 hkp HS; replace HO10_3 := aRk HO10_3 hkp HS; replace HO10_4 := aSk HO10_4 hkp HS; replace HO10_5 := aSk HO10_5 hkp HS; replace BK1 := aBk BK1 hkp HS; replace BK2 := aBk BK2 hkp HS; replace BK8 := aBk BK8 hkp HS; replace BK11 := A_.mk hbx; replace HB := A_.mk hbb; replace HS := aHs HS hkp.1; clear hkp hbb hbx Q1 Q2 Q8 Q11; have Q1 := blk6_ BK1.out; have Q2 := blk8_ BK2.out; have Q8 := blk6_ BK8.out; have Q11 := blk6_ BK11.out) | ((with_reducible refine gc_ (f := 24) rfl ?_); refine gl_ (some 38) Try.func24 #[.agg #[.int .i64 a1_0, .int .i64 a1_1, .int .i64 a1_2, .int .i64 a1_3, .int .i64 a1_4, .int .i64 a1_5, .int .i64 a1_6, .slice A1_7 l1_7.length c1_7]] ?_; (with_reducible refine (laws_toPacket.calls k a1_0 a1_1 a1_2 a1_3 a1_4 a1_5 a1_6 _ _ l1_7 t30 t31 t32 t33 t34 t35 t36 t37 _ (Kd.C_below HR1_7.out HB.out) HC1_7.out A13.out).mono ?_); rintro e w13_ ⟨v7_, rfl, ho0_, hb⟩; refine ⟨_, rfl, ?_⟩; replace HS := aHs HS hb.size; obtain ⟨Ao13_7, co13_7, ev_⟩ := Kd.R_slice ho0_; subst ev_; have HO13_7 := aRm ho0_ HB.out.size; replace HO7_0 := aVb HO7_0 hb; replace HO7_1 := aVb HO7_1 hb; replace HO7_2 := aVb HO7_2 hb; replace HO7_3 := aVb HO7_3 hb; replace HO7_4 := aVb HO7_4 hb; replace HO7_5 := aVb HO7_5 hb; replace HO10_0 := aRb HO10_0 hb; replace HO10_1 := aRb HO10_1 hb; replace HO10_2 := aRb HO10_2 hb; replace HO10_3 := aRb HO10_3 hb; replace HO10_4 := aSb HO10_4 hb; replace HO10_5 := aSb HO10_5 hb; replace BK1 := aBb BK1 hb; replace BK2 := aBb BK2 hb; replace BK8 := aBb BK8 hb; replace BK11 := aBb BK11 hb; replace HB := aHB HB hb; clear hb ho0_ Q1 Q2 Q8 Q11; have Q1 := blk6_ BK1.out; have Q2 := blk8_ BK2.out; have Q8 := blk6_ BK8.out; have Q11 := blk6_ BK11.out) | ((with_reducible refine gd_ (N := 9) rfl ?_); refine by_ 9 (cs := #[.int .i64 0, .int .i64 0, .int .i64 0, .int .i64 0, .int .i64 0, .int .i64 0, .int .i64 0, .slice none 0 0]) (t := 38) ?_; intro gb14_ hg w14_ hbox hb; replace HS := A_.mk (And.intro HS.out (show gb14_ = w13_.heap.size ∧ gb14_ < w14_.heap.size from ⟨hg, blk_lt hbox⟩)); replace HO7_0 := aVb HO7_0 hb; replace HO7_1 := aVb HO7_1 hb; replace HO7_2 := aVb HO7_2 hb; replace HO7_3 := aVb HO7_3 hb; replace HO7_4 := aVb HO7_4 hb; replace HO7_5 := aVb HO7_5 hb; replace HO10_0 := aRb HO10_0 hb; replace HO10_1 := aRb HO10_1 hb; replace HO10_2 := aRb HO10_2 hb; replace HO10_3 := aRb HO10_3 hb; replace HO10_4 := aSb HO10_4 hb; replace HO10_5 := aSb HO10_5 hb; replace HO13_7 := aRb HO13_7 hb; replace BK1 := aBb BK1 hb; replace BK2 := aBb BK2 hb; replace BK8 := aBb BK8 hb; replace BK11 := aBb BK11 hb; replace HB := aHB HB hb; have BK14 := A_.mk hbox; clear hbox hb hg Q1 Q2 Q8 Q11; have Q1 := blk6_ BK1.out; have Q2 := blk8_ BK2.out; have Q8 := blk6_ BK8.out; have Q11 := blk6_ BK11.out; have Q14 := blk8_ BK14.out) | ((with_reducible refine gs_ (t := 38) (p := 9) rfl ?_); have qf0 := bf_ BK14.out 0; have qf1 := bf_ BK14.out 1; have qf2 := bf_ BK14.out 2; have qf3 := bf_ BK14.out 3; have qf4 := bf_ BK14.out 4; have qf5 := bf_ BK14.out 5; have qf6 := bf_ BK14.out 6; have qf7 := bf_ BK14.out 7; refine se_ (t := 38) (p := 9) (v := ?vo_15) (w1 := (ch8_ w14_ gb14_ (.int .i64 t30) (.int .i64 t31) (.int .i64 t32) (.int .i64 t33) (.int .i64 t34) (.int .i64 t35) (.int .i64 t36) (.slice Ao13_7 t37.length co13_7))) ?hg ?ho ?hn ?hr ?_; (case ho => rfl); (case hg => rfl); (case hn => rfl); (case hr => first | (go_simp; done) | (go_simp; rfl)); intro w15_ hw; clear qf0 qf1 qf2 qf3 qf4 qf5 qf6 qf7; obtain ⟨hbx, hkp, hbb⟩ := st8_ hw BK14 HB (by have := HS.out; omega); clear hw; replace HO7_0 := aVk HO7_0 hkp HS; replace HO7_1 := aVk HO7_1 hkp HS; replace HO7_2 := aVk HO7_2 hkp HS; replace HO7_3 := aVk HO7_3 hkp HS; replace HO7_4 := aVk HO7_4 hkp HS; replace HO7_5 := aVk HO7_5 hkp HS; replace HO10_0 := aRk HO10_0 hkp HS; replace HO10_1 := aRk HO10_1 hkp HS; replace HO10_2 := aRk HO10_2 hkp HS; replace HO10_3 := aRk HO10_3 hkp HS; replace HO10_4 := aSk HO10_4 hkp HS; replace HO10_5 := aSk HO10_5 hkp HS; replace HO13_7 := aRk HO13_7 hkp HS; replace BK1 := aBk BK1 hkp HS; replace BK2 := aBk BK2 hkp HS; replace BK8 := aBk BK8 hkp HS; replace BK11 := aBk BK11 hkp HS; replace BK14 := A_.mk hbx; replace HB := A_.mk hbb; replace HS := aHs HS hkp.1; clear hkp hbb hbx Q1 Q2 Q8 Q11 Q14; have Q1 := blk6_ BK1.out; have Q2 := blk8_ BK2.out; have Q8 := blk6_ BK8.out; have Q11 := blk6_ BK11.out; have Q14 := blk8_ BK14.out) | ((with_reducible refine gc_ (f := 25) rfl ?_); refine gl_ (some 42) Try.func25 #[.agg #[.slice Ao10_0 t24.length co10_0, .slice Ao10_1 t25.length co10_1, .slice Ao10_2 t26.length co10_2, .slice Ao10_3 t27.length co10_3, .slice Ao10_4 t28.length co10_4, .slice Ao10_5 t29.length co10_5], .agg #[.int .i64 t30, .int .i64 t31, .int .i64 t32, .int .i64 t33, .int .i64 t34, .int .i64 t35, .int .i64 t36, .slice Ao13_7 t37.length co13_7]] ?_; (with_reducible refine (impl_PutPacket.calls k _ _ t24 _ _ t25 _ _ t26 _ _ t27 (fun k_ => ((w9_.heap.size ≤ k_ ∧ k_ < w10_.heap.size) ∧ f10_ k_ = 4)) _ _ t28 (fun k_ => ((w9_.heap.size ≤ k_ ∧ k_ < w10_.heap.size) ∧ f10_ k_ = 5)) _ _ t29 t30 t31 t32 t33 t34 t35 t36 _ _ t37 t38 t39 t40 t41 t42 t43 t44 _ (Kd.R_reads' HO10_0.out).2.2 (Kd.R_reads' HO10_0.out).2.1 (Kd.R_reads' HO10_1.out).2.2 (Kd.R_reads' HO10_1.out).2.1 (Kd.R_reads' HO10_2.out).2.2 (Kd.R_reads' HO10_2.out).2.1 (Kd.R_reads' HO10_3.out).2.2 (Kd.R_reads' HO10_3.out).2.1 (Kd.S_V HO10_4.out) (Kd.S_V HO10_5.out) (Kd.R_reads' HO13_7.out).2.2 (Kd.R_reads' HO13_7.out).2.1 A16.out).mono ?_); rintro e w16_ ⟨f16_, v0_, v1_, v2_, v3_, v4_, v5_, rfl, ho0_, ho1_, ho2_, ho3_, ho4_, ho5_, hb⟩; refine ⟨_, rfl, ?_⟩; replace HS := aHs HS hb.size; obtain ⟨Ao16_0, co16_0, ev_⟩ := Kd.R_slice ho0_; subst ev_; have HO16_0 := aRn ho0_ HB.out.size; obtain ⟨Ao16_1, co16_1, ev_⟩ := Kd.R_slice ho1_; subst ev_; have HO16_1 := aRn ho1_ HB.out.size; obtain ⟨Ao16_2, co16_2, ev_⟩ := Kd.R_slice ho2_; subst ev_; have HO16_2 := aRn ho2_ HB.out.size; obtain ⟨Ao16_3, co16_3, ev_⟩ := Kd.R_slice ho3_; subst ev_; have HO16_3 := aRn ho3_ HB.out.size; obtain ⟨Ao16_4, co16_4, ev_⟩ := Kd.S_slice ho4_; subst ev_; have HO16_4 := aSn ho4_ HB.out.size; obtain ⟨Ao16_5, co16_5, ev_⟩ := Kd.S_slice ho5_; subst ev_; have HO16_5 := aSn ho5_ HB.out.size; replace HO7_0 := aVb HO7_0 hb; replace HO7_1 := aVb HO7_1 hb; replace HO7_2 := aVb HO7_2 hb; replace HO7_3 := aVb HO7_3 hb; replace HO7_4 := aVb HO7_4 hb; replace HO7_5 := aVb HO7_5 hb; replace HO10_0 := aRb HO10_0 hb; replace HO10_1 := aRb HO10_1 hb; replace HO10_2 := aRb HO10_2 hb; replace HO10_3 := aRb HO10_3 hb; replace HO10_4 := aSb HO10_4 hb; replace HO10_5 := aSb HO10_5 hb; replace HO13_7 := aRb HO13_7 hb; replace BK1 := aBb BK1 hb; replace BK2 := aBb BK2 hb; replace BK8 := aBb BK8 hb; replace BK11 := aBb BK11 hb; replace BK14 := aBb BK14 hb; replace HB := aHB HB hb; clear hb ho0_ ho1_ ho2_ ho3_ ho4_ ho5_ Q1 Q2 Q8 Q11 Q14; have Q1 := blk6_ BK1.out; have Q2 := blk8_ BK2.out; have Q8 := blk6_ BK8.out; have Q11 := blk6_ BK11.out; have Q14 := blk8_ BK14.out) | ((with_reducible refine gd_ (N := 10) rfl ?_); refine by_ 10 (cs := #[.slice none 0 0, .slice none 0 0, .slice none 0 0, .slice none 0 0, .slice none 0 0, .slice none 0 0]) (t := 33) ?_; intro gb17_ hg w17_ hbox hb; replace HS := A_.mk (And.intro HS.out (show gb17_ = w16_.heap.size ∧ gb17_ < w17_.heap.size from ⟨hg, blk_lt hbox⟩)); replace HO7_0 := aVb HO7_0 hb; replace HO7_1 := aVb HO7_1 hb; replace HO7_2 := aVb HO7_2 hb; replace HO7_3 := aVb HO7_3 hb; replace HO7_4 := aVb HO7_4 hb; replace HO7_5 := aVb HO7_5 hb; replace HO10_0 := aRb HO10_0 hb; replace HO10_1 := aRb HO10_1 hb; replace HO10_2 := aRb HO10_2 hb; replace HO10_3 := aRb HO10_3 hb; replace HO10_4 := aSb HO10_4 hb; replace HO10_5 := aSb HO10_5 hb; replace HO13_7 := aRb HO13_7 hb; replace HO16_0 := aRb HO16_0 hb; replace HO16_1 := aRb HO16_1 hb; replace HO16_2 := aRb HO16_2 hb; replace HO16_3 := aRb HO16_3 hb; replace HO16_4 := aSb HO16_4 hb; replace HO16_5 := aSb HO16_5 hb; replace BK1 := aBb BK1 hb; replace BK2 := aBb BK2 hb; replace BK8 := aBb BK8 hb; replace BK11 := aBb BK11 hb; replace BK14 := aBb BK14 hb; replace HB := aHB HB hb; have BK17 := A_.mk hbox; clear hbox hb hg Q1 Q2 Q8 Q11 Q14; have Q1 := blk6_ BK1.out; have Q2 := blk8_ BK2.out; have Q8 := blk6_ BK8.out; have Q11 := blk6_ BK11.out; have Q14 := blk8_ BK14.out; have Q17 := blk6_ BK17.out) | ((with_reducible refine gs_ (t := 33) (p := 10) rfl ?_); have qf0 := bf_ BK17.out 0; have qf1 := bf_ BK17.out 1; have qf2 := bf_ BK17.out 2; have qf3 := bf_ BK17.out 3; have qf4 := bf_ BK17.out 4; have qf5 := bf_ BK17.out 5; refine se_ (t := 33) (p := 10) (v := ?vo_18) (w1 := (ch6_ w17_ gb17_ (.slice Ao16_0 t38.length co16_0) (.slice Ao16_1 t39.length co16_1) (.slice Ao16_2 t40.length co16_2) (.slice Ao16_3 t41.length co16_3) (.slice Ao16_4 t42.length co16_4) (.slice Ao16_5 t43.length co16_5))) ?hg ?ho ?hn ?hr ?_; (case ho => rfl); (case hg => rfl); (case hn => rfl); (case hr => first | (go_simp; done) | (go_simp; rfl)); intro w18_ hw; clear qf0 qf1 qf2 qf3 qf4 qf5; obtain ⟨hbx, hkp, hbb⟩ := st6_ hw BK17 HB (by have := HS.out; omega); clear hw; replace HO7_0 := aVk HO7_0 hkp HS; replace HO7_1 := aVk HO7_1 hkp HS; replace HO7_2 := aVk HO7_2 hkp HS; replace HO7_3 := aVk HO7_3 hkp HS; replace HO7_4 := aVk HO7_4 hkp HS; replace HO7_5 := aVk HO7_5 hkp HS; replace HO10_0 := aRk HO10_0 hkp HS; replace HO10_1 := aRk HO10_1 hkp HS; replace HO10_2 := aRk HO10_2 hkp HS; replace HO10_3 := aRk HO10_3 hkp HS; replace HO10_4 := aSk HO10_4 hkp HS; replace HO10_5 := aSk HO10_5 hkp HS; replace HO13_7 := aRk HO13_7 hkp HS; replace HO16_0 := aRk HO16_0 hkp HS; replace HO16_1 := aRk HO16_1 hkp HS; replace HO16_2 := aRk HO16_2 hkp HS; replace HO16_3 := aRk HO16_3 hkp HS; replace HO16_4 := aSk HO16_4 hkp HS; replace HO16_5 := aSk HO16_5 hkp HS; replace BK1 := aBk BK1 hkp HS; replace BK2 := aBk BK2 hkp HS; replace BK8 := aBk BK8 hkp HS; replace BK11 := aBk BK11 hkp HS; replace BK14 := aBk BK14 hkp HS; replace BK17 := A_.mk hbx; replace HB := A_.mk hbb; replace HS := aHs HS hkp.1; clear hkp hbb hbx Q1 Q2 Q8 Q11 Q14 Q17; have Q1 := blk6_ BK1.out; have Q2 := blk8_ BK2.out; have Q8 := blk6_ BK8.out; have Q11 := blk6_ BK11.out; have Q14 := blk8_ BK14.out; have Q17 := blk6_ BK17.out))
 (with_reducible refine (laws_eqChannel.calls k _ _ t38 _ _ t39 _ _ t40 _ _ t41 _ _ t42 _ _ t43 _ _ t17 _ _ t18 _ _ t19 _ _ t20 _ _ t21 _ _ t22 t45 _ (Kd.R_reads' HO16_0.out).2.2 (Kd.R_reads' HO16_0.out).2.1 (Kd.R_reads' HO16_1.out).2.2 (Kd.R_reads' HO16_1.out).2.1 (Kd.R_reads' HO16_2.out).2.2 (Kd.R_reads' HO16_2.out).2.1 (Kd.R_reads' HO16_3.out).2.2 (Kd.R_reads' HO16_3.out).2.1 (Kd.S_reads' HO16_4.out).2.2 (Kd.S_reads' HO16_4.out).2.1 (Kd.S_reads' HO16_5.out).2.2 (Kd.S_reads' HO16_5.out).2.1 (Kd.V_reads' HO7_0.out).2.2 (Kd.V_reads' HO7_0.out).2.1 (Kd.V_reads' HO7_1.out).2.2 (Kd.V_reads' HO7_1.out).2.1 (Kd.V_reads' HO7_2.out).2.2 (Kd.V_reads' HO7_2.out).2.1 (Kd.V_reads' HO7_3.out).2.2 (Kd.V_reads' HO7_3.out).2.1 (Kd.V_reads' HO7_4.out).2.2 (Kd.V_reads' HO7_4.out).2.1 (Kd.V_reads' HO7_5.out).2.2 (Kd.V_reads' HO7_5.out).2.1 A19.out).mono ?_)
 rintro e w19_ ⟨rfl, hb⟩
 replace HS := aHs HS hb.size
 replace HO7_0 := aVb HO7_0 hb
 replace HO7_1 := aVb HO7_1 hb
 replace HO7_2 := aVb HO7_2 hb
 replace HO7_3 := aVb HO7_3 hb
 replace HO7_4 := aVb HO7_4 hb
 replace HO7_5 := aVb HO7_5 hb
 replace HO10_0 := aRb HO10_0 hb
 replace HO10_1 := aRb HO10_1 hb
 replace HO10_2 := aRb HO10_2 hb
 replace HO10_3 := aRb HO10_3 hb
 replace HO10_4 := aSb HO10_4 hb
 replace HO10_5 := aSb HO10_5 hb
 replace HO13_7 := aRb HO13_7 hb
 replace HO16_0 := aRb HO16_0 hb
 replace HO16_1 := aRb HO16_1 hb
 replace HO16_2 := aRb HO16_2 hb
 replace HO16_3 := aRb HO16_3 hb
 replace HO16_4 := aSb HO16_4 hb
 replace HO16_5 := aSb HO16_5 hb
 replace BK1 := aBb BK1 hb
 replace BK2 := aBb BK2 hb
 replace BK8 := aBb BK8 hb
 replace BK11 := aBb BK11 hb
 replace BK14 := aBb BK14 hb
 replace BK17 := aBb BK17 hb
 replace HB := aHB HB hb
 clear hb  Q1 Q2 Q8 Q11 Q14 Q17
 have Q1 := blk6_ BK1.out
 have Q2 := blk8_ BK2.out
 have Q8 := blk6_ BK8.out
 have Q11 := blk6_ BK11.out
 have Q14 := blk8_ BK14.out
 have Q17 := blk6_ BK17.out
 replace H := H.out
 by_cases hc3_ : t45 = true
 case neg =>
  rw [if_neg hc3_] at H
  replace hc3_ := eq_false_of_ne_true hc3_
  subst hc3_
  exact absurd H (by simp)
 rw [if_pos hc3_] at H
 subst hc3_
 by_cases hc4_ : t44 = t23
 case neg =>
  rw [if_neg hc4_] at H
  have hc4_b0 : (t44 == t23) = false := beq_eq_false_iff_ne.mpr hc4_
  have hc4_b1 : (t44 != t23) = true := bne_iff_ne.mpr hc4_
  replace hc4_ := A_.mk hc4_
  exact absurd H (by simp)
 rw [if_pos hc4_] at H
 have hc4_b0 : (t44 == t23) = true := beq_iff_eq.mpr hc4_
 have hc4_b1 : (t44 != t23) = false := bne_eq_false_iff_eq.mpr hc4_
 replace hc4_ := A_.mk hc4_
 replace H := oa_ H
 obtain ⟨⟨t46, t47, t48, t49, t50, t51⟩, A20, H⟩ := H
 try dsimp only at H
 replace H := oa_ H
 obtain ⟨t52, A21, H⟩ := H
 by_cases hc5_ : t52 = true
 case neg =>
  rw [if_neg hc5_] at H
  replace hc5_ := eq_false_of_ne_true hc5_
  subst hc5_
  exact absurd H (by simp)
 rw [if_pos hc5_] at H
 subst hc5_
 replace H := oa_ H
 obtain ⟨⟨t53, t54, t55, t56, t57, t58, t59, t60⟩, A22, H⟩ := H
 try dsimp only at H
 replace H := oa_ H
 obtain ⟨t61, A23, H⟩ := H
 by_cases hc6_ : t61 = true
 case neg =>
  rw [if_neg hc6_] at H
  replace hc6_ := eq_false_of_ne_true hc6_
  subst hc6_
  exact absurd H (by simp)
 rw [if_pos hc6_] at H
 subst hc6_
 replace H := oa_ H
 obtain ⟨⟨t62, t63, t64, t65, t66, t67, t68⟩, A24, H⟩ := H
 try dsimp only at H
 replace H := oa_ H
 obtain ⟨⟨t69, t70⟩, A25, H⟩ := H
 try dsimp only at H
 replace H := A_.mk H
 go_wp2_with (fail)
 refine start_ (n := 5) (S := fun w' => (w'.cell? ⟨gb1_, 0, none⟩ = some (.slice A0_0 l0_0.length c0_0) ∧ w'.cell? ⟨gb1_, 1, none⟩ = some (.slice A0_1 l0_1.length c0_1) ∧ w'.cell? ⟨gb1_, 2, none⟩ = some (.slice A0_2 l0_2.length c0_2) ∧ w'.cell? ⟨gb1_, 3, none⟩ = some (.slice A0_3 l0_3.length c0_3) ∧ w'.cell? ⟨gb1_, 4, none⟩ = some (.slice A0_4 l0_4.length c0_4) ∧ w'.cell? ⟨gb1_, 5, none⟩ = some (.slice A0_5 l0_5.length c0_5)) ∧ (w'.cell? ⟨gb11_, 0, none⟩ = some (.slice Ao10_0 t24.length co10_0) ∧ w'.cell? ⟨gb11_, 1, none⟩ = some (.slice Ao10_1 t25.length co10_1) ∧ w'.cell? ⟨gb11_, 2, none⟩ = some (.slice Ao10_2 t26.length co10_2) ∧ w'.cell? ⟨gb11_, 3, none⟩ = some (.slice Ao10_3 t27.length co10_3) ∧ w'.cell? ⟨gb11_, 4, none⟩ = some (.slice Ao10_4 t28.length co10_4) ∧ w'.cell? ⟨gb11_, 5, none⟩ = some (.slice Ao10_5 t29.length co10_5))) (ds := []) #[F, F, F, F, F] (by kernel_rfl) rfl rfl ⟨blk6_ BK1.out, blk6_ BK11.out⟩ (fun hHeld => ?_)
 clear Q1 Q2 Q8 Q11 Q14 Q17
 have hb := below_drew (Below.refl w19_.heap.size w19_)
 replace HS := aHs HS hb.size
 replace HO7_0 := aVb HO7_0 hb
 replace HO7_1 := aVb HO7_1 hb
 replace HO7_2 := aVb HO7_2 hb
 replace HO7_3 := aVb HO7_3 hb
 replace HO7_4 := aVb HO7_4 hb
 replace HO7_5 := aVb HO7_5 hb
 replace HO10_0 := aRb HO10_0 hb
 replace HO10_1 := aRb HO10_1 hb
 replace HO10_2 := aRb HO10_2 hb
 replace HO10_3 := aRb HO10_3 hb
 replace HO10_4 := aSb HO10_4 hb
 replace HO10_5 := aSb HO10_5 hb
 replace HO13_7 := aRb HO13_7 hb
 replace HO16_0 := aRb HO16_0 hb
 replace HO16_1 := aRb HO16_1 hb
 replace HO16_2 := aRb HO16_2 hb
 replace HO16_3 := aRb HO16_3 hb
 replace HO16_4 := aSb HO16_4 hb
 replace HO16_5 := aSb HO16_5 hb
 replace BK1 := aBb BK1 hb
 replace BK2 := aBb BK2 hb
 replace BK8 := aBb BK8 hb
 replace BK11 := aBb BK11 hb
 replace BK14 := aBb BK14 hb
 replace BK17 := aBb BK17 hb
 replace HB := aHB HB hb
 clear hb
 generalize w19_.drew = w37d_ at HO7_0 HO7_1 HO7_2 HO7_3 HO7_4 HO7_5 HO10_0 HO10_1 HO10_2 HO10_3 HO10_4 HO10_5 HO13_7 HO16_0 HO16_1 HO16_2 HO16_3 HO16_4 HO16_5 BK1 BK2 BK8 BK11 BK14 BK17 HB HS hHeld ⊢
 refine tl_ (i := 0) (N := some 54) #[T, F, F, F, F] rfl hHeld ?_
 refine tl_ (i := 1) (N := some 55) #[T, T, F, F, F] rfl hHeld ?_
 refine on_ (i := 2) (N := some 56) #[T, T, T, F, F] rfl (fun K hK => ?_)
 refine gz_ Try.func10 #[.agg #[.slice A0_0 l0_0.length c0_0, .slice A0_1 l0_1.length c0_1, .slice A0_2 l0_2.length c0_2, .slice A0_3 l0_3.length c0_3, .slice A0_4 l0_4.length c0_4, .slice A0_5 l0_5.length c0_5]] ?_
 with_reducible refine (laws_toChannel.calls k _ _ l0_0 _ _ l0_1 _ _ l0_2 _ _ l0_3 _ _ l0_4 _ _ l0_5 t46 t47 t48 t49 t50 t51 _ (Kd.C_below HR0_0.out HB.out) HC0_0.out (Kd.C_below HR0_1.out HB.out) HC0_1.out (Kd.C_below HR0_2.out HB.out) HC0_2.out (Kd.C_below HR0_3.out HB.out) HC0_3.out (Kd.C_below HR0_4.out HB.out) HC0_4.out (Kd.C_below HR0_5.out HB.out) HC0_5.out A20.out).mono ?_
 rintro e w20_ ⟨f20_, v0_, v1_, v2_, v3_, v4_, v5_, rfl, ho0_, ho1_, ho2_, ho3_, ho4_, ho5_, hb⟩
 refine ⟨_, rfl, ?_⟩
 replace HS := aHs HS hb.size
 obtain ⟨Ao20_0, co20_0, ev_⟩ := Kd.R_slice ho0_
 subst ev_
 have HO20_0 := aRn ho0_ HB.out.size
 obtain ⟨Ao20_1, co20_1, ev_⟩ := Kd.R_slice ho1_
 subst ev_
 have HO20_1 := aRn ho1_ HB.out.size
 obtain ⟨Ao20_2, co20_2, ev_⟩ := Kd.R_slice ho2_
 subst ev_
 have HO20_2 := aRn ho2_ HB.out.size
 obtain ⟨Ao20_3, co20_3, ev_⟩ := Kd.R_slice ho3_
 subst ev_
 have HO20_3 := aRn ho3_ HB.out.size
 obtain ⟨Ao20_4, co20_4, ev_⟩ := Kd.S_slice ho4_
 subst ev_
 have HO20_4 := aSn ho4_ HB.out.size
 obtain ⟨Ao20_5, co20_5, ev_⟩ := Kd.S_slice ho5_
 subst ev_
 have HO20_5 := aSn ho5_ HB.out.size
 replace HO7_0 := aVb HO7_0 hb
 replace HO7_1 := aVb HO7_1 hb
 replace HO7_2 := aVb HO7_2 hb
 replace HO7_3 := aVb HO7_3 hb
 replace HO7_4 := aVb HO7_4 hb
 replace HO7_5 := aVb HO7_5 hb
 replace HO10_0 := aRb HO10_0 hb
 replace HO10_1 := aRb HO10_1 hb
 replace HO10_2 := aRb HO10_2 hb
 replace HO10_3 := aRb HO10_3 hb
 replace HO10_4 := aSb HO10_4 hb
 replace HO10_5 := aSb HO10_5 hb
 replace HO13_7 := aRb HO13_7 hb
 replace HO16_0 := aRb HO16_0 hb
 replace HO16_1 := aRb HO16_1 hb
 replace HO16_2 := aRb HO16_2 hb
 replace HO16_3 := aRb HO16_3 hb
 replace HO16_4 := aSb HO16_4 hb
 replace HO16_5 := aSb HO16_5 hb
 replace BK1 := aBb BK1 hb
 replace BK2 := aBb BK2 hb
 replace BK8 := aBb BK8 hb
 replace BK11 := aBb BK11 hb
 replace BK14 := aBb BK14 hb
 replace BK17 := aBb BK17 hb
 replace HB := aHB HB hb
 clear hb ho0_ ho1_ ho2_ ho3_ ho4_ ho5_
 refine hK.out _ _ ⟨blk6_ BK1.out, blk6_ BK11.out⟩ (fun hHeld => ?_)
 clear hK K
 refine nm_ ?_
 refine on_ (i := 3) (N := some 57) #[T, T, T, T, F] rfl (fun K hK => ?_)
 refine gz_ Try.func12 #[.agg #[.slice Ao10_0 t24.length co10_0, .slice Ao10_1 t25.length co10_1, .slice Ao10_2 t26.length co10_2, .slice Ao10_3 t27.length co10_3, .slice Ao10_4 t28.length co10_4, .slice Ao10_5 t29.length co10_5], .agg #[.slice Ao20_0 t46.length co20_0, .slice Ao20_1 t47.length co20_1, .slice Ao20_2 t48.length co20_2, .slice Ao20_3 t49.length co20_3, .slice Ao20_4 t50.length co20_4, .slice Ao20_5 t51.length co20_5]] ?_
 with_reducible refine (laws_eqChannel.calls k _ _ t24 _ _ t25 _ _ t26 _ _ t27 _ _ t28 _ _ t29 _ _ t46 _ _ t47 _ _ t48 _ _ t49 _ _ t50 _ _ t51 true _ (Kd.R_reads' HO10_0.out).2.2 (Kd.R_reads' HO10_0.out).2.1 (Kd.R_reads' HO10_1.out).2.2 (Kd.R_reads' HO10_1.out).2.1 (Kd.R_reads' HO10_2.out).2.2 (Kd.R_reads' HO10_2.out).2.1 (Kd.R_reads' HO10_3.out).2.2 (Kd.R_reads' HO10_3.out).2.1 (Kd.S_reads' HO10_4.out).2.2 (Kd.S_reads' HO10_4.out).2.1 (Kd.S_reads' HO10_5.out).2.2 (Kd.S_reads' HO10_5.out).2.1 (Kd.R_reads' HO20_0.out).2.2 (Kd.R_reads' HO20_0.out).2.1 (Kd.R_reads' HO20_1.out).2.2 (Kd.R_reads' HO20_1.out).2.1 (Kd.R_reads' HO20_2.out).2.2 (Kd.R_reads' HO20_2.out).2.1 (Kd.R_reads' HO20_3.out).2.2 (Kd.R_reads' HO20_3.out).2.1 (Kd.S_reads' HO20_4.out).2.2 (Kd.S_reads' HO20_4.out).2.1 (Kd.S_reads' HO20_5.out).2.2 (Kd.S_reads' HO20_5.out).2.1 A21.out).mono ?_
 rintro e w21_ ⟨rfl, hb⟩
 refine ⟨_, rfl, ?_⟩
 replace HS := aHs HS hb.size
 replace HO7_0 := aVb HO7_0 hb
 replace HO7_1 := aVb HO7_1 hb
 replace HO7_2 := aVb HO7_2 hb
 replace HO7_3 := aVb HO7_3 hb
 replace HO7_4 := aVb HO7_4 hb
 replace HO7_5 := aVb HO7_5 hb
 replace HO10_0 := aRb HO10_0 hb
 replace HO10_1 := aRb HO10_1 hb
 replace HO10_2 := aRb HO10_2 hb
 replace HO10_3 := aRb HO10_3 hb
 replace HO10_4 := aSb HO10_4 hb
 replace HO10_5 := aSb HO10_5 hb
 replace HO13_7 := aRb HO13_7 hb
 replace HO16_0 := aRb HO16_0 hb
 replace HO16_1 := aRb HO16_1 hb
 replace HO16_2 := aRb HO16_2 hb
 replace HO16_3 := aRb HO16_3 hb
 replace HO16_4 := aSb HO16_4 hb
 replace HO16_5 := aSb HO16_5 hb
 replace HO20_0 := aRb HO20_0 hb
 replace HO20_1 := aRb HO20_1 hb
 replace HO20_2 := aRb HO20_2 hb
 replace HO20_3 := aRb HO20_3 hb
 replace HO20_4 := aSb HO20_4 hb
 replace HO20_5 := aSb HO20_5 hb
 replace BK1 := aBb BK1 hb
 replace BK2 := aBb BK2 hb
 replace BK8 := aBb BK8 hb
 replace BK11 := aBb BK11 hb
 replace BK14 := aBb BK14 hb
 replace BK17 := aBb BK17 hb
 replace HB := aHB HB hb
 clear hb 
 refine hK.out _ _ ⟨blk6_ BK1.out, blk6_ BK11.out⟩ (fun hHeld => ?_)
 clear hK K
 refine nm_ ?_
 refine pd_ (i := 4) (N := some 58) #[T, T, T, T, T] rfl ?_
 refine done_ (by kernel_rfl) ?_
 have Q1 := blk6_ BK1.out
 have Q2 := blk8_ BK2.out
 have Q8 := blk6_ BK8.out
 have Q11 := blk6_ BK11.out
 have Q14 := blk8_ BK14.out
 have Q17 := blk6_ BK17.out
 go_wp2_with (fail)
 refine start_ (n := 5) (S := fun w' => (w'.cell? ⟨gb2_, 0, none⟩ = some (.int .i64 a1_0) ∧ w'.cell? ⟨gb2_, 1, none⟩ = some (.int .i64 a1_1) ∧ w'.cell? ⟨gb2_, 2, none⟩ = some (.int .i64 a1_2) ∧ w'.cell? ⟨gb2_, 3, none⟩ = some (.int .i64 a1_3) ∧ w'.cell? ⟨gb2_, 4, none⟩ = some (.int .i64 a1_4) ∧ w'.cell? ⟨gb2_, 5, none⟩ = some (.int .i64 a1_5) ∧ w'.cell? ⟨gb2_, 6, none⟩ = some (.int .i64 a1_6) ∧ w'.cell? ⟨gb2_, 7, none⟩ = some (.slice A1_7 l1_7.length c1_7)) ∧ (w'.cell? ⟨gb14_, 0, none⟩ = some (.int .i64 t30) ∧ w'.cell? ⟨gb14_, 1, none⟩ = some (.int .i64 t31) ∧ w'.cell? ⟨gb14_, 2, none⟩ = some (.int .i64 t32) ∧ w'.cell? ⟨gb14_, 3, none⟩ = some (.int .i64 t33) ∧ w'.cell? ⟨gb14_, 4, none⟩ = some (.int .i64 t34) ∧ w'.cell? ⟨gb14_, 5, none⟩ = some (.int .i64 t35) ∧ w'.cell? ⟨gb14_, 6, none⟩ = some (.int .i64 t36) ∧ w'.cell? ⟨gb14_, 7, none⟩ = some (.slice Ao13_7 t37.length co13_7))) (ds := []) #[F, F, F, F, F] (by kernel_rfl) rfl rfl ⟨blk8_ BK2.out, blk8_ BK14.out⟩ (fun hHeld => ?_)
 clear Q1 Q2 Q8 Q11 Q14 Q17
 have hb := below_drew (Below.refl w21_.heap.size w21_)
 replace HS := aHs HS hb.size
 replace HO7_0 := aVb HO7_0 hb
 replace HO7_1 := aVb HO7_1 hb
 replace HO7_2 := aVb HO7_2 hb
 replace HO7_3 := aVb HO7_3 hb
 replace HO7_4 := aVb HO7_4 hb
 replace HO7_5 := aVb HO7_5 hb
 replace HO10_0 := aRb HO10_0 hb
 replace HO10_1 := aRb HO10_1 hb
 replace HO10_2 := aRb HO10_2 hb
 replace HO10_3 := aRb HO10_3 hb
 replace HO10_4 := aSb HO10_4 hb
 replace HO10_5 := aSb HO10_5 hb
 replace HO13_7 := aRb HO13_7 hb
 replace HO16_0 := aRb HO16_0 hb
 replace HO16_1 := aRb HO16_1 hb
 replace HO16_2 := aRb HO16_2 hb
 replace HO16_3 := aRb HO16_3 hb
 replace HO16_4 := aSb HO16_4 hb
 replace HO16_5 := aSb HO16_5 hb
 replace BK1 := aBb BK1 hb
 replace BK2 := aBb BK2 hb
 replace BK8 := aBb BK8 hb
 replace BK11 := aBb BK11 hb
 replace BK14 := aBb BK14 hb
 replace BK17 := aBb BK17 hb
 replace HB := aHB HB hb
 clear hb
 generalize w21_.drew = w38d_ at HO7_0 HO7_1 HO7_2 HO7_3 HO7_4 HO7_5 HO10_0 HO10_1 HO10_2 HO10_3 HO10_4 HO10_5 HO13_7 HO16_0 HO16_1 HO16_2 HO16_3 HO16_4 HO16_5 BK1 BK2 BK8 BK11 BK14 BK17 HB HS hHeld ⊢
 refine tl_ (i := 0) (N := some 59) #[T, F, F, F, F] rfl hHeld ?_
 refine tl_ (i := 1) (N := some 60) #[T, T, F, F, F] rfl hHeld ?_
 refine on_ (i := 2) (N := some 61) #[T, T, T, F, F] rfl (fun K hK => ?_)
 refine gz_ Try.func24 #[.agg #[.int .i64 a1_0, .int .i64 a1_1, .int .i64 a1_2, .int .i64 a1_3, .int .i64 a1_4, .int .i64 a1_5, .int .i64 a1_6, .slice A1_7 l1_7.length c1_7]] ?_
 with_reducible refine (laws_toPacket.calls k a1_0 a1_1 a1_2 a1_3 a1_4 a1_5 a1_6 _ _ l1_7 t53 t54 t55 t56 t57 t58 t59 t60 _ (Kd.C_below HR1_7.out HB.out) HC1_7.out A22.out).mono ?_
 rintro e w22_ ⟨v7_, rfl, ho0_, hb⟩
 refine ⟨_, rfl, ?_⟩
 replace HS := aHs HS hb.size
 obtain ⟨Ao22_7, co22_7, ev_⟩ := Kd.R_slice ho0_
 subst ev_
 have HO22_7 := aRm ho0_ HB.out.size
 replace HO7_0 := aVb HO7_0 hb
 replace HO7_1 := aVb HO7_1 hb
 replace HO7_2 := aVb HO7_2 hb
 replace HO7_3 := aVb HO7_3 hb
 replace HO7_4 := aVb HO7_4 hb
 replace HO7_5 := aVb HO7_5 hb
 replace HO10_0 := aRb HO10_0 hb
 replace HO10_1 := aRb HO10_1 hb
 replace HO10_2 := aRb HO10_2 hb
 replace HO10_3 := aRb HO10_3 hb
 replace HO10_4 := aSb HO10_4 hb
 replace HO10_5 := aSb HO10_5 hb
 replace HO13_7 := aRb HO13_7 hb
 replace HO16_0 := aRb HO16_0 hb
 replace HO16_1 := aRb HO16_1 hb
 replace HO16_2 := aRb HO16_2 hb
 replace HO16_3 := aRb HO16_3 hb
 replace HO16_4 := aSb HO16_4 hb
 replace HO16_5 := aSb HO16_5 hb
 replace BK1 := aBb BK1 hb
 replace BK2 := aBb BK2 hb
 replace BK8 := aBb BK8 hb
 replace BK11 := aBb BK11 hb
 replace BK14 := aBb BK14 hb
 replace BK17 := aBb BK17 hb
 replace HB := aHB HB hb
 clear hb ho0_
 refine hK.out _ _ ⟨blk8_ BK2.out, blk8_ BK14.out⟩ (fun hHeld => ?_)
 clear hK K
 refine nm_ ?_
 refine on_ (i := 3) (N := some 62) #[T, T, T, T, F] rfl (fun K hK => ?_)
 refine gz_ Try.func15 #[.agg #[.int .i64 t30, .int .i64 t31, .int .i64 t32, .int .i64 t33, .int .i64 t34, .int .i64 t35, .int .i64 t36, .slice Ao13_7 t37.length co13_7], .agg #[.int .i64 t53, .int .i64 t54, .int .i64 t55, .int .i64 t56, .int .i64 t57, .int .i64 t58, .int .i64 t59, .slice Ao22_7 t60.length co22_7]] ?_
 with_reducible refine (laws_eqPacket.calls k t30 t31 t32 t33 t34 t35 t36 _ _ t37 t53 t54 t55 t56 t57 t58 t59 _ _ t60 true _ (Kd.R_reads' HO13_7.out).2.2 (Kd.R_reads' HO13_7.out).2.1 (Kd.R_reads' HO22_7.out).2.2 (Kd.R_reads' HO22_7.out).2.1 A23.out).mono ?_
 rintro e w23_ ⟨rfl, hb⟩
 refine ⟨_, rfl, ?_⟩
 replace HS := aHs HS hb.size
 replace HO7_0 := aVb HO7_0 hb
 replace HO7_1 := aVb HO7_1 hb
 replace HO7_2 := aVb HO7_2 hb
 replace HO7_3 := aVb HO7_3 hb
 replace HO7_4 := aVb HO7_4 hb
 replace HO7_5 := aVb HO7_5 hb
 replace HO10_0 := aRb HO10_0 hb
 replace HO10_1 := aRb HO10_1 hb
 replace HO10_2 := aRb HO10_2 hb
 replace HO10_3 := aRb HO10_3 hb
 replace HO10_4 := aSb HO10_4 hb
 replace HO10_5 := aSb HO10_5 hb
 replace HO13_7 := aRb HO13_7 hb
 replace HO16_0 := aRb HO16_0 hb
 replace HO16_1 := aRb HO16_1 hb
 replace HO16_2 := aRb HO16_2 hb
 replace HO16_3 := aRb HO16_3 hb
 replace HO16_4 := aSb HO16_4 hb
 replace HO16_5 := aSb HO16_5 hb
 replace HO22_7 := aRb HO22_7 hb
 replace BK1 := aBb BK1 hb
 replace BK2 := aBb BK2 hb
 replace BK8 := aBb BK8 hb
 replace BK11 := aBb BK11 hb
 replace BK14 := aBb BK14 hb
 replace BK17 := aBb BK17 hb
 replace HB := aHB HB hb
 clear hb 
 refine hK.out _ _ ⟨blk8_ BK2.out, blk8_ BK14.out⟩ (fun hHeld => ?_)
 clear hK K
 refine nm_ ?_
 refine pd_ (i := 4) (N := some 63) #[T, T, T, T, T] rfl ?_
 refine done_ (by kernel_rfl) ?_
 have Q1 := blk6_ BK1.out
 have Q2 := blk8_ BK2.out
 have Q8 := blk6_ BK8.out
 have Q11 := blk6_ BK11.out
 have Q14 := blk8_ BK14.out
 have Q17 := blk6_ BK17.out
 go_wp2_with (fail)
 (with_reducible refine (laws_markChannel.calls k (fun k_ => (w9_.heap.size ≤ k_ ∧ k_ < w10_.heap.size)) f10_ (.slice Ao10_0 t24.length co10_0) t24 (.slice Ao10_1 t25.length co10_1) t25 (.slice Ao10_2 t26.length co10_2) t26 (.slice Ao10_3 t27.length co10_3) t27 (.slice Ao10_4 t28.length co10_4) t28 (.slice Ao10_5 t29.length co10_5) t29 1 t62 t63 t64 t65 t66 t67 t68 w _ HB.out HO10_0.out HO10_1.out HO10_2.out HO10_3.out HO10_4.out HO10_5.out A24.out).mono ?_)
 rintro e w24_ ⟨rfl, ho0_, ho1_, ho2_, ho3_, ho4_, ho5_, ho6_, hkp⟩
 replace HS := aHs HS hkp.1
 replace HO7_0 := aVk HO7_0 hkp HS
 replace HO7_1 := aVk HO7_1 hkp HS
 replace HO7_2 := aVk HO7_2 hkp HS
 replace HO7_3 := aVk HO7_3 hkp HS
 replace HO7_4 := aVk HO7_4 hkp HS
 replace HO7_5 := aVk HO7_5 hkp HS
 replace HO13_7 := aRk HO13_7 hkp HS
 replace HO16_0 := aRk HO16_0 hkp HS
 replace HO16_1 := aRk HO16_1 hkp HS
 replace HO16_2 := aRk HO16_2 hkp HS
 replace HO16_3 := aRk HO16_3 hkp HS
 replace HO16_4 := aSk HO16_4 hkp HS
 replace HO16_5 := aSk HO16_5 hkp HS
 replace BK1 := aBk BK1 hkp HS
 replace BK2 := aBk BK2 hkp HS
 replace BK8 := aBk BK8 hkp HS
 replace BK11 := aBk BK11 hkp HS
 replace BK14 := aBk BK14 hkp HS
 replace BK17 := aBk BK17 hkp HS
 replace HO10_0 := A_.mk (Kd.R_reok rfl ho0_ (fun k_ e_ => HO10_0.out.1 k_ e_))
 have LQHO10_0 := A_.mk (Kd.R_reads' HO10_0.out).1.symm
 replace HO10_1 := A_.mk (Kd.R_reok rfl ho1_ (fun k_ e_ => HO10_1.out.1 k_ e_))
 have LQHO10_1 := A_.mk (Kd.R_reads' HO10_1.out).1.symm
 replace HO10_2 := A_.mk (Kd.R_reok rfl ho2_ (fun k_ e_ => HO10_2.out.1 k_ e_))
 have LQHO10_2 := A_.mk (Kd.R_reads' HO10_2.out).1.symm
 replace HO10_3 := A_.mk (Kd.R_reok rfl ho3_ (fun k_ e_ => HO10_3.out.1 k_ e_))
 have LQHO10_3 := A_.mk (Kd.R_reads' HO10_3.out).1.symm
 replace HO10_4 := A_.mk (Kd.S_mono (ok' := (fun k_ => ((w9_.heap.size ≤ k_ ∧ k_ < w10_.heap.size) ∧ f10_ k_ = 4))) ho4_ (fun _ z_ => z_))
 have LQHO10_4 := A_.mk (Kd.S_reads' HO10_4.out).1.symm
 replace HO10_5 := A_.mk (Kd.S_mono (ok' := (fun k_ => ((w9_.heap.size ≤ k_ ∧ k_ < w10_.heap.size) ∧ f10_ k_ = 5))) ho5_ (fun _ z_ => z_))
 have LQHO10_5 := A_.mk (Kd.S_reads' HO10_5.out).1.symm
 replace HB := A_.mk ho6_
 clear hkp ho0_ ho1_ ho2_ ho3_ ho4_ ho5_ ho6_ Q1 Q2 Q8 Q11 Q14 Q17
 have Q1 := blk6_ BK1.out
 have Q2 := blk8_ BK2.out
 have Q8 := blk6_ BK8.out
 have Q11 := blk6_ BK11.out
 have Q14 := blk8_ BK14.out
 have Q17 := blk6_ BK17.out
 go_wp2_with (fail)
 (with_reducible refine (laws_markPacket.calls k t30 t31 t32 t33 t34 t35 t36 (fun k_ => ((w12_.heap.size ≤ k_ ∧ k_ < w13_.heap.size))) (.slice Ao13_7 t37.length co13_7) t37 t62 t69 t70 w _ HB.out HO13_7.out A25.out).mono ?_)
 rintro e w25_ ⟨rfl, ho0_, ho1_, hkp⟩
 replace HS := aHs HS hkp.1
 replace HO7_0 := aVk HO7_0 hkp HS
 replace HO7_1 := aVk HO7_1 hkp HS
 replace HO7_2 := aVk HO7_2 hkp HS
 replace HO7_3 := aVk HO7_3 hkp HS
 replace HO7_4 := aVk HO7_4 hkp HS
 replace HO7_5 := aVk HO7_5 hkp HS
 replace HO16_0 := aRk HO16_0 hkp HS
 replace HO16_1 := aRk HO16_1 hkp HS
 replace HO16_2 := aRk HO16_2 hkp HS
 replace HO16_3 := aRk HO16_3 hkp HS
 replace HO16_4 := aSk HO16_4 hkp HS
 replace HO16_5 := aSk HO16_5 hkp HS
 replace BK1 := aBk BK1 hkp HS
 replace BK2 := aBk BK2 hkp HS
 replace BK8 := aBk BK8 hkp HS
 replace BK11 := aBk BK11 hkp HS
 replace BK14 := aBk BK14 hkp HS
 replace BK17 := aBk BK17 hkp HS
 replace HO13_7 := A_.mk (Kd.R_reok rfl ho0_ (fun k_ e_ => HO13_7.out.1 k_ e_))
 have LQHO13_7 := A_.mk (Kd.R_reads' HO13_7.out).1.symm
 replace HB := A_.mk ho1_
 clear hkp ho0_ ho1_ Q1 Q2 Q8 Q11 Q14 Q17
 have Q1 := blk6_ BK1.out
 have Q2 := blk8_ BK2.out
 have Q8 := blk6_ BK8.out
 have Q11 := blk6_ BK11.out
 have Q14 := blk8_ BK14.out
 have Q17 := blk6_ BK17.out
 replace H := H.out
 by_cases hc7_ : t69 < 0
 case pos =>
  rw [if_pos hc7_] at H
  have hc7_b0 : decide (t69 < 0) = true := decide_eq_true hc7_
  exact absurd H (by simp)
 rw [if_neg hc7_] at H
 have hc7_b0 : decide (t69 < 0) = false := decide_eq_false hc7_
 replace H := oa_ H
 obtain ⟨t71, A26, H⟩ := H
 replace H := A_.mk H
 go_wp2_with (fail)
 (with_reducible refine (laws_eqChannel.calls k _ _ t38 _ _ t39 _ _ t40 _ _ t41 _ _ t42 _ _ t43 _ _ t17 _ _ t18 _ _ t19 _ _ t20 _ _ t21 _ _ t22 t71 _ (Kd.R_reads' HO16_0.out).2.2 (Kd.R_reads' HO16_0.out).2.1 (Kd.R_reads' HO16_1.out).2.2 (Kd.R_reads' HO16_1.out).2.1 (Kd.R_reads' HO16_2.out).2.2 (Kd.R_reads' HO16_2.out).2.1 (Kd.R_reads' HO16_3.out).2.2 (Kd.R_reads' HO16_3.out).2.1 (Kd.S_reads' HO16_4.out).2.2 (Kd.S_reads' HO16_4.out).2.1 (Kd.S_reads' HO16_5.out).2.2 (Kd.S_reads' HO16_5.out).2.1 (Kd.V_reads' HO7_0.out).2.2 (Kd.V_reads' HO7_0.out).2.1 (Kd.V_reads' HO7_1.out).2.2 (Kd.V_reads' HO7_1.out).2.1 (Kd.V_reads' HO7_2.out).2.2 (Kd.V_reads' HO7_2.out).2.1 (Kd.V_reads' HO7_3.out).2.2 (Kd.V_reads' HO7_3.out).2.1 (Kd.V_reads' HO7_4.out).2.2 (Kd.V_reads' HO7_4.out).2.1 (Kd.V_reads' HO7_5.out).2.2 (Kd.V_reads' HO7_5.out).2.1 A26.out).mono ?_)
 rintro e w26_ ⟨rfl, hb⟩
 replace HS := aHs HS hb.size
 replace HO7_0 := aVb HO7_0 hb
 replace HO7_1 := aVb HO7_1 hb
 replace HO7_2 := aVb HO7_2 hb
 replace HO7_3 := aVb HO7_3 hb
 replace HO7_4 := aVb HO7_4 hb
 replace HO7_5 := aVb HO7_5 hb
 replace HO16_0 := aRb HO16_0 hb
 replace HO16_1 := aRb HO16_1 hb
 replace HO16_2 := aRb HO16_2 hb
 replace HO16_3 := aRb HO16_3 hb
 replace HO16_4 := aSb HO16_4 hb
 replace HO16_5 := aSb HO16_5 hb
 replace BK1 := aBb BK1 hb
 replace BK2 := aBb BK2 hb
 replace BK8 := aBb BK8 hb
 replace BK11 := aBb BK11 hb
 replace BK14 := aBb BK14 hb
 replace BK17 := aBb BK17 hb
 replace HB := aHB HB hb
 clear hb  Q1 Q2 Q8 Q11 Q14 Q17
 have Q1 := blk6_ BK1.out
 have Q2 := blk8_ BK2.out
 have Q8 := blk6_ BK8.out
 have Q11 := blk6_ BK11.out
 have Q14 := blk8_ BK14.out
 have Q17 := blk6_ BK17.out
 replace H := H.out
 by_cases hc8_ : t71 = true
 case neg =>
  rw [if_neg hc8_] at H
  replace hc8_ := eq_false_of_ne_true hc8_
  subst hc8_
  exact absurd H (by simp)
 rw [if_pos hc8_] at H
 subst hc8_
 replace H := oa_ H
 obtain ⟨⟨t72, t73, t74, t75, t76, t77, t78⟩, A27, H⟩ := H
 try dsimp only at H
 replace H := oa_ H
 obtain ⟨t79, A28, H⟩ := H
 replace H := A_.mk H
 go_wp2_with (fail)
 (with_reducible refine (laws_markChannel.calls k (fun k_ => (w15_.heap.size ≤ k_ ∧ k_ < w16_.heap.size)) f16_ (.slice Ao16_0 t38.length co16_0) t38 (.slice Ao16_1 t39.length co16_1) t39 (.slice Ao16_2 t40.length co16_2) t40 (.slice Ao16_3 t41.length co16_3) t41 (.slice Ao16_4 t42.length co16_4) t42 (.slice Ao16_5 t43.length co16_5) t43 1 t72 t73 t74 t75 t76 t77 t78 w _ HB.out HO16_0.out HO16_1.out HO16_2.out HO16_3.out HO16_4.out HO16_5.out A27.out).mono ?_)
 rintro e w27_ ⟨rfl, ho0_, ho1_, ho2_, ho3_, ho4_, ho5_, ho6_, hkp⟩
 replace HS := aHs HS hkp.1
 replace HO7_0 := aVk HO7_0 hkp HS
 replace HO7_1 := aVk HO7_1 hkp HS
 replace HO7_2 := aVk HO7_2 hkp HS
 replace HO7_3 := aVk HO7_3 hkp HS
 replace HO7_4 := aVk HO7_4 hkp HS
 replace HO7_5 := aVk HO7_5 hkp HS
 replace BK1 := aBk BK1 hkp HS
 replace BK2 := aBk BK2 hkp HS
 replace BK8 := aBk BK8 hkp HS
 replace BK11 := aBk BK11 hkp HS
 replace BK14 := aBk BK14 hkp HS
 replace BK17 := aBk BK17 hkp HS
 replace HO16_0 := A_.mk (Kd.R_reok rfl ho0_ (fun k_ e_ => HO16_0.out.1 k_ e_))
 have LQHO16_0 := A_.mk (Kd.R_reads' HO16_0.out).1.symm
 replace HO16_1 := A_.mk (Kd.R_reok rfl ho1_ (fun k_ e_ => HO16_1.out.1 k_ e_))
 have LQHO16_1 := A_.mk (Kd.R_reads' HO16_1.out).1.symm
 replace HO16_2 := A_.mk (Kd.R_reok rfl ho2_ (fun k_ e_ => HO16_2.out.1 k_ e_))
 have LQHO16_2 := A_.mk (Kd.R_reads' HO16_2.out).1.symm
 replace HO16_3 := A_.mk (Kd.R_reok rfl ho3_ (fun k_ e_ => HO16_3.out.1 k_ e_))
 have LQHO16_3 := A_.mk (Kd.R_reads' HO16_3.out).1.symm
 replace HO16_4 := A_.mk (Kd.S_mono (ok' := (fun k_ => ((w15_.heap.size ≤ k_ ∧ k_ < w16_.heap.size) ∧ f16_ k_ = 4))) ho4_ (fun _ z_ => z_))
 have LQHO16_4 := A_.mk (Kd.S_reads' HO16_4.out).1.symm
 replace HO16_5 := A_.mk (Kd.S_mono (ok' := (fun k_ => ((w15_.heap.size ≤ k_ ∧ k_ < w16_.heap.size) ∧ f16_ k_ = 5))) ho5_ (fun _ z_ => z_))
 have LQHO16_5 := A_.mk (Kd.S_reads' HO16_5.out).1.symm
 replace HB := A_.mk ho6_
 clear hkp ho0_ ho1_ ho2_ ho3_ ho4_ ho5_ ho6_ Q1 Q2 Q8 Q11 Q14 Q17
 have Q1 := blk6_ BK1.out
 have Q2 := blk8_ BK2.out
 have Q8 := blk6_ BK8.out
 have Q11 := blk6_ BK11.out
 have Q14 := blk8_ BK14.out
 have Q17 := blk6_ BK17.out
 go_wp2_with (fail)
 refine (calls_cast (by rw [LQHO16_0.out, LQHO16_1.out, LQHO16_2.out, LQHO16_3.out, LQHO16_4.out, LQHO16_5.out]) (laws_heldChannel.calls k _ _ t73 _ _ t74 _ _ t75 _ _ t76 _ _ t77 _ _ t78 1 t79 _ (Kd.R_reads' HO16_0.out).2.2 (by rw [LQHO16_0.out]; exact (Kd.R_reads' HO16_0.out).2.1) (Kd.R_reads' HO16_1.out).2.2 (by rw [LQHO16_1.out]; exact (Kd.R_reads' HO16_1.out).2.1) (Kd.R_reads' HO16_2.out).2.2 (by rw [LQHO16_2.out]; exact (Kd.R_reads' HO16_2.out).2.1) (Kd.R_reads' HO16_3.out).2.2 (by rw [LQHO16_3.out]; exact (Kd.R_reads' HO16_3.out).2.1) (Kd.S_reads' HO16_4.out).2.2 (by rw [LQHO16_4.out]; exact (Kd.S_reads' HO16_4.out).2.1) (Kd.S_reads' HO16_5.out).2.2 (by rw [LQHO16_5.out]; exact (Kd.S_reads' HO16_5.out).2.1) A28.out)).mono ?_
 rintro e w28_ ⟨rfl, hb⟩
 replace HS := aHs HS hb.size
 replace HO7_0 := aVb HO7_0 hb
 replace HO7_1 := aVb HO7_1 hb
 replace HO7_2 := aVb HO7_2 hb
 replace HO7_3 := aVb HO7_3 hb
 replace HO7_4 := aVb HO7_4 hb
 replace HO7_5 := aVb HO7_5 hb
 replace HO16_0 := aRb HO16_0 hb
 replace HO16_1 := aRb HO16_1 hb
 replace HO16_2 := aRb HO16_2 hb
 replace HO16_3 := aRb HO16_3 hb
 replace HO16_4 := aSb HO16_4 hb
 replace HO16_5 := aSb HO16_5 hb
 replace BK1 := aBb BK1 hb
 replace BK2 := aBb BK2 hb
 replace BK8 := aBb BK8 hb
 replace BK11 := aBb BK11 hb
 replace BK14 := aBb BK14 hb
 replace BK17 := aBb BK17 hb
 replace HB := aHB HB hb
 clear hb  Q1 Q2 Q8 Q11 Q14 Q17
 have Q1 := blk6_ BK1.out
 have Q2 := blk8_ BK2.out
 have Q8 := blk6_ BK8.out
 have Q11 := blk6_ BK11.out
 have Q14 := blk8_ BK14.out
 have Q17 := blk6_ BK17.out
 replace H := H.out
 by_cases hc9_ : t79 < 0
 case pos =>
  rw [if_pos hc9_] at H
  have hc9_b0 : decide (t79 < 0) = true := decide_eq_true hc9_
  exact absurd H (by simp)
 rw [if_neg hc9_] at H
 have hc9_b0 : decide (t79 < 0) = false := decide_eq_false hc9_
 by_cases hc10_ : t79 = t72
 case neg =>
  rw [if_neg hc10_] at H
  have hc10_b0 : (t79 == t72) = false := beq_eq_false_iff_ne.mpr hc10_
  have hc10_bn : (t79 != t72) = true := bne_iff_ne.mpr hc10_
  exact absurd H (by simp)
 rw [if_pos hc10_] at H
 have hc10_b0 : (t79 == t72) = true := beq_iff_eq.mpr hc10_
 have hc10_bn : (t79 != t72) = false := bne_eq_false_iff_eq.mpr hc10_
 replace hc10_ := A_.mk hc10_
 replace H := oa_ H
 obtain ⟨⟨t80, t81, t82, t83, t84, t85⟩, A29, H⟩ := H
 try dsimp only at H
 replace H := oa_ H
 obtain ⟨⟨t86, t87, t88, t89, t90, t91, t92, t93⟩, A30, H⟩ := H
 try dsimp only at H
 replace H := oa_ H
 obtain ⟨⟨t94, t95, t96, t97, t98, t99, t100⟩, A31, H⟩ := H
 try dsimp only at H
 replace H := oa_ H
 obtain ⟨t101, A34, H⟩ := H
 replace H := A_.mk H
 go_wp2_with (fail)
 refine start_ (n := 11) (S := fun w' => (w'.cell? ⟨gb1_, 0, none⟩ = some (.slice A0_0 l0_0.length c0_0) ∧ w'.cell? ⟨gb1_, 1, none⟩ = some (.slice A0_1 l0_1.length c0_1) ∧ w'.cell? ⟨gb1_, 2, none⟩ = some (.slice A0_2 l0_2.length c0_2) ∧ w'.cell? ⟨gb1_, 3, none⟩ = some (.slice A0_3 l0_3.length c0_3) ∧ w'.cell? ⟨gb1_, 4, none⟩ = some (.slice A0_4 l0_4.length c0_4) ∧ w'.cell? ⟨gb1_, 5, none⟩ = some (.slice A0_5 l0_5.length c0_5)) ∧ (w'.cell? ⟨gb2_, 0, none⟩ = some (.int .i64 a1_0) ∧ w'.cell? ⟨gb2_, 1, none⟩ = some (.int .i64 a1_1) ∧ w'.cell? ⟨gb2_, 2, none⟩ = some (.int .i64 a1_2) ∧ w'.cell? ⟨gb2_, 3, none⟩ = some (.int .i64 a1_3) ∧ w'.cell? ⟨gb2_, 4, none⟩ = some (.int .i64 a1_4) ∧ w'.cell? ⟨gb2_, 5, none⟩ = some (.int .i64 a1_5) ∧ w'.cell? ⟨gb2_, 6, none⟩ = some (.int .i64 a1_6) ∧ w'.cell? ⟨gb2_, 7, none⟩ = some (.slice A1_7 l1_7.length c1_7))) (ds := [9]) #[F, F, F, F, F, F, F, F, F, F, F] (by kernel_rfl) rfl rfl ⟨blk6_ BK1.out, blk8_ BK2.out⟩ (fun hHeld => ?_)
 clear Q1 Q2 Q8 Q11 Q14 Q17
 have hb := below_drew (Below.refl w28_.heap.size w28_)
 replace HS := aHs HS hb.size
 replace HO7_0 := aVb HO7_0 hb
 replace HO7_1 := aVb HO7_1 hb
 replace HO7_2 := aVb HO7_2 hb
 replace HO7_3 := aVb HO7_3 hb
 replace HO7_4 := aVb HO7_4 hb
 replace HO7_5 := aVb HO7_5 hb
 replace HO16_0 := aRb HO16_0 hb
 replace HO16_1 := aRb HO16_1 hb
 replace HO16_2 := aRb HO16_2 hb
 replace HO16_3 := aRb HO16_3 hb
 replace HO16_4 := aSb HO16_4 hb
 replace HO16_5 := aSb HO16_5 hb
 replace BK1 := aBb BK1 hb
 replace BK2 := aBb BK2 hb
 replace BK8 := aBb BK8 hb
 replace BK11 := aBb BK11 hb
 replace BK14 := aBb BK14 hb
 replace BK17 := aBb BK17 hb
 replace HB := aHB HB hb
 clear hb
 generalize w28_.drew = w39d_ at HO7_0 HO7_1 HO7_2 HO7_3 HO7_4 HO7_5 HO16_0 HO16_1 HO16_2 HO16_3 HO16_4 HO16_5 BK1 BK2 BK8 BK11 BK14 BK17 HB HS hHeld ⊢
 refine tl_ (i := 0) (N := some 95) #[T, F, F, F, F, F, F, F, F, F, F] rfl hHeld ?_
 refine tl_ (i := 2) (N := some 97) #[T, F, T, F, F, F, F, F, F, F, F] rfl hHeld ?_
 refine join_ (σ := Value × Value × Value × Value × Value × Value × Value × Value × Value × Value × Value × Value × Value × Nat × Nat × Nat × (Nat → Nat)) 2 #[T, T, T, T, T, T, T, T, T, F, F] (fun s_ => [(96, .agg #[s_.1, s_.2.1, s_.2.2.1, s_.2.2.2.1, s_.2.2.2.2.1, s_.2.2.2.2.2.1]), (98, .agg #[.int .i64 t86, .int .i64 t87, .int .i64 t88, .int .i64 t89, .int .i64 t90, .int .i64 t91, .int .i64 t92, s_.2.2.2.2.2.2.1]), (99, .tuple #[.agg #[s_.2.2.2.2.2.2.2.1, s_.2.2.2.2.2.2.2.2.1, s_.2.2.2.2.2.2.2.2.2.1, s_.2.2.2.2.2.2.2.2.2.2.1, s_.2.2.2.2.2.2.2.2.2.2.2.1, s_.2.2.2.2.2.2.2.2.2.2.2.2.1], .bool t100]), (94, .tuple #[.agg #[s_.2.2.2.2.2.2.2.1, s_.2.2.2.2.2.2.2.2.1, s_.2.2.2.2.2.2.2.2.2.1, s_.2.2.2.2.2.2.2.2.2.2.1, s_.2.2.2.2.2.2.2.2.2.2.2.1, s_.2.2.2.2.2.2.2.2.2.2.2.2.1], .bool t100]), (100, .agg #[s_.2.2.2.2.2.2.2.1, s_.2.2.2.2.2.2.2.2.1, s_.2.2.2.2.2.2.2.2.2.1, s_.2.2.2.2.2.2.2.2.2.2.1, s_.2.2.2.2.2.2.2.2.2.2.2.1, s_.2.2.2.2.2.2.2.2.2.2.2.2.1]), (101, .bool t100), (15, .pointer (some ⟨s_.2.2.2.2.2.2.2.2.2.2.2.2.2.1, 0, none⟩))]) (fun s_ w' => ((w'.cell? ⟨gb1_, 0, none⟩ = some (.slice A0_0 l0_0.length c0_0) ∧ w'.cell? ⟨gb1_, 1, none⟩ = some (.slice A0_1 l0_1.length c0_1) ∧ w'.cell? ⟨gb1_, 2, none⟩ = some (.slice A0_2 l0_2.length c0_2) ∧ w'.cell? ⟨gb1_, 3, none⟩ = some (.slice A0_3 l0_3.length c0_3) ∧ w'.cell? ⟨gb1_, 4, none⟩ = some (.slice A0_4 l0_4.length c0_4) ∧ w'.cell? ⟨gb1_, 5, none⟩ = some (.slice A0_5 l0_5.length c0_5)) ∧ (w'.cell? ⟨gb2_, 0, none⟩ = some (.int .i64 a1_0) ∧ w'.cell? ⟨gb2_, 1, none⟩ = some (.int .i64 a1_1) ∧ w'.cell? ⟨gb2_, 2, none⟩ = some (.int .i64 a1_2) ∧ w'.cell? ⟨gb2_, 3, none⟩ = some (.int .i64 a1_3) ∧ w'.cell? ⟨gb2_, 4, none⟩ = some (.int .i64 a1_4) ∧ w'.cell? ⟨gb2_, 5, none⟩ = some (.int .i64 a1_5) ∧ w'.cell? ⟨gb2_, 6, none⟩ = some (.int .i64 a1_6) ∧ w'.cell? ⟨gb2_, 7, none⟩ = some (.slice A1_7 l1_7.length c1_7))) ∧ Kd.V (Kd.int .i64) 3 w' w.heap.size (fun k_ => ((lo36j_ ≤ k_ ∧ k_ < up36j_))) (.slice Ao7_0 t17.length co7_0) t17 ∧ Kd.V (Kd.int .i64) 3 w' w.heap.size (fun k_ => ((lo36j_ ≤ k_ ∧ k_ < up36j_))) (.slice Ao7_1 t18.length co7_1) t18 ∧ Kd.V (Kd.int .i64) 3 w' w.heap.size (fun k_ => ((lo36j_ ≤ k_ ∧ k_ < up36j_))) (.slice Ao7_2 t19.length co7_2) t19 ∧ Kd.V (Kd.int .i64) 3 w' w.heap.size (fun k_ => ((lo36j_ ≤ k_ ∧ k_ < up36j_))) (.slice Ao7_3 t20.length co7_3) t20 ∧ Kd.V k38 38 w' w.heap.size (fun k_ => ((lo36j_ ≤ k_ ∧ k_ < up36j_))) (.slice Ao7_4 t21.length co7_4) t21 ∧ Kd.V k38 38 w' w.heap.size (fun k_ => ((lo36j_ ≤ k_ ∧ k_ < up36j_))) (.slice Ao7_5 t22.length co7_5) t22 ∧ Kd.R (Kd.int .i64) 3 w' w.heap.size (fun k_ => ((w15_.heap.size ≤ k_ ∧ k_ < w16_.heap.size) ∧ f16_ k_ = 0)) (.slice Ao16_0 t38.length co16_0) t73 ∧ Kd.R (Kd.int .i64) 3 w' w.heap.size (fun k_ => ((w15_.heap.size ≤ k_ ∧ k_ < w16_.heap.size) ∧ f16_ k_ = 1)) (.slice Ao16_1 t39.length co16_1) t74 ∧ Kd.R (Kd.int .i64) 3 w' w.heap.size (fun k_ => ((w15_.heap.size ≤ k_ ∧ k_ < w16_.heap.size) ∧ f16_ k_ = 2)) (.slice Ao16_2 t40.length co16_2) t75 ∧ Kd.R (Kd.int .i64) 3 w' w.heap.size (fun k_ => ((w15_.heap.size ≤ k_ ∧ k_ < w16_.heap.size) ∧ f16_ k_ = 3)) (.slice Ao16_3 t41.length co16_3) t76 ∧ Kd.S k38 38 w' w.heap.size (fun k_ => ((w15_.heap.size ≤ k_ ∧ k_ < w16_.heap.size) ∧ f16_ k_ = 4)) (.slice Ao16_4 t42.length co16_4) t77 ∧ Kd.S k38 38 w' w.heap.size (fun k_ => ((w15_.heap.size ≤ k_ ∧ k_ < w16_.heap.size) ∧ f16_ k_ = 5)) (.slice Ao16_5 t43.length co16_5) t78 ∧ w'.heap[gb1_]? = some (.cells #[.slice A0_0 l0_0.length c0_0, .slice A0_1 l0_1.length c0_1, .slice A0_2 l0_2.length c0_2, .slice A0_3 l0_3.length c0_3, .slice A0_4 l0_4.length c0_4, .slice A0_5 l0_5.length c0_5] 27 (0, 0)) ∧ w'.heap[gb2_]? = some (.cells #[.int .i64 a1_0, .int .i64 a1_1, .int .i64 a1_2, .int .i64 a1_3, .int .i64 a1_4, .int .i64 a1_5, .int .i64 a1_6, .slice A1_7 l1_7.length c1_7] 47 (0, 0)) ∧ w'.heap[gb8_]? = some (.cells #[.slice Ao7_0 t17.length co7_0, .slice Ao7_1 t18.length co7_1, .slice Ao7_2 t19.length co7_2, .slice Ao7_3 t20.length co7_3, .slice Ao7_4 t21.length co7_4, .slice Ao7_5 t22.length co7_5] 33 (0, 0)) ∧ w'.heap[gb11_]? = some (.cells #[.slice Ao10_0 t24.length co10_0, .slice Ao10_1 t25.length co10_1, .slice Ao10_2 t26.length co10_2, .slice Ao10_3 t27.length co10_3, .slice Ao10_4 t28.length co10_4, .slice Ao10_5 t29.length co10_5] 33 (0, 0)) ∧ w'.heap[gb14_]? = some (.cells #[.int .i64 t30, .int .i64 t31, .int .i64 t32, .int .i64 t33, .int .i64 t34, .int .i64 t35, .int .i64 t36, .slice Ao13_7 t37.length co13_7] 38 (0, 0)) ∧ w'.heap[gb17_]? = some (.cells #[.slice Ao16_0 t38.length co16_0, .slice Ao16_1 t39.length co16_1, .slice Ao16_2 t40.length co16_2, .slice Ao16_3 t41.length co16_3, .slice Ao16_4 t42.length co16_4, .slice Ao16_5 t43.length co16_5] 33 (0, 0)) ∧ Below w.heap.size w w' ∧ w39d_.heap.size ≤ w'.heap.size ∧ (w39d_.heap.size ≤ s_.2.2.2.2.2.2.2.2.2.2.2.2.2.2.1 ∧ s_.2.2.2.2.2.2.2.2.2.2.2.2.2.2.1 ≤ s_.2.2.2.2.2.2.2.2.2.2.2.2.2.2.2.1 ∧ s_.2.2.2.2.2.2.2.2.2.2.2.2.2.2.2.1 ≤ w'.heap.size) ∧ Kd.R (Kd.int .i64) 3 w' w.heap.size (fun k_ => (s_.2.2.2.2.2.2.2.2.2.2.2.2.2.2.1 ≤ k_ ∧ k_ < s_.2.2.2.2.2.2.2.2.2.2.2.2.2.2.2.1) ∧ s_.2.2.2.2.2.2.2.2.2.2.2.2.2.2.2.2 k_ = 0) s_.2.2.2.2.2.2.2.1 t94 ∧ Kd.R (Kd.int .i64) 3 w' w.heap.size (fun k_ => (s_.2.2.2.2.2.2.2.2.2.2.2.2.2.2.1 ≤ k_ ∧ k_ < s_.2.2.2.2.2.2.2.2.2.2.2.2.2.2.2.1) ∧ s_.2.2.2.2.2.2.2.2.2.2.2.2.2.2.2.2 k_ = 1) s_.2.2.2.2.2.2.2.2.1 t95 ∧ Kd.R (Kd.int .i64) 3 w' w.heap.size (fun k_ => (s_.2.2.2.2.2.2.2.2.2.2.2.2.2.2.1 ≤ k_ ∧ k_ < s_.2.2.2.2.2.2.2.2.2.2.2.2.2.2.2.1) ∧ s_.2.2.2.2.2.2.2.2.2.2.2.2.2.2.2.2 k_ = 2) s_.2.2.2.2.2.2.2.2.2.1 t96 ∧ Kd.R (Kd.int .i64) 3 w' w.heap.size (fun k_ => (s_.2.2.2.2.2.2.2.2.2.2.2.2.2.2.1 ≤ k_ ∧ k_ < s_.2.2.2.2.2.2.2.2.2.2.2.2.2.2.2.1) ∧ s_.2.2.2.2.2.2.2.2.2.2.2.2.2.2.2.2 k_ = 3) s_.2.2.2.2.2.2.2.2.2.2.1 t97 ∧ Kd.S k38 38 w' w.heap.size (fun k_ => (s_.2.2.2.2.2.2.2.2.2.2.2.2.2.2.1 ≤ k_ ∧ k_ < s_.2.2.2.2.2.2.2.2.2.2.2.2.2.2.2.1) ∧ s_.2.2.2.2.2.2.2.2.2.2.2.2.2.2.2.2 k_ = 4) s_.2.2.2.2.2.2.2.2.2.2.2.1 t98 ∧ Kd.S k38 38 w' w.heap.size (fun k_ => (s_.2.2.2.2.2.2.2.2.2.2.2.2.2.2.1 ≤ k_ ∧ k_ < s_.2.2.2.2.2.2.2.2.2.2.2.2.2.2.2.1) ∧ s_.2.2.2.2.2.2.2.2.2.2.2.2.2.2.2.2 k_ = 5) s_.2.2.2.2.2.2.2.2.2.2.2.2.1 t99 ∧ w'.heap[s_.2.2.2.2.2.2.2.2.2.2.2.2.2.1]? = some (.cells #[.slice none 0 0, .slice none 0 0, .slice none 0 0, .slice none 0 0, .slice none 0 0, .slice none 0 0] 33 (0, 0)) ∧ (w39d_.heap.size ≤ s_.2.2.2.2.2.2.2.2.2.2.2.2.2.1 ∧ s_.2.2.2.2.2.2.2.2.2.2.2.2.2.1 < w'.heap.size ∧ (s_.2.2.2.2.2.2.2.2.2.2.2.2.2.1 < s_.2.2.2.2.2.2.2.2.2.2.2.2.2.2.1 ∨ s_.2.2.2.2.2.2.2.2.2.2.2.2.2.2.2.1 ≤ s_.2.2.2.2.2.2.2.2.2.2.2.2.2.1))) ?_ ?_
 rotate_left
 ·intro hCont
  refine two_ (i := 1) (j := 8) (Ni := some 96) (Nj := some 15) #[T, T, T, F, F, F, F, F, F, F, F] #[T, F, T, F, F, F, F, F, T, F, F] rfl rfl rfl rfl (by kernel_rfl) (by decide) (by decide) (fun K hK => ?_) (fun K hK => ?_)
  ·skip
   refine gz_ Try.func10 #[.agg #[.slice A0_0 l0_0.length c0_0, .slice A0_1 l0_1.length c0_1, .slice A0_2 l0_2.length c0_2, .slice A0_3 l0_3.length c0_3, .slice A0_4 l0_4.length c0_4, .slice A0_5 l0_5.length c0_5]] ?_
   with_reducible refine (laws_toChannel.calls k _ _ l0_0 _ _ l0_1 _ _ l0_2 _ _ l0_3 _ _ l0_4 _ _ l0_5 t80 t81 t82 t83 t84 t85 _ (Kd.C_below HR0_0.out HB.out) HC0_0.out (Kd.C_below HR0_1.out HB.out) HC0_1.out (Kd.C_below HR0_2.out HB.out) HC0_2.out (Kd.C_below HR0_3.out HB.out) HC0_3.out (Kd.C_below HR0_4.out HB.out) HC0_4.out (Kd.C_below HR0_5.out HB.out) HC0_5.out A29.out).mono ?_
   rintro e w29_ ⟨f29_, v0_, v1_, v2_, v3_, v4_, v5_, rfl, ho0_, ho1_, ho2_, ho3_, ho4_, ho5_, hb⟩
   refine ⟨_, rfl, ?_⟩
   replace HS := aHs HS hb.size
   obtain ⟨Ao29_0, co29_0, ev_⟩ := Kd.R_slice ho0_
   subst ev_
   have HO29_0 := aRn ho0_ HB.out.size
   obtain ⟨Ao29_1, co29_1, ev_⟩ := Kd.R_slice ho1_
   subst ev_
   have HO29_1 := aRn ho1_ HB.out.size
   obtain ⟨Ao29_2, co29_2, ev_⟩ := Kd.R_slice ho2_
   subst ev_
   have HO29_2 := aRn ho2_ HB.out.size
   obtain ⟨Ao29_3, co29_3, ev_⟩ := Kd.R_slice ho3_
   subst ev_
   have HO29_3 := aRn ho3_ HB.out.size
   obtain ⟨Ao29_4, co29_4, ev_⟩ := Kd.S_slice ho4_
   subst ev_
   have HO29_4 := aSn ho4_ HB.out.size
   obtain ⟨Ao29_5, co29_5, ev_⟩ := Kd.S_slice ho5_
   subst ev_
   have HO29_5 := aSn ho5_ HB.out.size
   replace HO7_0 := aVb HO7_0 hb
   replace HO7_1 := aVb HO7_1 hb
   replace HO7_2 := aVb HO7_2 hb
   replace HO7_3 := aVb HO7_3 hb
   replace HO7_4 := aVb HO7_4 hb
   replace HO7_5 := aVb HO7_5 hb
   replace HO16_0 := aRb HO16_0 hb
   replace HO16_1 := aRb HO16_1 hb
   replace HO16_2 := aRb HO16_2 hb
   replace HO16_3 := aRb HO16_3 hb
   replace HO16_4 := aSb HO16_4 hb
   replace HO16_5 := aSb HO16_5 hb
   replace BK1 := aBb BK1 hb
   replace BK2 := aBb BK2 hb
   replace BK8 := aBb BK8 hb
   replace BK11 := aBb BK11 hb
   replace BK14 := aBb BK14 hb
   replace BK17 := aBb BK17 hb
   replace HB := aHB HB hb
   clear hb ho0_ ho1_ ho2_ ho3_ ho4_ ho5_
   refine hK.out _ _ ⟨blk6_ BK1.out, blk8_ BK2.out⟩ (fun hHeld => ?_)
   clear hK K
   refine nm_ ?_
   refine two_ (i := 3) (j := 8) (Ni := some 98) (Nj := some 15) #[T, T, T, T, F, F, F, F, F, F, F] #[T, T, T, F, F, F, F, F, T, F, F] rfl rfl rfl rfl (by kernel_rfl) (by decide) (by decide) (fun K hK => ?_) (fun K hK => ?_)
   ·skip
    refine gz_ Try.func24 #[.agg #[.int .i64 a1_0, .int .i64 a1_1, .int .i64 a1_2, .int .i64 a1_3, .int .i64 a1_4, .int .i64 a1_5, .int .i64 a1_6, .slice A1_7 l1_7.length c1_7]] ?_
    with_reducible refine (laws_toPacket.calls k a1_0 a1_1 a1_2 a1_3 a1_4 a1_5 a1_6 _ _ l1_7 t86 t87 t88 t89 t90 t91 t92 t93 _ (Kd.C_below HR1_7.out HB.out) HC1_7.out A30.out).mono ?_
    rintro e w30_ ⟨v7_, rfl, ho0_, hb⟩
    refine ⟨_, rfl, ?_⟩
    replace HS := aHs HS hb.size
    obtain ⟨Ao30_7, co30_7, ev_⟩ := Kd.R_slice ho0_
    subst ev_
    have HO30_7 := aRm ho0_ HB.out.size
    replace HO7_0 := aVb HO7_0 hb
    replace HO7_1 := aVb HO7_1 hb
    replace HO7_2 := aVb HO7_2 hb
    replace HO7_3 := aVb HO7_3 hb
    replace HO7_4 := aVb HO7_4 hb
    replace HO7_5 := aVb HO7_5 hb
    replace HO16_0 := aRb HO16_0 hb
    replace HO16_1 := aRb HO16_1 hb
    replace HO16_2 := aRb HO16_2 hb
    replace HO16_3 := aRb HO16_3 hb
    replace HO16_4 := aSb HO16_4 hb
    replace HO16_5 := aSb HO16_5 hb
    replace HO29_0 := aRb HO29_0 hb
    replace HO29_1 := aRb HO29_1 hb
    replace HO29_2 := aRb HO29_2 hb
    replace HO29_3 := aRb HO29_3 hb
    replace HO29_4 := aSb HO29_4 hb
    replace HO29_5 := aSb HO29_5 hb
    replace BK1 := aBb BK1 hb
    replace BK2 := aBb BK2 hb
    replace BK8 := aBb BK8 hb
    replace BK11 := aBb BK11 hb
    replace BK14 := aBb BK14 hb
    replace BK17 := aBb BK17 hb
    replace HB := aHB HB hb
    clear hb ho0_
    refine hK.out _ _ ⟨blk6_ BK1.out, blk8_ BK2.out⟩ (fun hHeld => ?_)
    clear hK K
    refine nm_ ?_
    refine two_ (i := 4) (j := 8) (Ni := some 99) (Nj := some 15) #[T, T, T, T, T, F, F, F, F, F, F] #[T, T, T, T, F, F, F, F, T, F, F] rfl rfl rfl rfl (by kernel_rfl) (by decide) (by decide) (fun K hK => ?_) (fun K hK => ?_)
    ·skip
     refine gz_ Try.func25 #[.agg #[.slice Ao29_0 t80.length co29_0, .slice Ao29_1 t81.length co29_1, .slice Ao29_2 t82.length co29_2, .slice Ao29_3 t83.length co29_3, .slice Ao29_4 t84.length co29_4, .slice Ao29_5 t85.length co29_5], .agg #[.int .i64 t86, .int .i64 t87, .int .i64 t88, .int .i64 t89, .int .i64 t90, .int .i64 t91, .int .i64 t92, .slice Ao30_7 t93.length co30_7]] ?_
     with_reducible refine (impl_PutPacket.calls k _ _ t80 _ _ t81 _ _ t82 _ _ t83 (fun k_ => ((w39d_.heap.size ≤ k_ ∧ k_ < w29_.heap.size) ∧ f29_ k_ = 4)) _ _ t84 (fun k_ => ((w39d_.heap.size ≤ k_ ∧ k_ < w29_.heap.size) ∧ f29_ k_ = 5)) _ _ t85 t86 t87 t88 t89 t90 t91 t92 _ _ t93 t94 t95 t96 t97 t98 t99 t100 _ (Kd.R_reads' HO29_0.out).2.2 (Kd.R_reads' HO29_0.out).2.1 (Kd.R_reads' HO29_1.out).2.2 (Kd.R_reads' HO29_1.out).2.1 (Kd.R_reads' HO29_2.out).2.2 (Kd.R_reads' HO29_2.out).2.1 (Kd.R_reads' HO29_3.out).2.2 (Kd.R_reads' HO29_3.out).2.1 (Kd.S_V HO29_4.out) (Kd.S_V HO29_5.out) (Kd.R_reads' HO30_7.out).2.2 (Kd.R_reads' HO30_7.out).2.1 A31.out).mono ?_
     rintro e w31_ ⟨f31_, v0_, v1_, v2_, v3_, v4_, v5_, rfl, ho0_, ho1_, ho2_, ho3_, ho4_, ho5_, hb⟩
     refine ⟨_, rfl, ?_⟩
     replace HS := aHs HS hb.size
     obtain ⟨Ao31_0, co31_0, ev_⟩ := Kd.R_slice ho0_
     subst ev_
     have HO31_0 := aRn ho0_ HB.out.size
     obtain ⟨Ao31_1, co31_1, ev_⟩ := Kd.R_slice ho1_
     subst ev_
     have HO31_1 := aRn ho1_ HB.out.size
     obtain ⟨Ao31_2, co31_2, ev_⟩ := Kd.R_slice ho2_
     subst ev_
     have HO31_2 := aRn ho2_ HB.out.size
     obtain ⟨Ao31_3, co31_3, ev_⟩ := Kd.R_slice ho3_
     subst ev_
     have HO31_3 := aRn ho3_ HB.out.size
     obtain ⟨Ao31_4, co31_4, ev_⟩ := Kd.S_slice ho4_
     subst ev_
     have HO31_4 := aSn ho4_ HB.out.size
     obtain ⟨Ao31_5, co31_5, ev_⟩ := Kd.S_slice ho5_
     subst ev_
     have HO31_5 := aSn ho5_ HB.out.size
     replace HO7_0 := aVb HO7_0 hb
     replace HO7_1 := aVb HO7_1 hb
     replace HO7_2 := aVb HO7_2 hb
     replace HO7_3 := aVb HO7_3 hb
     replace HO7_4 := aVb HO7_4 hb
     replace HO7_5 := aVb HO7_5 hb
     replace HO16_0 := aRb HO16_0 hb
     replace HO16_1 := aRb HO16_1 hb
     replace HO16_2 := aRb HO16_2 hb
     replace HO16_3 := aRb HO16_3 hb
     replace HO16_4 := aSb HO16_4 hb
     replace HO16_5 := aSb HO16_5 hb
     replace HO29_0 := aRb HO29_0 hb
     replace HO29_1 := aRb HO29_1 hb
     replace HO29_2 := aRb HO29_2 hb
     replace HO29_3 := aRb HO29_3 hb
     replace HO29_4 := aSb HO29_4 hb
     replace HO29_5 := aSb HO29_5 hb
     replace HO30_7 := aRb HO30_7 hb
     replace BK1 := aBb BK1 hb
     replace BK2 := aBb BK2 hb
     replace BK8 := aBb BK8 hb
     replace BK11 := aBb BK11 hb
     replace BK14 := aBb BK14 hb
     replace BK17 := aBb BK17 hb
     replace HB := aHB HB hb
     clear hb ho0_ ho1_ ho2_ ho3_ ho4_ ho5_
     refine hK.out _ _ ⟨blk6_ BK1.out, blk8_ BK2.out⟩ (fun hHeld => ?_)
     clear hK K
     refine nm_ ?_
     refine pd_ (i := 5) (N := some 94) #[T, T, T, T, T, T, F, F, F, F, F] rfl ?_
     refine pd_ (i := 6) (N := some 100) #[T, T, T, T, T, T, T, F, F, F, F] rfl ?_
     refine pd_ (i := 7) (N := some 101) #[T, T, T, T, T, T, T, T, F, F, F] rfl ?_
     refine on_ (i := 8) (N := some 15) #[T, T, T, T, T, T, T, T, T, F, F] rfl (fun K hK => ?_)
     refine box_step ?hg (N := 15) ?hd (cs := #[.slice none 0 0, .slice none 0 0, .slice none 0 0, .slice none 0 0, .slice none 0 0, .slice none 0 0]) (t := 33) ?hr ?_; (case hd => rfl); (case hg => rfl); (case hr => first | (go_simp; done) | (go_simp; rfl))
     intro gb32_ hg w32_ hbox hb
     replace HS := A_.mk (And.intro HS.out (show gb32_ = w31_.heap.size ∧ gb32_ < w32_.heap.size from ⟨hg, blk_lt hbox⟩))
     replace HO7_0 := aVb HO7_0 hb
     replace HO7_1 := aVb HO7_1 hb
     replace HO7_2 := aVb HO7_2 hb
     replace HO7_3 := aVb HO7_3 hb
     replace HO7_4 := aVb HO7_4 hb
     replace HO7_5 := aVb HO7_5 hb
     replace HO16_0 := aRb HO16_0 hb
     replace HO16_1 := aRb HO16_1 hb
     replace HO16_2 := aRb HO16_2 hb
     replace HO16_3 := aRb HO16_3 hb
     replace HO16_4 := aSb HO16_4 hb
     replace HO16_5 := aSb HO16_5 hb
     replace HO29_0 := aRb HO29_0 hb
     replace HO29_1 := aRb HO29_1 hb
     replace HO29_2 := aRb HO29_2 hb
     replace HO29_3 := aRb HO29_3 hb
     replace HO29_4 := aSb HO29_4 hb
     replace HO29_5 := aSb HO29_5 hb
     replace HO30_7 := aRb HO30_7 hb
     replace HO31_0 := aRb HO31_0 hb
     replace HO31_1 := aRb HO31_1 hb
     replace HO31_2 := aRb HO31_2 hb
     replace HO31_3 := aRb HO31_3 hb
     replace HO31_4 := aSb HO31_4 hb
     replace HO31_5 := aSb HO31_5 hb
     replace BK1 := aBb BK1 hb
     replace BK2 := aBb BK2 hb
     replace BK8 := aBb BK8 hb
     replace BK11 := aBb BK11 hb
     replace BK14 := aBb BK14 hb
     replace BK17 := aBb BK17 hb
     replace HB := aHB HB hb
     have BK32 := A_.mk hbox
     clear hbox hb hg
     refine hK.out _ _ ⟨blk6_ BK1.out, blk8_ BK2.out⟩ (fun hHeld => ?_)
     clear hK K
     refine nm_ ?_
     exact norm_ (by simp only [putAll, Act.put, List.setIfInBounds_toArray, List.set_cons_zero, List.set_cons_succ]) (hCont (.slice Ao29_0 t80.length co29_0, .slice Ao29_1 t81.length co29_1, .slice Ao29_2 t82.length co29_2, .slice Ao29_3 t83.length co29_3, .slice Ao29_4 t84.length co29_4, .slice Ao29_5 t85.length co29_5, .slice Ao30_7 t93.length co30_7, .slice Ao31_0 t94.length co31_0, .slice Ao31_1 t95.length co31_1, .slice Ao31_2 t96.length co31_2, .slice Ao31_3 t97.length co31_3, .slice Ao31_4 t98.length co31_4, .slice Ao31_5 t99.length co31_5, gb32_, (w30_.heap.size), (w31_.heap.size), f31_) _ ⟨hHeld, HO7_0.out, HO7_1.out, HO7_2.out, HO7_3.out, HO7_4.out, HO7_5.out, HO16_0.out, HO16_1.out, HO16_2.out, HO16_3.out, HO16_4.out, HO16_5.out, BK1.out, BK2.out, BK8.out, BK11.out, BK14.out, BK17.out, HB.out, (by have := HS.out; omega), (by have := HS.out; (try dsimp only); omega), HO31_0.out, HO31_1.out, HO31_2.out, HO31_3.out, HO31_4.out, HO31_5.out, BK32.out, (by have := HS.out; (try dsimp only); omega)⟩)
    ·skip
     refine box_step ?hg (N := 15) ?hd (cs := #[.slice none 0 0, .slice none 0 0, .slice none 0 0, .slice none 0 0, .slice none 0 0, .slice none 0 0]) (t := 33) ?hr ?_; (case hd => rfl); (case hg => rfl); (case hr => first | (go_simp; done) | (go_simp; rfl))
     intro gb32_ hg w32_ hbox hb
     replace HS := A_.mk (And.intro HS.out (show gb32_ = w30_.heap.size ∧ gb32_ < w32_.heap.size from ⟨hg, blk_lt hbox⟩))
     replace HO7_0 := aVb HO7_0 hb
     replace HO7_1 := aVb HO7_1 hb
     replace HO7_2 := aVb HO7_2 hb
     replace HO7_3 := aVb HO7_3 hb
     replace HO7_4 := aVb HO7_4 hb
     replace HO7_5 := aVb HO7_5 hb
     replace HO16_0 := aRb HO16_0 hb
     replace HO16_1 := aRb HO16_1 hb
     replace HO16_2 := aRb HO16_2 hb
     replace HO16_3 := aRb HO16_3 hb
     replace HO16_4 := aSb HO16_4 hb
     replace HO16_5 := aSb HO16_5 hb
     replace HO29_0 := aRb HO29_0 hb
     replace HO29_1 := aRb HO29_1 hb
     replace HO29_2 := aRb HO29_2 hb
     replace HO29_3 := aRb HO29_3 hb
     replace HO29_4 := aSb HO29_4 hb
     replace HO29_5 := aSb HO29_5 hb
     replace HO30_7 := aRb HO30_7 hb
     replace BK1 := aBb BK1 hb
     replace BK2 := aBb BK2 hb
     replace BK8 := aBb BK8 hb
     replace BK11 := aBb BK11 hb
     replace BK14 := aBb BK14 hb
     replace BK17 := aBb BK17 hb
     replace HB := aHB HB hb
     have BK32 := A_.mk hbox
     clear hbox hb hg
     refine hK.out _ _ ⟨blk6_ BK1.out, blk8_ BK2.out⟩ (fun hHeld => ?_)
     clear hK K
     refine nm_ ?_
     refine on_ (i := 4) (N := some 99) #[T, T, T, T, T, F, F, F, T, F, F] rfl (fun K hK => ?_)
     refine gz_ Try.func25 #[.agg #[.slice Ao29_0 t80.length co29_0, .slice Ao29_1 t81.length co29_1, .slice Ao29_2 t82.length co29_2, .slice Ao29_3 t83.length co29_3, .slice Ao29_4 t84.length co29_4, .slice Ao29_5 t85.length co29_5], .agg #[.int .i64 t86, .int .i64 t87, .int .i64 t88, .int .i64 t89, .int .i64 t90, .int .i64 t91, .int .i64 t92, .slice Ao30_7 t93.length co30_7]] ?_
     with_reducible refine (impl_PutPacket.calls k _ _ t80 _ _ t81 _ _ t82 _ _ t83 (fun k_ => ((w39d_.heap.size ≤ k_ ∧ k_ < w29_.heap.size) ∧ f29_ k_ = 4)) _ _ t84 (fun k_ => ((w39d_.heap.size ≤ k_ ∧ k_ < w29_.heap.size) ∧ f29_ k_ = 5)) _ _ t85 t86 t87 t88 t89 t90 t91 t92 _ _ t93 t94 t95 t96 t97 t98 t99 t100 _ (Kd.R_reads' HO29_0.out).2.2 (Kd.R_reads' HO29_0.out).2.1 (Kd.R_reads' HO29_1.out).2.2 (Kd.R_reads' HO29_1.out).2.1 (Kd.R_reads' HO29_2.out).2.2 (Kd.R_reads' HO29_2.out).2.1 (Kd.R_reads' HO29_3.out).2.2 (Kd.R_reads' HO29_3.out).2.1 (Kd.S_V HO29_4.out) (Kd.S_V HO29_5.out) (Kd.R_reads' HO30_7.out).2.2 (Kd.R_reads' HO30_7.out).2.1 A31.out).mono ?_
     rintro e w31_ ⟨f31_, v0_, v1_, v2_, v3_, v4_, v5_, rfl, ho0_, ho1_, ho2_, ho3_, ho4_, ho5_, hb⟩
     refine ⟨_, rfl, ?_⟩
     replace HS := aHs HS hb.size
     obtain ⟨Ao31_0, co31_0, ev_⟩ := Kd.R_slice ho0_
     subst ev_
     have HO31_0 := aRn ho0_ HB.out.size
     obtain ⟨Ao31_1, co31_1, ev_⟩ := Kd.R_slice ho1_
     subst ev_
     have HO31_1 := aRn ho1_ HB.out.size
     obtain ⟨Ao31_2, co31_2, ev_⟩ := Kd.R_slice ho2_
     subst ev_
     have HO31_2 := aRn ho2_ HB.out.size
     obtain ⟨Ao31_3, co31_3, ev_⟩ := Kd.R_slice ho3_
     subst ev_
     have HO31_3 := aRn ho3_ HB.out.size
     obtain ⟨Ao31_4, co31_4, ev_⟩ := Kd.S_slice ho4_
     subst ev_
     have HO31_4 := aSn ho4_ HB.out.size
     obtain ⟨Ao31_5, co31_5, ev_⟩ := Kd.S_slice ho5_
     subst ev_
     have HO31_5 := aSn ho5_ HB.out.size
     replace HO7_0 := aVb HO7_0 hb
     replace HO7_1 := aVb HO7_1 hb
     replace HO7_2 := aVb HO7_2 hb
     replace HO7_3 := aVb HO7_3 hb
     replace HO7_4 := aVb HO7_4 hb
     replace HO7_5 := aVb HO7_5 hb
     replace HO16_0 := aRb HO16_0 hb
     replace HO16_1 := aRb HO16_1 hb
     replace HO16_2 := aRb HO16_2 hb
     replace HO16_3 := aRb HO16_3 hb
     replace HO16_4 := aSb HO16_4 hb
     replace HO16_5 := aSb HO16_5 hb
     replace HO29_0 := aRb HO29_0 hb
     replace HO29_1 := aRb HO29_1 hb
     replace HO29_2 := aRb HO29_2 hb
     replace HO29_3 := aRb HO29_3 hb
     replace HO29_4 := aSb HO29_4 hb
     replace HO29_5 := aSb HO29_5 hb
     replace HO30_7 := aRb HO30_7 hb
     replace BK1 := aBb BK1 hb
     replace BK2 := aBb BK2 hb
     replace BK8 := aBb BK8 hb
     replace BK11 := aBb BK11 hb
     replace BK14 := aBb BK14 hb
     replace BK17 := aBb BK17 hb
     replace BK32 := aBb BK32 hb
     replace HB := aHB HB hb
     clear hb ho0_ ho1_ ho2_ ho3_ ho4_ ho5_
     refine hK.out _ _ ⟨blk6_ BK1.out, blk8_ BK2.out⟩ (fun hHeld => ?_)
     clear hK K
     refine nm_ ?_
     refine pd_ (i := 5) (N := some 94) #[T, T, T, T, T, T, F, F, T, F, F] rfl ?_
     refine pd_ (i := 6) (N := some 100) #[T, T, T, T, T, T, T, F, T, F, F] rfl ?_
     refine pd_ (i := 7) (N := some 101) #[T, T, T, T, T, T, T, T, T, F, F] rfl ?_
     exact norm_ (by simp only [putAll, Act.put, List.setIfInBounds_toArray, List.set_cons_zero, List.set_cons_succ]) (hCont (.slice Ao29_0 t80.length co29_0, .slice Ao29_1 t81.length co29_1, .slice Ao29_2 t82.length co29_2, .slice Ao29_3 t83.length co29_3, .slice Ao29_4 t84.length co29_4, .slice Ao29_5 t85.length co29_5, .slice Ao30_7 t93.length co30_7, .slice Ao31_0 t94.length co31_0, .slice Ao31_1 t95.length co31_1, .slice Ao31_2 t96.length co31_2, .slice Ao31_3 t97.length co31_3, .slice Ao31_4 t98.length co31_4, .slice Ao31_5 t99.length co31_5, gb32_, (w32_.heap.size), (w31_.heap.size), f31_) _ ⟨hHeld, HO7_0.out, HO7_1.out, HO7_2.out, HO7_3.out, HO7_4.out, HO7_5.out, HO16_0.out, HO16_1.out, HO16_2.out, HO16_3.out, HO16_4.out, HO16_5.out, BK1.out, BK2.out, BK8.out, BK11.out, BK14.out, BK17.out, HB.out, (by have := HS.out; omega), (by have := HS.out; (try dsimp only); omega), HO31_0.out, HO31_1.out, HO31_2.out, HO31_3.out, HO31_4.out, HO31_5.out, BK32.out, (by have := HS.out; (try dsimp only); omega)⟩)
   ·skip
    refine box_step ?hg (N := 15) ?hd (cs := #[.slice none 0 0, .slice none 0 0, .slice none 0 0, .slice none 0 0, .slice none 0 0, .slice none 0 0]) (t := 33) ?hr ?_; (case hd => rfl); (case hg => rfl); (case hr => first | (go_simp; done) | (go_simp; rfl))
    intro gb32_ hg w32_ hbox hb
    replace HS := A_.mk (And.intro HS.out (show gb32_ = w29_.heap.size ∧ gb32_ < w32_.heap.size from ⟨hg, blk_lt hbox⟩))
    replace HO7_0 := aVb HO7_0 hb
    replace HO7_1 := aVb HO7_1 hb
    replace HO7_2 := aVb HO7_2 hb
    replace HO7_3 := aVb HO7_3 hb
    replace HO7_4 := aVb HO7_4 hb
    replace HO7_5 := aVb HO7_5 hb
    replace HO16_0 := aRb HO16_0 hb
    replace HO16_1 := aRb HO16_1 hb
    replace HO16_2 := aRb HO16_2 hb
    replace HO16_3 := aRb HO16_3 hb
    replace HO16_4 := aSb HO16_4 hb
    replace HO16_5 := aSb HO16_5 hb
    replace HO29_0 := aRb HO29_0 hb
    replace HO29_1 := aRb HO29_1 hb
    replace HO29_2 := aRb HO29_2 hb
    replace HO29_3 := aRb HO29_3 hb
    replace HO29_4 := aSb HO29_4 hb
    replace HO29_5 := aSb HO29_5 hb
    replace BK1 := aBb BK1 hb
    replace BK2 := aBb BK2 hb
    replace BK8 := aBb BK8 hb
    replace BK11 := aBb BK11 hb
    replace BK14 := aBb BK14 hb
    replace BK17 := aBb BK17 hb
    replace HB := aHB HB hb
    have BK32 := A_.mk hbox
    clear hbox hb hg
    refine hK.out _ _ ⟨blk6_ BK1.out, blk8_ BK2.out⟩ (fun hHeld => ?_)
    clear hK K
    refine nm_ ?_
    refine on_ (i := 3) (N := some 98) #[T, T, T, T, F, F, F, F, T, F, F] rfl (fun K hK => ?_)
    refine gz_ Try.func24 #[.agg #[.int .i64 a1_0, .int .i64 a1_1, .int .i64 a1_2, .int .i64 a1_3, .int .i64 a1_4, .int .i64 a1_5, .int .i64 a1_6, .slice A1_7 l1_7.length c1_7]] ?_
    with_reducible refine (laws_toPacket.calls k a1_0 a1_1 a1_2 a1_3 a1_4 a1_5 a1_6 _ _ l1_7 t86 t87 t88 t89 t90 t91 t92 t93 _ (Kd.C_below HR1_7.out HB.out) HC1_7.out A30.out).mono ?_
    rintro e w30_ ⟨v7_, rfl, ho0_, hb⟩
    refine ⟨_, rfl, ?_⟩
    replace HS := aHs HS hb.size
    obtain ⟨Ao30_7, co30_7, ev_⟩ := Kd.R_slice ho0_
    subst ev_
    have HO30_7 := aRm ho0_ HB.out.size
    replace HO7_0 := aVb HO7_0 hb
    replace HO7_1 := aVb HO7_1 hb
    replace HO7_2 := aVb HO7_2 hb
    replace HO7_3 := aVb HO7_3 hb
    replace HO7_4 := aVb HO7_4 hb
    replace HO7_5 := aVb HO7_5 hb
    replace HO16_0 := aRb HO16_0 hb
    replace HO16_1 := aRb HO16_1 hb
    replace HO16_2 := aRb HO16_2 hb
    replace HO16_3 := aRb HO16_3 hb
    replace HO16_4 := aSb HO16_4 hb
    replace HO16_5 := aSb HO16_5 hb
    replace HO29_0 := aRb HO29_0 hb
    replace HO29_1 := aRb HO29_1 hb
    replace HO29_2 := aRb HO29_2 hb
    replace HO29_3 := aRb HO29_3 hb
    replace HO29_4 := aSb HO29_4 hb
    replace HO29_5 := aSb HO29_5 hb
    replace BK1 := aBb BK1 hb
    replace BK2 := aBb BK2 hb
    replace BK8 := aBb BK8 hb
    replace BK11 := aBb BK11 hb
    replace BK14 := aBb BK14 hb
    replace BK17 := aBb BK17 hb
    replace BK32 := aBb BK32 hb
    replace HB := aHB HB hb
    clear hb ho0_
    refine hK.out _ _ ⟨blk6_ BK1.out, blk8_ BK2.out⟩ (fun hHeld => ?_)
    clear hK K
    refine nm_ ?_
    refine on_ (i := 4) (N := some 99) #[T, T, T, T, T, F, F, F, T, F, F] rfl (fun K hK => ?_)
    refine gz_ Try.func25 #[.agg #[.slice Ao29_0 t80.length co29_0, .slice Ao29_1 t81.length co29_1, .slice Ao29_2 t82.length co29_2, .slice Ao29_3 t83.length co29_3, .slice Ao29_4 t84.length co29_4, .slice Ao29_5 t85.length co29_5], .agg #[.int .i64 t86, .int .i64 t87, .int .i64 t88, .int .i64 t89, .int .i64 t90, .int .i64 t91, .int .i64 t92, .slice Ao30_7 t93.length co30_7]] ?_
    with_reducible refine (impl_PutPacket.calls k _ _ t80 _ _ t81 _ _ t82 _ _ t83 (fun k_ => ((w39d_.heap.size ≤ k_ ∧ k_ < w29_.heap.size) ∧ f29_ k_ = 4)) _ _ t84 (fun k_ => ((w39d_.heap.size ≤ k_ ∧ k_ < w29_.heap.size) ∧ f29_ k_ = 5)) _ _ t85 t86 t87 t88 t89 t90 t91 t92 _ _ t93 t94 t95 t96 t97 t98 t99 t100 _ (Kd.R_reads' HO29_0.out).2.2 (Kd.R_reads' HO29_0.out).2.1 (Kd.R_reads' HO29_1.out).2.2 (Kd.R_reads' HO29_1.out).2.1 (Kd.R_reads' HO29_2.out).2.2 (Kd.R_reads' HO29_2.out).2.1 (Kd.R_reads' HO29_3.out).2.2 (Kd.R_reads' HO29_3.out).2.1 (Kd.S_V HO29_4.out) (Kd.S_V HO29_5.out) (Kd.R_reads' HO30_7.out).2.2 (Kd.R_reads' HO30_7.out).2.1 A31.out).mono ?_
    rintro e w31_ ⟨f31_, v0_, v1_, v2_, v3_, v4_, v5_, rfl, ho0_, ho1_, ho2_, ho3_, ho4_, ho5_, hb⟩
    refine ⟨_, rfl, ?_⟩
    replace HS := aHs HS hb.size
    obtain ⟨Ao31_0, co31_0, ev_⟩ := Kd.R_slice ho0_
    subst ev_
    have HO31_0 := aRn ho0_ HB.out.size
    obtain ⟨Ao31_1, co31_1, ev_⟩ := Kd.R_slice ho1_
    subst ev_
    have HO31_1 := aRn ho1_ HB.out.size
    obtain ⟨Ao31_2, co31_2, ev_⟩ := Kd.R_slice ho2_
    subst ev_
    have HO31_2 := aRn ho2_ HB.out.size
    obtain ⟨Ao31_3, co31_3, ev_⟩ := Kd.R_slice ho3_
    subst ev_
    have HO31_3 := aRn ho3_ HB.out.size
    obtain ⟨Ao31_4, co31_4, ev_⟩ := Kd.S_slice ho4_
    subst ev_
    have HO31_4 := aSn ho4_ HB.out.size
    obtain ⟨Ao31_5, co31_5, ev_⟩ := Kd.S_slice ho5_
    subst ev_
    have HO31_5 := aSn ho5_ HB.out.size
    replace HO7_0 := aVb HO7_0 hb
    replace HO7_1 := aVb HO7_1 hb
    replace HO7_2 := aVb HO7_2 hb
    replace HO7_3 := aVb HO7_3 hb
    replace HO7_4 := aVb HO7_4 hb
    replace HO7_5 := aVb HO7_5 hb
    replace HO16_0 := aRb HO16_0 hb
    replace HO16_1 := aRb HO16_1 hb
    replace HO16_2 := aRb HO16_2 hb
    replace HO16_3 := aRb HO16_3 hb
    replace HO16_4 := aSb HO16_4 hb
    replace HO16_5 := aSb HO16_5 hb
    replace HO29_0 := aRb HO29_0 hb
    replace HO29_1 := aRb HO29_1 hb
    replace HO29_2 := aRb HO29_2 hb
    replace HO29_3 := aRb HO29_3 hb
    replace HO29_4 := aSb HO29_4 hb
    replace HO29_5 := aSb HO29_5 hb
    replace HO30_7 := aRb HO30_7 hb
    replace BK1 := aBb BK1 hb
    replace BK2 := aBb BK2 hb
    replace BK8 := aBb BK8 hb
    replace BK11 := aBb BK11 hb
    replace BK14 := aBb BK14 hb
    replace BK17 := aBb BK17 hb
    replace BK32 := aBb BK32 hb
    replace HB := aHB HB hb
    clear hb ho0_ ho1_ ho2_ ho3_ ho4_ ho5_
    refine hK.out _ _ ⟨blk6_ BK1.out, blk8_ BK2.out⟩ (fun hHeld => ?_)
    clear hK K
    refine nm_ ?_
    refine pd_ (i := 5) (N := some 94) #[T, T, T, T, T, T, F, F, T, F, F] rfl ?_
    refine pd_ (i := 6) (N := some 100) #[T, T, T, T, T, T, T, F, T, F, F] rfl ?_
    refine pd_ (i := 7) (N := some 101) #[T, T, T, T, T, T, T, T, T, F, F] rfl ?_
    exact norm_ (by simp only [putAll, Act.put, List.setIfInBounds_toArray, List.set_cons_zero, List.set_cons_succ]) (hCont (.slice Ao29_0 t80.length co29_0, .slice Ao29_1 t81.length co29_1, .slice Ao29_2 t82.length co29_2, .slice Ao29_3 t83.length co29_3, .slice Ao29_4 t84.length co29_4, .slice Ao29_5 t85.length co29_5, .slice Ao30_7 t93.length co30_7, .slice Ao31_0 t94.length co31_0, .slice Ao31_1 t95.length co31_1, .slice Ao31_2 t96.length co31_2, .slice Ao31_3 t97.length co31_3, .slice Ao31_4 t98.length co31_4, .slice Ao31_5 t99.length co31_5, gb32_, (w30_.heap.size), (w31_.heap.size), f31_) _ ⟨hHeld, HO7_0.out, HO7_1.out, HO7_2.out, HO7_3.out, HO7_4.out, HO7_5.out, HO16_0.out, HO16_1.out, HO16_2.out, HO16_3.out, HO16_4.out, HO16_5.out, BK1.out, BK2.out, BK8.out, BK11.out, BK14.out, BK17.out, HB.out, (by have := HS.out; omega), (by have := HS.out; (try dsimp only); omega), HO31_0.out, HO31_1.out, HO31_2.out, HO31_3.out, HO31_4.out, HO31_5.out, BK32.out, (by have := HS.out; (try dsimp only); omega)⟩)
  ·skip
   refine box_step ?hg (N := 15) ?hd (cs := #[.slice none 0 0, .slice none 0 0, .slice none 0 0, .slice none 0 0, .slice none 0 0, .slice none 0 0]) (t := 33) ?hr ?_; (case hd => rfl); (case hg => rfl); (case hr => first | (go_simp; done) | (go_simp; rfl))
   intro gb32_ hg w32_ hbox hb
   replace HS := A_.mk (And.intro HS.out (show gb32_ = w39d_.heap.size ∧ gb32_ < w32_.heap.size from ⟨hg, blk_lt hbox⟩))
   replace HO7_0 := aVb HO7_0 hb
   replace HO7_1 := aVb HO7_1 hb
   replace HO7_2 := aVb HO7_2 hb
   replace HO7_3 := aVb HO7_3 hb
   replace HO7_4 := aVb HO7_4 hb
   replace HO7_5 := aVb HO7_5 hb
   replace HO16_0 := aRb HO16_0 hb
   replace HO16_1 := aRb HO16_1 hb
   replace HO16_2 := aRb HO16_2 hb
   replace HO16_3 := aRb HO16_3 hb
   replace HO16_4 := aSb HO16_4 hb
   replace HO16_5 := aSb HO16_5 hb
   replace BK1 := aBb BK1 hb
   replace BK2 := aBb BK2 hb
   replace BK8 := aBb BK8 hb
   replace BK11 := aBb BK11 hb
   replace BK14 := aBb BK14 hb
   replace BK17 := aBb BK17 hb
   replace HB := aHB HB hb
   have BK32 := A_.mk hbox
   clear hbox hb hg
   refine hK.out _ _ ⟨blk6_ BK1.out, blk8_ BK2.out⟩ (fun hHeld => ?_)
   clear hK K
   refine nm_ ?_
   refine on_ (i := 1) (N := some 96) #[T, T, T, F, F, F, F, F, T, F, F] rfl (fun K hK => ?_)
   refine gz_ Try.func10 #[.agg #[.slice A0_0 l0_0.length c0_0, .slice A0_1 l0_1.length c0_1, .slice A0_2 l0_2.length c0_2, .slice A0_3 l0_3.length c0_3, .slice A0_4 l0_4.length c0_4, .slice A0_5 l0_5.length c0_5]] ?_
   with_reducible refine (laws_toChannel.calls k _ _ l0_0 _ _ l0_1 _ _ l0_2 _ _ l0_3 _ _ l0_4 _ _ l0_5 t80 t81 t82 t83 t84 t85 _ (Kd.C_below HR0_0.out HB.out) HC0_0.out (Kd.C_below HR0_1.out HB.out) HC0_1.out (Kd.C_below HR0_2.out HB.out) HC0_2.out (Kd.C_below HR0_3.out HB.out) HC0_3.out (Kd.C_below HR0_4.out HB.out) HC0_4.out (Kd.C_below HR0_5.out HB.out) HC0_5.out A29.out).mono ?_
   rintro e w29_ ⟨f29_, v0_, v1_, v2_, v3_, v4_, v5_, rfl, ho0_, ho1_, ho2_, ho3_, ho4_, ho5_, hb⟩
   refine ⟨_, rfl, ?_⟩
   replace HS := aHs HS hb.size
   obtain ⟨Ao29_0, co29_0, ev_⟩ := Kd.R_slice ho0_
   subst ev_
   have HO29_0 := aRn ho0_ HB.out.size
   obtain ⟨Ao29_1, co29_1, ev_⟩ := Kd.R_slice ho1_
   subst ev_
   have HO29_1 := aRn ho1_ HB.out.size
   obtain ⟨Ao29_2, co29_2, ev_⟩ := Kd.R_slice ho2_
   subst ev_
   have HO29_2 := aRn ho2_ HB.out.size
   obtain ⟨Ao29_3, co29_3, ev_⟩ := Kd.R_slice ho3_
   subst ev_
   have HO29_3 := aRn ho3_ HB.out.size
   obtain ⟨Ao29_4, co29_4, ev_⟩ := Kd.S_slice ho4_
   subst ev_
   have HO29_4 := aSn ho4_ HB.out.size
   obtain ⟨Ao29_5, co29_5, ev_⟩ := Kd.S_slice ho5_
   subst ev_
   have HO29_5 := aSn ho5_ HB.out.size
   replace HO7_0 := aVb HO7_0 hb
   replace HO7_1 := aVb HO7_1 hb
   replace HO7_2 := aVb HO7_2 hb
   replace HO7_3 := aVb HO7_3 hb
   replace HO7_4 := aVb HO7_4 hb
   replace HO7_5 := aVb HO7_5 hb
   replace HO16_0 := aRb HO16_0 hb
   replace HO16_1 := aRb HO16_1 hb
   replace HO16_2 := aRb HO16_2 hb
   replace HO16_3 := aRb HO16_3 hb
   replace HO16_4 := aSb HO16_4 hb
   replace HO16_5 := aSb HO16_5 hb
   replace BK1 := aBb BK1 hb
   replace BK2 := aBb BK2 hb
   replace BK8 := aBb BK8 hb
   replace BK11 := aBb BK11 hb
   replace BK14 := aBb BK14 hb
   replace BK17 := aBb BK17 hb
   replace BK32 := aBb BK32 hb
   replace HB := aHB HB hb
   clear hb ho0_ ho1_ ho2_ ho3_ ho4_ ho5_
   refine hK.out _ _ ⟨blk6_ BK1.out, blk8_ BK2.out⟩ (fun hHeld => ?_)
   clear hK K
   refine nm_ ?_
   refine on_ (i := 3) (N := some 98) #[T, T, T, T, F, F, F, F, T, F, F] rfl (fun K hK => ?_)
   refine gz_ Try.func24 #[.agg #[.int .i64 a1_0, .int .i64 a1_1, .int .i64 a1_2, .int .i64 a1_3, .int .i64 a1_4, .int .i64 a1_5, .int .i64 a1_6, .slice A1_7 l1_7.length c1_7]] ?_
   with_reducible refine (laws_toPacket.calls k a1_0 a1_1 a1_2 a1_3 a1_4 a1_5 a1_6 _ _ l1_7 t86 t87 t88 t89 t90 t91 t92 t93 _ (Kd.C_below HR1_7.out HB.out) HC1_7.out A30.out).mono ?_
   rintro e w30_ ⟨v7_, rfl, ho0_, hb⟩
   refine ⟨_, rfl, ?_⟩
   replace HS := aHs HS hb.size
   obtain ⟨Ao30_7, co30_7, ev_⟩ := Kd.R_slice ho0_
   subst ev_
   have HO30_7 := aRm ho0_ HB.out.size
   replace HO7_0 := aVb HO7_0 hb
   replace HO7_1 := aVb HO7_1 hb
   replace HO7_2 := aVb HO7_2 hb
   replace HO7_3 := aVb HO7_3 hb
   replace HO7_4 := aVb HO7_4 hb
   replace HO7_5 := aVb HO7_5 hb
   replace HO16_0 := aRb HO16_0 hb
   replace HO16_1 := aRb HO16_1 hb
   replace HO16_2 := aRb HO16_2 hb
   replace HO16_3 := aRb HO16_3 hb
   replace HO16_4 := aSb HO16_4 hb
   replace HO16_5 := aSb HO16_5 hb
   replace HO29_0 := aRb HO29_0 hb
   replace HO29_1 := aRb HO29_1 hb
   replace HO29_2 := aRb HO29_2 hb
   replace HO29_3 := aRb HO29_3 hb
   replace HO29_4 := aSb HO29_4 hb
   replace HO29_5 := aSb HO29_5 hb
   replace BK1 := aBb BK1 hb
   replace BK2 := aBb BK2 hb
   replace BK8 := aBb BK8 hb
   replace BK11 := aBb BK11 hb
   replace BK14 := aBb BK14 hb
   replace BK17 := aBb BK17 hb
   replace BK32 := aBb BK32 hb
   replace HB := aHB HB hb
   clear hb ho0_
   refine hK.out _ _ ⟨blk6_ BK1.out, blk8_ BK2.out⟩ (fun hHeld => ?_)
   clear hK K
   refine nm_ ?_
   refine on_ (i := 4) (N := some 99) #[T, T, T, T, T, F, F, F, T, F, F] rfl (fun K hK => ?_)
   refine gz_ Try.func25 #[.agg #[.slice Ao29_0 t80.length co29_0, .slice Ao29_1 t81.length co29_1, .slice Ao29_2 t82.length co29_2, .slice Ao29_3 t83.length co29_3, .slice Ao29_4 t84.length co29_4, .slice Ao29_5 t85.length co29_5], .agg #[.int .i64 t86, .int .i64 t87, .int .i64 t88, .int .i64 t89, .int .i64 t90, .int .i64 t91, .int .i64 t92, .slice Ao30_7 t93.length co30_7]] ?_
   with_reducible refine (impl_PutPacket.calls k _ _ t80 _ _ t81 _ _ t82 _ _ t83 (fun k_ => ((w32_.heap.size ≤ k_ ∧ k_ < w29_.heap.size) ∧ f29_ k_ = 4)) _ _ t84 (fun k_ => ((w32_.heap.size ≤ k_ ∧ k_ < w29_.heap.size) ∧ f29_ k_ = 5)) _ _ t85 t86 t87 t88 t89 t90 t91 t92 _ _ t93 t94 t95 t96 t97 t98 t99 t100 _ (Kd.R_reads' HO29_0.out).2.2 (Kd.R_reads' HO29_0.out).2.1 (Kd.R_reads' HO29_1.out).2.2 (Kd.R_reads' HO29_1.out).2.1 (Kd.R_reads' HO29_2.out).2.2 (Kd.R_reads' HO29_2.out).2.1 (Kd.R_reads' HO29_3.out).2.2 (Kd.R_reads' HO29_3.out).2.1 (Kd.S_V HO29_4.out) (Kd.S_V HO29_5.out) (Kd.R_reads' HO30_7.out).2.2 (Kd.R_reads' HO30_7.out).2.1 A31.out).mono ?_
   rintro e w31_ ⟨f31_, v0_, v1_, v2_, v3_, v4_, v5_, rfl, ho0_, ho1_, ho2_, ho3_, ho4_, ho5_, hb⟩
   refine ⟨_, rfl, ?_⟩
   replace HS := aHs HS hb.size
   obtain ⟨Ao31_0, co31_0, ev_⟩ := Kd.R_slice ho0_
   subst ev_
   have HO31_0 := aRn ho0_ HB.out.size
   obtain ⟨Ao31_1, co31_1, ev_⟩ := Kd.R_slice ho1_
   subst ev_
   have HO31_1 := aRn ho1_ HB.out.size
   obtain ⟨Ao31_2, co31_2, ev_⟩ := Kd.R_slice ho2_
   subst ev_
   have HO31_2 := aRn ho2_ HB.out.size
   obtain ⟨Ao31_3, co31_3, ev_⟩ := Kd.R_slice ho3_
   subst ev_
   have HO31_3 := aRn ho3_ HB.out.size
   obtain ⟨Ao31_4, co31_4, ev_⟩ := Kd.S_slice ho4_
   subst ev_
   have HO31_4 := aSn ho4_ HB.out.size
   obtain ⟨Ao31_5, co31_5, ev_⟩ := Kd.S_slice ho5_
   subst ev_
   have HO31_5 := aSn ho5_ HB.out.size
   replace HO7_0 := aVb HO7_0 hb
   replace HO7_1 := aVb HO7_1 hb
   replace HO7_2 := aVb HO7_2 hb
   replace HO7_3 := aVb HO7_3 hb
   replace HO7_4 := aVb HO7_4 hb
   replace HO7_5 := aVb HO7_5 hb
   replace HO16_0 := aRb HO16_0 hb
   replace HO16_1 := aRb HO16_1 hb
   replace HO16_2 := aRb HO16_2 hb
   replace HO16_3 := aRb HO16_3 hb
   replace HO16_4 := aSb HO16_4 hb
   replace HO16_5 := aSb HO16_5 hb
   replace HO29_0 := aRb HO29_0 hb
   replace HO29_1 := aRb HO29_1 hb
   replace HO29_2 := aRb HO29_2 hb
   replace HO29_3 := aRb HO29_3 hb
   replace HO29_4 := aSb HO29_4 hb
   replace HO29_5 := aSb HO29_5 hb
   replace HO30_7 := aRb HO30_7 hb
   replace BK1 := aBb BK1 hb
   replace BK2 := aBb BK2 hb
   replace BK8 := aBb BK8 hb
   replace BK11 := aBb BK11 hb
   replace BK14 := aBb BK14 hb
   replace BK17 := aBb BK17 hb
   replace BK32 := aBb BK32 hb
   replace HB := aHB HB hb
   clear hb ho0_ ho1_ ho2_ ho3_ ho4_ ho5_
   refine hK.out _ _ ⟨blk6_ BK1.out, blk8_ BK2.out⟩ (fun hHeld => ?_)
   clear hK K
   refine nm_ ?_
   refine pd_ (i := 5) (N := some 94) #[T, T, T, T, T, T, F, F, T, F, F] rfl ?_
   refine pd_ (i := 6) (N := some 100) #[T, T, T, T, T, T, T, F, T, F, F] rfl ?_
   refine pd_ (i := 7) (N := some 101) #[T, T, T, T, T, T, T, T, T, F, F] rfl ?_
   exact norm_ (by simp only [putAll, Act.put, List.setIfInBounds_toArray, List.set_cons_zero, List.set_cons_succ]) (hCont (.slice Ao29_0 t80.length co29_0, .slice Ao29_1 t81.length co29_1, .slice Ao29_2 t82.length co29_2, .slice Ao29_3 t83.length co29_3, .slice Ao29_4 t84.length co29_4, .slice Ao29_5 t85.length co29_5, .slice Ao30_7 t93.length co30_7, .slice Ao31_0 t94.length co31_0, .slice Ao31_1 t95.length co31_1, .slice Ao31_2 t96.length co31_2, .slice Ao31_3 t97.length co31_3, .slice Ao31_4 t98.length co31_4, .slice Ao31_5 t99.length co31_5, gb32_, (w30_.heap.size), (w31_.heap.size), f31_) _ ⟨hHeld, HO7_0.out, HO7_1.out, HO7_2.out, HO7_3.out, HO7_4.out, HO7_5.out, HO16_0.out, HO16_1.out, HO16_2.out, HO16_3.out, HO16_4.out, HO16_5.out, BK1.out, BK2.out, BK8.out, BK11.out, BK14.out, BK17.out, HB.out, (by have := HS.out; omega), (by have := HS.out; (try dsimp only); omega), HO31_0.out, HO31_1.out, HO31_2.out, HO31_3.out, HO31_4.out, HO31_5.out, BK32.out, (by have := HS.out; (try dsimp only); omega)⟩)
 rintro ⟨z0_, z1_, z2_, z3_, z4_, z5_, z6_, z7_, z8_, z9_, z10_, z11_, z12_, gb32_, lo39j_, up39j_, f31_⟩ w39j_ ⟨hHeld, m0_, m1_, m2_, m3_, m4_, m5_, m6_, m7_, m8_, m9_, m10_, m11_, m12_, m13_, m14_, m15_, m16_, m17_, m18_, m19_, m20_, m21_, m22_, m23_, m24_, m25_, m26_, m27_, m28_⟩
 replace HO7_0 := A_.mk m0_
 replace HO7_1 := A_.mk m1_
 replace HO7_2 := A_.mk m2_
 replace HO7_3 := A_.mk m3_
 replace HO7_4 := A_.mk m4_
 replace HO7_5 := A_.mk m5_
 replace HO16_0 := A_.mk m6_
 replace HO16_1 := A_.mk m7_
 replace HO16_2 := A_.mk m8_
 replace HO16_3 := A_.mk m9_
 replace HO16_4 := A_.mk m10_
 replace HO16_5 := A_.mk m11_
 replace BK1 := A_.mk m12_
 replace BK2 := A_.mk m13_
 replace BK8 := A_.mk m14_
 replace BK11 := A_.mk m15_
 replace BK14 := A_.mk m16_
 replace BK17 := A_.mk m17_
 replace HB := A_.mk m18_
 replace HS := A_.mk (And.intro HS.out m19_)
 replace HS := A_.mk (And.intro HS.out (show w39d_.heap.size ≤ lo39j_ ∧ lo39j_ ≤ up39j_ ∧ up39j_ ≤ w39j_.heap.size from m20_))
 obtain ⟨Ao31_0, co31_0, ev_⟩ := Kd.R_slice m21_
 replace ev_ : z7_ = _ := ev_
 subst ev_
 have HO31_0 := A_.mk (show Kd.R (Kd.int .i64) 3 w39j_ w.heap.size (fun k_ => ((lo39j_ ≤ k_ ∧ k_ < up39j_) ∧ f31_ k_ = 0)) (.slice Ao31_0 t94.length co31_0) t94 from m21_)
 obtain ⟨Ao31_1, co31_1, ev_⟩ := Kd.R_slice m22_
 replace ev_ : z8_ = _ := ev_
 subst ev_
 have HO31_1 := A_.mk (show Kd.R (Kd.int .i64) 3 w39j_ w.heap.size (fun k_ => ((lo39j_ ≤ k_ ∧ k_ < up39j_) ∧ f31_ k_ = 1)) (.slice Ao31_1 t95.length co31_1) t95 from m22_)
 obtain ⟨Ao31_2, co31_2, ev_⟩ := Kd.R_slice m23_
 replace ev_ : z9_ = _ := ev_
 subst ev_
 have HO31_2 := A_.mk (show Kd.R (Kd.int .i64) 3 w39j_ w.heap.size (fun k_ => ((lo39j_ ≤ k_ ∧ k_ < up39j_) ∧ f31_ k_ = 2)) (.slice Ao31_2 t96.length co31_2) t96 from m23_)
 obtain ⟨Ao31_3, co31_3, ev_⟩ := Kd.R_slice m24_
 replace ev_ : z10_ = _ := ev_
 subst ev_
 have HO31_3 := A_.mk (show Kd.R (Kd.int .i64) 3 w39j_ w.heap.size (fun k_ => ((lo39j_ ≤ k_ ∧ k_ < up39j_) ∧ f31_ k_ = 3)) (.slice Ao31_3 t97.length co31_3) t97 from m24_)
 obtain ⟨Ao31_4, co31_4, ev_⟩ := Kd.S_slice m25_
 replace ev_ : z11_ = _ := ev_
 subst ev_
 have HO31_4 := A_.mk (show Kd.S k38 38 w39j_ w.heap.size (fun k_ => ((lo39j_ ≤ k_ ∧ k_ < up39j_) ∧ f31_ k_ = 4)) (.slice Ao31_4 t98.length co31_4) t98 from m25_)
 obtain ⟨Ao31_5, co31_5, ev_⟩ := Kd.S_slice m26_
 replace ev_ : z12_ = _ := ev_
 subst ev_
 have HO31_5 := A_.mk (show Kd.S k38 38 w39j_ w.heap.size (fun k_ => ((lo39j_ ≤ k_ ∧ k_ < up39j_) ∧ f31_ k_ = 5)) (.slice Ao31_5 t99.length co31_5) t99 from m26_)
 have BK32 := A_.mk (show w39j_.heap[gb32_]? = some (.cells #[.slice none 0 0, .slice none 0 0, .slice none 0 0, .slice none 0 0, .slice none 0 0, .slice none 0 0] 33 (0, 0)) from m27_)
 replace HS := A_.mk (And.intro HS.out (show w39d_.heap.size ≤ gb32_ ∧ gb32_ < w39j_.heap.size ∧ (gb32_ < lo39j_ ∨ up39j_ ≤ gb32_) from m28_))
 clear m0_ m1_ m2_ m3_ m4_ m5_ m6_ m7_ m8_ m9_ m10_ m11_ m12_ m13_ m14_ m15_ m16_ m17_ m18_ m19_ m20_ m21_ m22_ m23_ m24_ m25_ m26_ m27_ m28_
 refine norm_ (a' := ?_) ?_ ?_
 rotate_left
 ·simp only [putAll, Act.put, List.setIfInBounds_toArray, List.set_cons_zero, List.set_cons_succ]
  rfl
 refine last_ (i := 9) (N := none) #[T, T, T, T, T, T, T, T, T, T, F] rfl rfl (by kernel_rfl) (by decide) (fun K hK => ?_)
 have Q1 := blk6_ BK1.out
 have Q2 := blk8_ BK2.out
 have Q8 := blk6_ BK8.out
 have Q11 := blk6_ BK11.out
 have Q14 := blk8_ BK14.out
 have Q17 := blk6_ BK17.out
 have Q32 := blk6_ BK32.out
 have qf0 := bf_ BK32.out 0; have qf1 := bf_ BK32.out 1; have qf2 := bf_ BK32.out 2; have qf3 := bf_ BK32.out 3; have qf4 := bf_ BK32.out 4; have qf5 := bf_ BK32.out 5
 obtain ⟨w33_, hw⟩ : ∃ q_ : World, q_ = (ch6_ w39j_ gb32_ (.slice Ao31_0 t94.length co31_0) (.slice Ao31_1 t95.length co31_1) (.slice Ao31_2 t96.length co31_2) (.slice Ao31_3 t97.length co31_3) (.slice Ao31_4 t98.length co31_4) (.slice Ao31_5 t99.length co31_5)) := ⟨_, rfl⟩
 refine skip_ (w1 := w33_) (by rfl) rfl ?_ ?_
 ·rw [hw]; go_simp; try rfl
 refine hK.out _ _ ?_
 clear hK K qf0 qf1 qf2 qf3 qf4 qf5 Q1 Q2 Q8 Q11 Q14 Q17 Q32
 obtain ⟨hbx, hkp, hbb⟩ := st6_ hw BK32 HB (by have := HS.out; omega)
 clear hw
 replace HO7_0 := aVk HO7_0 hkp HS
 replace HO7_1 := aVk HO7_1 hkp HS
 replace HO7_2 := aVk HO7_2 hkp HS
 replace HO7_3 := aVk HO7_3 hkp HS
 replace HO7_4 := aVk HO7_4 hkp HS
 replace HO7_5 := aVk HO7_5 hkp HS
 replace HO16_0 := aRk HO16_0 hkp HS
 replace HO16_1 := aRk HO16_1 hkp HS
 replace HO16_2 := aRk HO16_2 hkp HS
 replace HO16_3 := aRk HO16_3 hkp HS
 replace HO16_4 := aSk HO16_4 hkp HS
 replace HO16_5 := aSk HO16_5 hkp HS
 replace HO31_0 := aRk HO31_0 hkp HS
 replace HO31_1 := aRk HO31_1 hkp HS
 replace HO31_2 := aRk HO31_2 hkp HS
 replace HO31_3 := aRk HO31_3 hkp HS
 replace HO31_4 := aSk HO31_4 hkp HS
 replace HO31_5 := aSk HO31_5 hkp HS
 replace BK1 := aBk BK1 hkp HS
 replace BK2 := aBk BK2 hkp HS
 replace BK8 := aBk BK8 hkp HS
 replace BK11 := aBk BK11 hkp HS
 replace BK14 := aBk BK14 hkp HS
 replace BK17 := aBk BK17 hkp HS
 replace BK32 := A_.mk hbx
 replace HB := A_.mk hbb
 replace HS := aHs HS hkp.1
 clear hkp hbb hbx
 refine pd_ (i := 10) (N := some 16) #[T, T, T, T, T, T, T, T, T, T, T] rfl ?_
 refine done_ (by kernel_rfl) ?_
 have Q1 := blk6_ BK1.out
 have Q2 := blk8_ BK2.out
 have Q8 := blk6_ BK8.out
 have Q11 := blk6_ BK11.out
 have Q14 := blk8_ BK14.out
 have Q17 := blk6_ BK17.out
 have Q32 := blk6_ BK32.out
 go_wp2_with (fail)
 (with_reducible refine (laws_eqChannel.calls k _ _ t94 _ _ t95 _ _ t96 _ _ t97 _ _ t98 _ _ t99 _ _ t17 _ _ t18 _ _ t19 _ _ t20 _ _ t21 _ _ t22 t101 _ (Kd.R_reads' HO31_0.out).2.2 (Kd.R_reads' HO31_0.out).2.1 (Kd.R_reads' HO31_1.out).2.2 (Kd.R_reads' HO31_1.out).2.1 (Kd.R_reads' HO31_2.out).2.2 (Kd.R_reads' HO31_2.out).2.1 (Kd.R_reads' HO31_3.out).2.2 (Kd.R_reads' HO31_3.out).2.1 (Kd.S_reads' HO31_4.out).2.2 (Kd.S_reads' HO31_4.out).2.1 (Kd.S_reads' HO31_5.out).2.2 (Kd.S_reads' HO31_5.out).2.1 (Kd.V_reads' HO7_0.out).2.2 (Kd.V_reads' HO7_0.out).2.1 (Kd.V_reads' HO7_1.out).2.2 (Kd.V_reads' HO7_1.out).2.1 (Kd.V_reads' HO7_2.out).2.2 (Kd.V_reads' HO7_2.out).2.1 (Kd.V_reads' HO7_3.out).2.2 (Kd.V_reads' HO7_3.out).2.1 (Kd.V_reads' HO7_4.out).2.2 (Kd.V_reads' HO7_4.out).2.1 (Kd.V_reads' HO7_5.out).2.2 (Kd.V_reads' HO7_5.out).2.1 A34.out).mono ?_)
 rintro e w34_ ⟨rfl, hb⟩
 replace HS := aHs HS hb.size
 replace HO7_0 := aVb HO7_0 hb
 replace HO7_1 := aVb HO7_1 hb
 replace HO7_2 := aVb HO7_2 hb
 replace HO7_3 := aVb HO7_3 hb
 replace HO7_4 := aVb HO7_4 hb
 replace HO7_5 := aVb HO7_5 hb
 replace HO16_0 := aRb HO16_0 hb
 replace HO16_1 := aRb HO16_1 hb
 replace HO16_2 := aRb HO16_2 hb
 replace HO16_3 := aRb HO16_3 hb
 replace HO16_4 := aSb HO16_4 hb
 replace HO16_5 := aSb HO16_5 hb
 replace HO31_0 := aRb HO31_0 hb
 replace HO31_1 := aRb HO31_1 hb
 replace HO31_2 := aRb HO31_2 hb
 replace HO31_3 := aRb HO31_3 hb
 replace HO31_4 := aSb HO31_4 hb
 replace HO31_5 := aSb HO31_5 hb
 replace BK1 := aBb BK1 hb
 replace BK2 := aBb BK2 hb
 replace BK8 := aBb BK8 hb
 replace BK11 := aBb BK11 hb
 replace BK14 := aBb BK14 hb
 replace BK17 := aBb BK17 hb
 replace BK32 := aBb BK32 hb
 replace HB := aHB HB hb
 clear hb  Q1 Q2 Q8 Q11 Q14 Q17 Q32
 have Q1 := blk6_ BK1.out
 have Q2 := blk8_ BK2.out
 have Q8 := blk6_ BK8.out
 have Q11 := blk6_ BK11.out
 have Q14 := blk8_ BK14.out
 have Q17 := blk6_ BK17.out
 have Q32 := blk6_ BK32.out
 replace H := H.out
 by_cases hc11_ : t101 = true
 case neg =>
  rw [if_neg hc11_] at H
  replace hc11_ := eq_false_of_ne_true hc11_
  subst hc11_
  exact absurd H (by simp)
 rw [if_pos hc11_] at H
 subst hc11_
 by_cases hc12_ : t100 = t23
 case neg =>
  rw [if_neg hc12_] at H
  have hc12_b0 : (t100 == t23) = false := beq_eq_false_iff_ne.mpr hc12_
  have hc12_b1 : (t100 != t23) = true := bne_iff_ne.mpr hc12_
  replace hc12_ := A_.mk hc12_
  exact absurd H (by simp)
 rw [if_pos hc12_] at H
 have hc12_b0 : (t100 == t23) = true := beq_iff_eq.mpr hc12_
 have hc12_b1 : (t100 != t23) = false := bne_eq_false_iff_eq.mpr hc12_
 replace hc12_ := A_.mk hc12_
 replace H := oa_ H
 obtain ⟨t102, A35, H⟩ := H
 replace H := A_.mk H
 go_wp2_with (fail)
 refine (calls_cast (by rw [LQHO16_0.out, LQHO16_1.out, LQHO16_2.out, LQHO16_3.out, LQHO16_4.out, LQHO16_5.out]) (laws_heldChannel.calls k _ _ t73 _ _ t74 _ _ t75 _ _ t76 _ _ t77 _ _ t78 1 t102 _ (Kd.R_reads' HO16_0.out).2.2 (by rw [LQHO16_0.out]; exact (Kd.R_reads' HO16_0.out).2.1) (Kd.R_reads' HO16_1.out).2.2 (by rw [LQHO16_1.out]; exact (Kd.R_reads' HO16_1.out).2.1) (Kd.R_reads' HO16_2.out).2.2 (by rw [LQHO16_2.out]; exact (Kd.R_reads' HO16_2.out).2.1) (Kd.R_reads' HO16_3.out).2.2 (by rw [LQHO16_3.out]; exact (Kd.R_reads' HO16_3.out).2.1) (Kd.S_reads' HO16_4.out).2.2 (by rw [LQHO16_4.out]; exact (Kd.S_reads' HO16_4.out).2.1) (Kd.S_reads' HO16_5.out).2.2 (by rw [LQHO16_5.out]; exact (Kd.S_reads' HO16_5.out).2.1) A35.out)).mono ?_
 rintro e w35_ ⟨rfl, hb⟩
 replace HS := aHs HS hb.size
 replace HO16_0 := aRb HO16_0 hb
 replace HO16_1 := aRb HO16_1 hb
 replace HO16_2 := aRb HO16_2 hb
 replace HO16_3 := aRb HO16_3 hb
 replace HO16_4 := aSb HO16_4 hb
 replace HO16_5 := aSb HO16_5 hb
 replace BK1 := aBb BK1 hb
 replace BK2 := aBb BK2 hb
 replace BK8 := aBb BK8 hb
 replace BK11 := aBb BK11 hb
 replace BK14 := aBb BK14 hb
 replace BK17 := aBb BK17 hb
 replace BK32 := aBb BK32 hb
 replace HB := aHB HB hb
 clear hb  Q1 Q2 Q8 Q11 Q14 Q17 Q32
 have Q1 := blk6_ BK1.out
 have Q2 := blk8_ BK2.out
 have Q8 := blk6_ BK8.out
 have Q11 := blk6_ BK11.out
 have Q14 := blk8_ BK14.out
 have Q17 := blk6_ BK17.out
 have Q32 := blk6_ BK32.out
 replace H := H.out
 by_cases hc13_ : t102 < 0
 case pos =>
  rw [if_pos hc13_] at H
  have hc13_b0 : decide (t102 < 0) = true := decide_eq_true hc13_
  exact absurd H (by simp)
 rw [if_neg hc13_] at H
 have hc13_b0 : decide (t102 < 0) = false := decide_eq_false hc13_
 by_cases hc14_ : t102 = t72
 case pos =>
  rw [if_pos hc14_] at H
  have hc14_b0 : (t102 == t72) = true := beq_iff_eq.mpr hc14_
  have hc14_bn : (t102 != t72) = false := bne_eq_false_iff_eq.mpr hc14_
  replace hc14_ := A_.mk hc14_
  clear H
  go_wp2
  go_ret
  exact ⟨rfl, HB.out⟩
 rw [if_neg hc14_] at H
 have hc14_b0 : (t102 == t72) = false := beq_eq_false_iff_ne.mpr hc14_
 have hc14_bn : (t102 != t72) = true := bne_iff_ne.mpr hc14_
 exact absurd H (by simp)
/-- THE ONE PURE STATEMENT of laws_FnExactPutPacket. -/
def laws_FnExactPutPacket.Pure : Prop := ∀ (l0_0 : List Int) (l0_1 : List Int) (l0_2 : List Int) (l0_3 : List Int) (l0_4 : List (S47)) (l0_5 : List (S47)) (a1_0 : Int) (a1_1 : Int) (a1_2 : Int) (a1_3 : Int) (a1_4 : Int) (a1_5 : Int) (a1_6 : Int) (l1_7 : List Int), (l0_0.length ≤ 9223372036854775807 ∧ ∀ e333 ∈ l0_0, (Lit.int .i64 e333).wf = true) → (l0_1.length ≤ 9223372036854775807 ∧ ∀ e334 ∈ l0_1, (Lit.int .i64 e334).wf = true) → (l0_2.length ≤ 9223372036854775807 ∧ ∀ e335 ∈ l0_2, (Lit.int .i64 e335).wf = true) → (l0_3.length ≤ 9223372036854775807 ∧ ∀ e336 ∈ l0_3, (Lit.int .i64 e336).wf = true) → (l0_4.length ≤ 9223372036854775807 ∧ ∀ e337 ∈ l0_4, ((Lit.int .i64 e337.f0).wf = true) ∧ (((Lit.int .i64 e337.f1).wf = true) ∧ (((Lit.int .i64 e337.f2).wf = true) ∧ (((Lit.int .i64 e337.f3).wf = true) ∧ (((Lit.int .i64 e337.f4).wf = true) ∧ (((Lit.int .i64 e337.f5).wf = true) ∧ (((Lit.int .i64 e337.f6).wf = true) ∧ ((e337.f7.length ≤ 9223372036854775807 ∧ ∀ e338 ∈ e337.f7, (Lit.int .i64 e338).wf = true))))))))) → (l0_5.length ≤ 9223372036854775807 ∧ ∀ e339 ∈ l0_5, ((Lit.int .i64 e339.f0).wf = true) ∧ (((Lit.int .i64 e339.f1).wf = true) ∧ (((Lit.int .i64 e339.f2).wf = true) ∧ (((Lit.int .i64 e339.f3).wf = true) ∧ (((Lit.int .i64 e339.f4).wf = true) ∧ (((Lit.int .i64 e339.f5).wf = true) ∧ (((Lit.int .i64 e339.f6).wf = true) ∧ ((e339.f7.length ≤ 9223372036854775807 ∧ ∀ e340 ∈ e339.f7, (Lit.int .i64 e340).wf = true))))))))) → ((Lit.int .i64 a1_0).wf = true) → ((Lit.int .i64 a1_1).wf = true) → ((Lit.int .i64 a1_2).wf = true) → ((Lit.int .i64 a1_3).wf = true) → ((Lit.int .i64 a1_4).wf = true) → ((Lit.int .i64 a1_5).wf = true) → ((Lit.int .i64 a1_6).wf = true) → (l1_7.length ≤ 9223372036854775807 ∧ ∀ e341 ∈ l1_7, (Lit.int .i64 e341).wf = true) → ∃ k, laws_FnExactPutPacket.f k l0_0 l0_1 l0_2 l0_3 l0_4 l0_5 a1_0 a1_1 a1_2 a1_3 a1_4 a1_5 a1_6 l1_7 = some true

end Go.Proofs.Ytlombfmebinjbaa.PFnExactPutPacket
