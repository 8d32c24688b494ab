-- Written by a program of this session (wip/xp): not trusted, Lean checks it.
import Derived.Test.YtlombfmebinjbaaPFnExactFreePacketx0
import Derived.Test.YtlombfmebinjbaaPFnExactFreePacketx1
import Derived.Test.YtlombfmebinjbaaPFnExactFreePacketx10
import Derived.Test.YtlombfmebinjbaaPFnExactFreePacketx11
import Derived.Test.YtlombfmebinjbaaPFnExactFreePacketx16
import Derived.Test.YtlombfmebinjbaaPFnExactFreePacketx17
namespace Go.Proofs.Ytlombfmebinjbaa.PFnExactFreePacket
open Go.RowKit Go.Proofs.YtlombfmebinjbaaW.PrintWords Go.Proofs.YtlombfmebinjbaaW.PrintLast Go.Proofs.YtlombfmebinjbaaW.PrintMore
attribute [local go_sem] max2_int min2_int max_two min_two max_three min_three max_four min_four   -- for this text's walks alone
set_option linter.unusedVariables false
set_option linter.unusedSimpArgs false

/-! ### impl_FreePacket: function 14, its calls in a row -/
def impl_FreePacket.f (k : Nat) (l0_0 : List Int) (l0_1 : List Int) (l0_2 : List Int) (l0_3 : List Int) (l0_4 : List (S38)) (l0_5 : List (S38)) (a1 : Int) : Option ((List Int) × (List Int) × (List Int) × (List Int) × (List (S38)) × (List (S38)) × (Int) × (Int) × (Int) × (Int) × (Int) × (Int) × (Int) × (List Int) × (Bool)) := ((impl_copyChannel.f k l0_0 l0_1 l0_2 l0_3 l0_4 l0_5).bind fun ⟨t1, t2, t3, t4, t5, t6⟩ => ((impl_ChannelOk.f k l0_0 l0_1 l0_2 l0_3 l0_4 l0_5).bind fun t7 => (if t7 = true then ((impl_within.f a1 0 (wrap64 ((l0_4.length : Int) - 1))).bind fun t8 => (if t8 = true then (if 0 ≤ a1 then (if a1 < (t5.length : Int) then (if 0 ≤ a1 then (if a1 < (l0_4.length : Int) then ((impl_copyPacket.f ((rd_T38 l0_4 a1).f0) ((rd_T38 l0_4 a1).f1) ((rd_T38 l0_4 a1).f2) ((rd_T38 l0_4 a1).f3) ((rd_T38 l0_4 a1).f4) ((rd_T38 l0_4 a1).f5) ((rd_T38 l0_4 a1).f6) ((rd_T38 l0_4 a1).f7)).bind fun ⟨t10, t11, t12, t13, t14, t15, t16, t17⟩ => (if (t6.length + 1) * 80 ≤ 140737488355328 then ((impl_copyPacket.f ((rd_T38 l0_4 a1).f0) ((rd_T38 l0_4 a1).f1) ((rd_T38 l0_4 a1).f2) ((rd_T38 l0_4 a1).f3) ((rd_T38 l0_4 a1).f4) ((rd_T38 l0_4 a1).f5) ((rd_T38 l0_4 a1).f6) ((rd_T38 l0_4 a1).f7)).bind fun ⟨t19, t20, t21, t22, t23, t24, t25, t26⟩ => (some (t1, t2, t3, t4, (t5.eraseIdx (a1).toNat), (t6 ++ [(⟨t10, t11, t12, t13, t14, t15, t16, t17⟩ : S38)]), t19, t20, t21, t22, t23, t24, t25, t26, true))) else none)) else none) else none) else none) else none) else (some (t1, t2, t3, t4, t5, t6, 0, 0, 0, 0, 0, 0, 0, [], false)))) else (some (t1, t2, t3, t4, t5, t6, 0, 0, 0, 0, 0, 0, 0, [], false)))))
set_option maxHeartbeats 8000000 in
set_option maxRecDepth 100000 in
theorem impl_FreePacket.calls (k : Nat) (A0_0 : Option Addr) (c0_0 : Nat) (l0_0 : List Int) (A0_1 : Option Addr) (c0_1 : Nat) (l0_1 : List Int) (A0_2 : Option Addr) (c0_2 : Nat) (l0_2 : List Int) (A0_3 : Option Addr) (c0_3 : Nat) (l0_3 : List Int) (P0_4_ : Nat → Prop) (A0_4 : Option Addr) (c0_4 : Nat) (l0_4 : List (S38)) (P0_5_ : Nat → Prop) (A0_5 : Option Addr) (c0_5 : Nat) (l0_5 : List (S38)) (a1 : Int) (r1 : List Int) (r2 : List Int) (r3 : List Int) (r4 : List Int) (r5 : List (S38)) (r6 : List (S38)) (r7 : Int) (r8 : Int) (r9 : Int) (r10 : Int) (r11 : Int) (r12 : Int) (r13 : Int) (r14 : List Int) (r15 : Bool) (w : World) (hr0_0 : Kd.C (Kd.int .i64) w A0_0 l0_0.length l0_0) (hc0_0 : l0_0.length ≤ c0_0) (hr0_1 : Kd.C (Kd.int .i64) w A0_1 l0_1.length l0_1) (hc0_1 : l0_1.length ≤ c0_1) (hr0_2 : Kd.C (Kd.int .i64) w A0_2 l0_2.length l0_2) (hc0_2 : l0_2.length ≤ c0_2) (hr0_3 : Kd.C (Kd.int .i64) w A0_3 l0_3.length l0_3) (hc0_3 : l0_3.length ≤ c0_3) (hs0_4 : Kd.V k38 38 w w.heap.size (fun k_ => P0_4_ k_) (.slice A0_4 l0_4.length c0_4) l0_4) (hs0_5 : Kd.V k38 38 w w.heap.size (fun k_ => P0_5_ k_) (.slice A0_5 l0_5.length c0_5) l0_5) (h : impl_FreePacket.f k l0_0 l0_1 l0_2 l0_3 l0_4 l0_5 a1 = some (r1, r2, r3, r4, r5, r6, r7, r8, r9, r10, r11, r12, r13, r14, r15)) :
  Calls Try.prog 14 #[.agg #[.slice A0_0 l0_0.length c0_0, .slice A0_1 l0_1.length c0_1, .slice A0_2 l0_2.length c0_2, .slice A0_3 l0_3.length c0_3, .slice A0_4 l0_4.length c0_4, .slice A0_5 l0_5.length c0_5], .int .i64 a1] w fun e w' => ∃ f_ : Nat → Nat, ∃ v0_ v1_ v2_ v3_ v4_ v5_ v6_ : Value, e = .returned (.tuple #[.agg #[v0_, v1_, v2_, v3_, v4_, v5_], .agg #[.int .i64 r7, .int .i64 r8, .int .i64 r9, .int .i64 r10, .int .i64 r11, .int .i64 r12, .int .i64 r13, v6_], .bool r15]) ∧ Kd.R (Kd.int .i64) 3 w' w.heap.size (fun k_ => f_ k_ = 0) v0_ r1 ∧ Kd.R (Kd.int .i64) 3 w' w.heap.size (fun k_ => f_ k_ = 1) v1_ r2 ∧ Kd.R (Kd.int .i64) 3 w' w.heap.size (fun k_ => f_ k_ = 2) v2_ r3 ∧ Kd.R (Kd.int .i64) 3 w' w.heap.size (fun k_ => f_ k_ = 3) v3_ r4 ∧ Kd.S k38 38 w' w.heap.size (fun k_ => f_ k_ = 4) v4_ r5 ∧ Kd.S k38 38 w' w.heap.size (fun k_ => f_ k_ = 5) v5_ r6 ∧ Kd.R (Kd.int .i64) 3 w' w.heap.size (fun k_ => f_ k_ = 6) v6_ r14 ∧ Below w.heap.size w w' := by
 have HR0_0 := A_.mk hr0_0
 have HC0_0 := A_.mk hc0_0
 clear hr0_0 hc0_0
 have HR0_1 := A_.mk hr0_1
 have HC0_1 := A_.mk hc0_1
 clear hr0_1 hc0_1
 have HR0_2 := A_.mk hr0_2
 have HC0_2 := A_.mk hc0_2
 clear hr0_2 hc0_2
 have HR0_3 := A_.mk hr0_3
 have HC0_3 := A_.mk hc0_3
 clear hr0_3 hc0_3
 have HV0_4 := A_.mk (Kd.V_mono (ok' := fun k_ => k_ < w.heap.size) (Kd.V_bound hs0_4) (fun k_ hk_ => hk_.2))
 have HW0_4 := A_.mk ((Kd.V_reads' hs0_4).2.2)
 clear hs0_4
 have HV0_5 := A_.mk (Kd.V_mono (ok' := fun k_ => k_ < w.heap.size) (Kd.V_bound hs0_5) (fun k_ hk_ => hk_.2))
 clear hs0_5
 have HB := A_.mk (Below.refl w.heap.size w)
 unfold impl_FreePacket.f at h
 have H := h
 clear h
 replace H := ob_ H
 obtain ⟨⟨t1, t2, t3, t4, t5, t6⟩, A4_0, H⟩ := H
 have A4 := A_.mk A4_0
 clear A4_0
 try dsimp only at H
 replace H := ob_ H
 obtain ⟨t7, A7_0, H⟩ := H
 have A7 := A_.mk A7_0
 clear A7_0
 replace H := A_.mk H
 have hu33 := Try.underlying33
 have hu38 := Try.underlying38
 go_enter Try.func14, Try.ntmps14
 have HS := A_.mk (Nat.le_refl w.heap.size)
 go_wp2_with (first | ((with_reducible refine gd_ (N := 2) rfl ?_); refine by_ 2 (cs := #[.slice A0_0 l0_0.length c0_0, .slice A0_1 l0_1.length c0_1, .slice A0_2 l0_2.length c0_2, .slice A0_3 l0_3.length c0_3, .slice A0_4 l0_4.length c0_4, .slice A0_5 l0_5.length c0_5]) (t := 33) ?_; intro gb1_ hg w1_ hbox hb; replace HS := A_.mk (And.intro HS.out (show gb1_ = w.heap.size ∧ gb1_ < w1_.heap.size from ⟨hg, blk_lt hbox⟩)); replace HV0_4 := aVb HV0_4 hb; replace HV0_5 := aVb HV0_5 hb; replace HB := aHB HB hb; have BK1 := A_.mk hbox; clear hbox hb hg; obtain ⟨q1_0, q1_1, q1_2, q1_3, q1_4, q1_5⟩ := blk6_ BK1.out) | ((with_reducible refine gd_ (N := 4) rfl ?_); refine by_ 4 (cs := #[.slice none 0 0, .slice none 0 0, .slice none 0 0, .slice none 0 0, .slice none 0 0, .slice none 0 0]) (t := 33) ?_; intro gb2_ hg w2_ hbox hb; replace HS := A_.mk (And.intro HS.out (show gb2_ = w1_.heap.size ∧ gb2_ < w2_.heap.size from ⟨hg, blk_lt hbox⟩)); replace HV0_4 := aVb HV0_4 hb; replace HV0_5 := aVb HV0_5 hb; replace BK1 := aBb BK1 hb; replace HB := aHB HB hb; have BK2 := A_.mk hbox; clear hbox hb hg q1_0 q1_1 q1_2 q1_3 q1_4 q1_5; obtain ⟨q1_0, q1_1, q1_2, q1_3, q1_4, q1_5⟩ := blk6_ BK1.out; obtain ⟨q2_0, q2_1, q2_2, q2_3, q2_4, q2_5⟩ := blk6_ BK2.out) | ((with_reducible refine gd_ (N := 5) rfl ?_); refine by_ 5 (cs := #[.int .i64 0, .int .i64 0, .int .i64 0, .int .i64 0, .int .i64 0, .int .i64 0, .int .i64 0, .slice none 0 0]) (t := 38) ?_; intro gb3_ hg w3_ hbox hb; replace HS := A_.mk (And.intro HS.out (show gb3_ = w2_.heap.size ∧ gb3_ < w3_.heap.size from ⟨hg, blk_lt hbox⟩)); replace HV0_4 := aVb HV0_4 hb; replace HV0_5 := aVb HV0_5 hb; replace BK1 := aBb BK1 hb; replace BK2 := aBb BK2 hb; replace HB := aHB HB hb; have BK3 := A_.mk hbox; clear hbox hb hg q1_0 q1_1 q1_2 q1_3 q1_4 q1_5 q2_0 q2_1 q2_2 q2_3 q2_4 q2_5; obtain ⟨q1_0, q1_1, q1_2, q1_3, q1_4, q1_5⟩ := blk6_ BK1.out; obtain ⟨q2_0, q2_1, q2_2, q2_3, q2_4, q2_5⟩ := blk6_ BK2.out; obtain ⟨q3_0, q3_1, q3_2, q3_3, q3_4, q3_5, q3_6, q3_7⟩ := blk8_ BK3.out) | ((with_reducible refine gc_ (f := 51) rfl ?_); refine gl_ (some 9) Try.func51 #[.agg #[.slice A0_0 l0_0.length c0_0, .slice A0_1 l0_1.length c0_1, .slice A0_2 l0_2.length c0_2, .slice A0_3 l0_3.length c0_3, .slice A0_4 l0_4.length c0_4, .slice A0_5 l0_5.length c0_5]] ?_; (with_reducible refine (impl_copyChannel.calls k _ _ l0_0 _ _ l0_1 _ _ l0_2 _ _ l0_3 _ _ l0_4 _ _ l0_5 t1 t2 t3 t4 t5 t6 _ (Kd.C_below HR0_0.out HB.out) HC0_0.out (Kd.C_below HR0_1.out HB.out) HC0_1.out (Kd.C_below HR0_2.out HB.out) HC0_2.out (Kd.C_below HR0_3.out HB.out) HC0_3.out (Kd.V_reads' HV0_4.out).2.2 (Kd.V_reads' HV0_4.out).2.1 (Kd.V_reads' HV0_5.out).2.2 (Kd.V_reads' HV0_5.out).2.1 A4.out).mono ?_); rintro e w4_ ⟨f4_, v0_, v1_, v2_, v3_, v4_, v5_, rfl, ho0_, ho1_, ho2_, ho3_, ho4_, ho5_, hb⟩; refine ⟨_, rfl, ?_⟩; replace HS := aHs HS hb.size; obtain ⟨Ao4_0, co4_0, ev_⟩ := Kd.R_slice ho0_; subst ev_; have HO4_0 := aRn ho0_ HB.out.size; obtain ⟨Ao4_1, co4_1, ev_⟩ := Kd.R_slice ho1_; subst ev_; have HO4_1 := aRn ho1_ HB.out.size; obtain ⟨Ao4_2, co4_2, ev_⟩ := Kd.R_slice ho2_; subst ev_; have HO4_2 := aRn ho2_ HB.out.size; obtain ⟨Ao4_3, co4_3, ev_⟩ := Kd.R_slice ho3_; subst ev_; have HO4_3 := aRn ho3_ HB.out.size; obtain ⟨Ao4_4, co4_4, ev_⟩ := Kd.S_slice ho4_; subst ev_; have HO4_4 := aSn ho4_ HB.out.size; obtain ⟨Ao4_5, co4_5, ev_⟩ := Kd.S_slice ho5_; subst ev_; have HO4_5 := aSn ho5_ HB.out.size; replace HV0_4 := aVb HV0_4 hb; replace HV0_5 := aVb HV0_5 hb; replace BK1 := aBb BK1 hb; replace BK2 := aBb BK2 hb; replace BK3 := aBb BK3 hb; replace HB := aHB HB hb; clear hb ho0_ ho1_ ho2_ ho3_ ho4_ ho5_ q1_0 q1_1 q1_2 q1_3 q1_4 q1_5 q2_0 q2_1 q2_2 q2_3 q2_4 q2_5 q3_0 q3_1 q3_2 q3_3 q3_4 q3_5 q3_6 q3_7; obtain ⟨q1_0, q1_1, q1_2, q1_3, q1_4, q1_5⟩ := blk6_ BK1.out; obtain ⟨q2_0, q2_1, q2_2, q2_3, q2_4, q2_5⟩ := blk6_ BK2.out; obtain ⟨q3_0, q3_1, q3_2, q3_3, q3_4, q3_5, q3_6, q3_7⟩ := blk8_ BK3.out) | ((with_reducible refine gd_ (N := 7) rfl ?_); refine by_ 7 (cs := #[.slice none 0 0, .slice none 0 0, .slice none 0 0, .slice none 0 0, .slice none 0 0, .slice none 0 0]) (t := 33) ?_; intro gb5_ hg w5_ hbox hb; replace HS := A_.mk (And.intro HS.out (show gb5_ = w4_.heap.size ∧ gb5_ < w5_.heap.size from ⟨hg, blk_lt hbox⟩)); replace HV0_4 := aVb HV0_4 hb; replace HV0_5 := aVb HV0_5 hb; replace HO4_0 := aRb HO4_0 hb; replace HO4_1 := aRb HO4_1 hb; replace HO4_2 := aRb HO4_2 hb; replace HO4_3 := aRb HO4_3 hb; replace HO4_4 := aSb HO4_4 hb; replace HO4_5 := aSb HO4_5 hb; replace BK1 := aBb BK1 hb; replace BK2 := aBb BK2 hb; replace BK3 := aBb BK3 hb; replace HB := aHB HB hb; have BK5 := A_.mk hbox; clear hbox hb hg q1_0 q1_1 q1_2 q1_3 q1_4 q1_5 q2_0 q2_1 q2_2 q2_3 q2_4 q2_5 q3_0 q3_1 q3_2 q3_3 q3_4 q3_5 q3_6 q3_7; obtain ⟨q1_0, q1_1, q1_2, q1_3, q1_4, q1_5⟩ := blk6_ BK1.out; obtain ⟨q2_0, q2_1, q2_2, q2_3, q2_4, q2_5⟩ := blk6_ BK2.out; obtain ⟨q3_0, q3_1, q3_2, q3_3, q3_4, q3_5, q3_6, q3_7⟩ := blk8_ BK3.out; obtain ⟨q5_0, q5_1, q5_2, q5_3, q5_4, q5_5⟩ := blk6_ BK5.out) | ((with_reducible refine gs_ (t := 33) (p := 7) rfl ?_); have qf0 := bf_ BK5.out 0; have qf1 := bf_ BK5.out 1; have qf2 := bf_ BK5.out 2; have qf3 := bf_ BK5.out 3; have qf4 := bf_ BK5.out 4; have qf5 := bf_ BK5.out 5; refine se_ (t := 33) (p := 7) (v := ?vo_6) (w1 := (ch6_ w5_ gb5_ (.slice Ao4_0 t1.length co4_0) (.slice Ao4_1 t2.length co4_1) (.slice Ao4_2 t3.length co4_2) (.slice Ao4_3 t4.length co4_3) (.slice Ao4_4 t5.length co4_4) (.slice Ao4_5 t6.length co4_5))) ?hg ?ho ?hn ?hr ?_; (case ho => rfl); (case hg => rfl); (case hn => rfl); (case hr => first | (go_simp; done) | (go_simp; rfl)); intro w6_ hw; clear qf0 qf1 qf2 qf3 qf4 qf5; obtain ⟨hbx, hkp, hbb⟩ := st6_ hw BK5 HB (by have := HS.out; omega); clear hw; replace HV0_4 := aVk HV0_4 hkp HS; replace HV0_5 := aVk HV0_5 hkp HS; replace HO4_0 := aRk HO4_0 hkp HS; replace HO4_1 := aRk HO4_1 hkp HS; replace HO4_2 := aRk HO4_2 hkp HS; replace HO4_3 := aRk HO4_3 hkp HS; replace HO4_4 := aSk HO4_4 hkp HS; replace HO4_5 := aSk HO4_5 hkp HS; replace BK1 := aBk BK1 hkp HS; replace BK2 := aBk BK2 hkp HS; replace BK3 := aBk BK3 hkp HS; replace BK5 := A_.mk hbx; replace HB := A_.mk hbb; replace HS := aHs HS hkp.1; clear hkp hbb hbx q1_0 q1_1 q1_2 q1_3 q1_4 q1_5 q2_0 q2_1 q2_2 q2_3 q2_4 q2_5 q3_0 q3_1 q3_2 q3_3 q3_4 q3_5 q3_6 q3_7 q5_0 q5_1 q5_2 q5_3 q5_4 q5_5; obtain ⟨q1_0, q1_1, q1_2, q1_3, q1_4, q1_5⟩ := blk6_ BK1.out; obtain ⟨q2_0, q2_1, q2_2, q2_3, q2_4, q2_5⟩ := blk6_ BK2.out; obtain ⟨q3_0, q3_1, q3_2, q3_3, q3_4, q3_5, q3_6, q3_7⟩ := blk8_ BK3.out; obtain ⟨q5_0, q5_1, q5_2, q5_3, q5_4, q5_5⟩ := blk6_ BK5.out))
 (with_reducible refine (impl_ChannelOk.calls k _ _ l0_0 _ _ l0_1 _ _ l0_2 _ _ l0_3 (fun k_ => k_ < w.heap.size) _ _ l0_4 (fun k_ => k_ < w.heap.size) _ _ l0_5 t7 _ (Kd.C_below HR0_0.out HB.out) HC0_0.out (Kd.C_below HR0_1.out HB.out) HC0_1.out (Kd.C_below HR0_2.out HB.out) HC0_2.out (Kd.C_below HR0_3.out HB.out) HC0_3.out (V_any HV0_4.out) (V_any HV0_5.out) A7.out).mono ?_)
 rintro e w7_ ⟨rfl, hb⟩
 replace HS := aHs HS hb.size
 replace HV0_4 := aVb HV0_4 hb
 replace HV0_5 := aVb HV0_5 hb
 replace HO4_0 := aRb HO4_0 hb
 replace HO4_1 := aRb HO4_1 hb
 replace HO4_2 := aRb HO4_2 hb
 replace HO4_3 := aRb HO4_3 hb
 replace HO4_4 := aSb HO4_4 hb
 replace HO4_5 := aSb HO4_5 hb
 replace BK1 := aBb BK1 hb
 replace BK2 := aBb BK2 hb
 replace BK3 := aBb BK3 hb
 replace BK5 := aBb BK5 hb
 replace HB := aHB HB hb
 clear hb  q1_0 q1_1 q1_2 q1_3 q1_4 q1_5 q2_0 q2_1 q2_2 q2_3 q2_4 q2_5 q3_0 q3_1 q3_2 q3_3 q3_4 q3_5 q3_6 q3_7 q5_0 q5_1 q5_2 q5_3 q5_4 q5_5
 obtain ⟨q1_0, q1_1, q1_2, q1_3, q1_4, q1_5⟩ := blk6_ BK1.out
 obtain ⟨q2_0, q2_1, q2_2, q2_3, q2_4, q2_5⟩ := blk6_ BK2.out
 obtain ⟨q3_0, q3_1, q3_2, q3_3, q3_4, q3_5, q3_6, q3_7⟩ := blk8_ BK3.out
 obtain ⟨q5_0, q5_1, q5_2, q5_3, q5_4, q5_5⟩ := blk6_ BK5.out
 replace H := H.out
 by_cases hc1_ : t7 = true
 case pos =>
  rw [if_pos hc1_] at H
  subst hc1_
  replace H := ob_ H
  obtain ⟨t8, A8_0, H⟩ := H
  have A8 := A_.mk A8_0
  clear A8_0
  replace H := A_.mk H
  go_wp2_with (fail)
  (with_reducible refine (impl_within.calls a1 0 (wrap64 ((l0_4.length : Int) - 1)) t8 _ A8.out).mono ?_)
  rintro e w8_ ⟨rfl, hb⟩
  replace hb := Drawn0.below hb
  replace HS := aHs HS hb.size
  replace HO4_0 := aRb HO4_0 hb
  replace HO4_1 := aRb HO4_1 hb
  replace HO4_2 := aRb HO4_2 hb
  replace HO4_3 := aRb HO4_3 hb
  replace HO4_4 := aSb HO4_4 hb
  replace HO4_5 := aSb HO4_5 hb
  replace BK1 := aBb BK1 hb
  replace BK2 := aBb BK2 hb
  replace BK3 := aBb BK3 hb
  replace BK5 := aBb BK5 hb
  replace HB := aHB HB hb
  clear hb  q1_0 q1_1 q1_2 q1_3 q1_4 q1_5 q2_0 q2_1 q2_2 q2_3 q2_4 q2_5 q3_0 q3_1 q3_2 q3_3 q3_4 q3_5 q3_6 q3_7 q5_0 q5_1 q5_2 q5_3 q5_4 q5_5
  obtain ⟨q1_0, q1_1, q1_2, q1_3, q1_4, q1_5⟩ := blk6_ BK1.out
  obtain ⟨q2_0, q2_1, q2_2, q2_3, q2_4, q2_5⟩ := blk6_ BK2.out
  obtain ⟨q3_0, q3_1, q3_2, q3_3, q3_4, q3_5, q3_6, q3_7⟩ := blk8_ BK3.out
  obtain ⟨q5_0, q5_1, q5_2, q5_3, q5_4, q5_5⟩ := blk6_ BK5.out
  replace H := H.out
  by_cases hc2_ : t8 = true
  case pos =>
   rw [if_pos hc2_] at H
   subst hc2_
   by_cases hp9_ : 0 ≤ a1
   case neg => rw [if_neg hp9_] at H; cases H
   rw [if_pos hp9_] at H
   by_cases hq9_ : a1 < (t5.length : Int)
   case neg => rw [if_neg hq9_] at H; cases H
   rw [if_pos hq9_] at H
   have EB9 := A_.mk (And.intro hp9_ hq9_)
   clear hp9_ hq9_
   obtain ⟨y9, Ny9⟩ : ∃ q_, q_ = (t5.eraseIdx (a1).toNat) := ⟨_, rfl⟩
   rw [← Ny9] at H
   replace Ny9 := A_.mk Ny9
   by_cases hp10_ : 0 ≤ a1
   case neg => rw [if_neg hp10_] at H; cases H
   rw [if_pos hp10_] at H
   by_cases hq10_ : a1 < (l0_4.length : Int)
   case neg => rw [if_neg hq10_] at H; cases H
   rw [if_pos hq10_] at H
   have EB10 := A_.mk (And.intro hp10_ hq10_)
   obtain ⟨ad10_, A10_7, c10_7, eA_, hx0_, hx1_, hx2_, hx3_, hx4_, hx5_, hx6_, hx7_, hl7_, hi7_⟩ := at_T38 HW0_4.out a1 hp10_ hq10_
   subst eA_
   have HX10 := A_.mk (And.intro hx0_ (And.intro hx1_ (And.intro hx2_ (And.intro hx3_ (And.intro hx4_ (And.intro hx5_ (And.intro hx6_ hx7_)))))))
   have HE10_7 := A_.mk hi7_
   have HD10_7 := A_.mk hl7_
   clear hx0_ hx1_ hx2_ hx3_ hx4_ hx5_ hx6_ hx7_ hl7_ hi7_
   replace hp10_ := eq_true hp10_
   replace hq10_ := eq_true hq10_
   replace H := ob_ H
   obtain ⟨⟨t10, t11, t12, t13, t14, t15, t16, t17⟩, A11_0, H⟩ := H
   have A11 := A_.mk A11_0
   clear A11_0
   try dsimp only at H
   by_cases hl3_ : (t6.length + 1) * 80 ≤ 140737488355328
   case neg => rw [if_neg hl3_] at H; cases H
   rw [if_pos hl3_] at H
   have LM12 := A_.mk hl3_
   clear hl3_
   obtain ⟨y18, Ny18⟩ : ∃ q_, q_ = (t6 ++ [(⟨t10, t11, t12, t13, t14, t15, t16, t17⟩ : S38)]) := ⟨_, rfl⟩
   rw [← Ny18] at H
   replace Ny18 := A_.mk Ny18
   replace H := ob_ H
   obtain ⟨⟨t19, t20, t21, t22, t23, t24, t25, t26⟩, A15_0, H⟩ := H
   have A15 := A_.mk A15_0
   clear A15_0
   try dsimp only at H
   simp only [Option.some.injEq, Prod.mk.injEq] at H
   obtain ⟨rfl, rfl, rfl, rfl, rfl, rfl, rfl, rfl, rfl, rfl, rfl, rfl, rfl, rfl, rfl⟩ := H
   go_wp2_with (fail)
   refine start_ (n := 20) (S := fun w' => (w'.cell? ⟨gb1_, 0, none⟩ = some (.slice A0_0 l0_0.length c0_0) ∧ w'.cell? ⟨gb1_, 1, none⟩ = some (.slice A0_1 l0_1.length c0_1) ∧ w'.cell? ⟨gb1_, 2, none⟩ = some (.slice A0_2 l0_2.length c0_2) ∧ w'.cell? ⟨gb1_, 3, none⟩ = some (.slice A0_3 l0_3.length c0_3) ∧ w'.cell? ⟨gb1_, 4, none⟩ = some (.slice (some ad10_) l0_4.length c0_4) ∧ w'.cell? ⟨gb1_, 5, none⟩ = some (.slice A0_5 l0_5.length c0_5)) ∧ (w'.cell? ⟨gb5_, 0, none⟩ = some (.slice Ao4_0 t1.length co4_0) ∧ w'.cell? ⟨gb5_, 1, none⟩ = some (.slice Ao4_1 t2.length co4_1) ∧ w'.cell? ⟨gb5_, 2, none⟩ = some (.slice Ao4_2 t3.length co4_2) ∧ w'.cell? ⟨gb5_, 3, none⟩ = some (.slice Ao4_3 t4.length co4_3) ∧ w'.cell? ⟨gb5_, 4, none⟩ = some (.slice Ao4_4 t5.length co4_4) ∧ w'.cell? ⟨gb5_, 5, none⟩ = some (.slice Ao4_5 t6.length co4_5)) ∧ (w'.cell? (ad10_.add ((a1).toNat * 8)) = some (.int .i64 ((rd_T38 l0_4 a1).f0)) ∧ w'.cell? ⟨(ad10_.add ((a1).toNat * 8)).block, (ad10_.add ((a1).toNat * 8)).off + 1, none⟩ = some (.int .i64 ((rd_T38 l0_4 a1).f1)) ∧ w'.cell? ⟨(ad10_.add ((a1).toNat * 8)).block, (ad10_.add ((a1).toNat * 8)).off + 2, none⟩ = some (.int .i64 ((rd_T38 l0_4 a1).f2)) ∧ w'.cell? ⟨(ad10_.add ((a1).toNat * 8)).block, (ad10_.add ((a1).toNat * 8)).off + 3, none⟩ = some (.int .i64 ((rd_T38 l0_4 a1).f3)) ∧ w'.cell? ⟨(ad10_.add ((a1).toNat * 8)).block, (ad10_.add ((a1).toNat * 8)).off + 4, none⟩ = some (.int .i64 ((rd_T38 l0_4 a1).f4)) ∧ w'.cell? ⟨(ad10_.add ((a1).toNat * 8)).block, (ad10_.add ((a1).toNat * 8)).off + 5, none⟩ = some (.int .i64 ((rd_T38 l0_4 a1).f5)) ∧ w'.cell? ⟨(ad10_.add ((a1).toNat * 8)).block, (ad10_.add ((a1).toNat * 8)).off + 6, none⟩ = some (.int .i64 ((rd_T38 l0_4 a1).f6)) ∧ w'.cell? ⟨(ad10_.add ((a1).toNat * 8)).block, (ad10_.add ((a1).toNat * 8)).off + 7, none⟩ = some (.slice A10_7 ((rd_T38 l0_4 a1).f7).length c10_7))) (ds := [17, 19]) #[F, F, F, F, F, F, F, F, F, F, F, F, F, F, F, F, F, F, F, F] (by kernel_rfl) rfl rfl ⟨blk6_ BK1.out, blk6_ BK5.out, el8_ (below_drew HB.out) HX10.out⟩ (fun hHeld => ?_)
   clear q1_0 q1_1 q1_2 q1_3 q1_4 q1_5 q2_0 q2_1 q2_2 q2_3 q2_4 q2_5 q3_0 q3_1 q3_2 q3_3 q3_4 q3_5 q3_6 q3_7 q5_0 q5_1 q5_2 q5_3 q5_4 q5_5
   have hb := below_drew (Below.refl w8_.heap.size w8_)
   replace HS := aHs HS hb.size
   replace HO4_0 := aRb HO4_0 hb
   replace HO4_1 := aRb HO4_1 hb
   replace HO4_2 := aRb HO4_2 hb
   replace HO4_3 := aRb HO4_3 hb
   replace HO4_4 := aSb HO4_4 hb
   replace HO4_5 := aSb HO4_5 hb
   replace BK1 := aBb BK1 hb
   replace BK2 := aBb BK2 hb
   replace BK3 := aBb BK3 hb
   replace BK5 := aBb BK5 hb
   replace HB := aHB HB hb
   clear hb
   generalize w8_.drew = w22d_ at HO4_0 HO4_1 HO4_2 HO4_3 HO4_4 HO4_5 BK1 BK2 BK3 BK5 HB HS hHeld ⊢
   refine pd_ (i := 0) (N := some 24) #[T, F, F, F, F, F, F, F, F, F, F, F, F, F, F, F, F, F, F, F] rfl ?_
   refine take_ (i := 1) (N := some 25) (v := ?_) (a' := ?_) #[T, T, F, F, F, F, F, F, F, F, F, F, F, F, F, F, F, F, F, F] rfl rfl (by kernel_rfl) (fun _ _ _ h => h) (Or.inl ⟨by rfl, ?_⟩) hHeld ?_ ?_
   rotate_left
   ·rintro w' ⟨⟨s1_0, s1_1, s1_2, s1_3, s1_4, s1_5⟩, ⟨s5_0, s5_1, s5_2, s5_3, s5_4, s5_5⟩, ⟨r10_0, r10_1, r10_2, r10_3, r10_4, r10_5, r10_6, r10_7⟩⟩
    go_simp
    with_reducible rfl
   rotate_left
   ·simp only [pS]
    rfl
   refine pd_ (i := 2) (N := some 26) #[T, T, T, F, F, F, F, F, F, F, F, F, F, F, F, F, F, F, F, F] rfl ?_
   refine pd_ (i := 3) (N := some 27) #[T, T, T, T, F, F, F, F, F, F, F, F, F, F, F, F, F, F, F, F] rfl ?_
   refine pd_ (i := 4) (N := some 28) #[T, T, T, T, T, F, F, F, F, F, F, F, F, F, F, F, F, F, F, F] rfl ?_
   refine pd_ (i := 6) (N := some 30) #[T, T, T, T, T, F, T, F, F, F, F, F, F, F, F, F, F, F, F, F] rfl ?_
   refine take_ (i := 7) (N := some 31) (v := ?_) (a' := ?_) #[T, T, T, T, T, F, T, T, F, F, F, F, F, F, F, F, F, F, F, F] rfl rfl (by kernel_rfl) (fun _ _ _ h => h) (Or.inl ⟨by rfl, ?_⟩) hHeld ?_ ?_
   rotate_left
   ·rintro w' ⟨⟨s1_0, s1_1, s1_2, s1_3, s1_4, s1_5⟩, ⟨s5_0, s5_1, s5_2, s5_3, s5_4, s5_5⟩, ⟨r10_0, r10_1, r10_2, r10_3, r10_4, r10_5, r10_6, r10_7⟩⟩
    go_simp
    with_reducible rfl
   rotate_left
   ·simp only [pS]
    rfl
   refine pd_ (i := 8) (N := some 32) #[T, T, T, T, T, F, T, T, T, F, F, F, F, F, F, F, F, F, F, F] rfl ?_
   refine take_ (i := 9) (N := some 33) (v := ?_) (a' := ?_) #[T, T, T, T, T, F, T, T, T, T, F, F, F, F, F, F, F, F, F, F] rfl rfl (by kernel_rfl) (fun _ _ _ h => h) (Or.inl ⟨by rfl, ?_⟩) hHeld ?_ ?_
   rotate_left
   ·rintro w' ⟨⟨s1_0, s1_1, s1_2, s1_3, s1_4, s1_5⟩, ⟨s5_0, s5_1, s5_2, s5_3, s5_4, s5_5⟩, ⟨r10_0, r10_1, r10_2, r10_3, r10_4, r10_5, r10_6, r10_7⟩⟩
    go_simp
    with_reducible rfl
   rotate_left
   ·simp only [pS]
    rfl
   refine pd_ (i := 10) (N := some 34) #[T, T, T, T, T, F, T, T, T, T, T, F, F, F, F, F, F, F, F, F] rfl ?_
   refine pd_ (i := 11) (N := some 35) #[T, T, T, T, T, F, T, T, T, T, T, T, F, F, F, F, F, F, F, F] rfl ?_
   refine take_ (i := 12) (N := some 36) (v := ?_) (a' := ?_) #[T, T, T, T, T, F, T, T, T, T, T, T, T, F, F, F, F, F, F, F] rfl rfl (by kernel_rfl) (fun _ _ _ h => h) (Or.inl ⟨by rfl, ?_⟩) hHeld ?_ ?_
   rotate_left
   ·rintro w' ⟨⟨s1_0, s1_1, s1_2, s1_3, s1_4, s1_5⟩, ⟨s5_0, s5_1, s5_2, s5_3, s5_4, s5_5⟩, ⟨r10_0, r10_1, r10_2, r10_3, r10_4, r10_5, r10_6, r10_7⟩⟩
    go_simp
    with_reducible rfl
   rotate_left
   ·simp only [pS]
    rfl
   refine one_ (i := 5) (N := some 29) #[T, T, T, T, T, T, T, T, T, T, T, T, T, F, F, F, F, F, F, F] rfl rfl (by kernel_rfl) (by decide) (fun K hK => ?_)
   obtain ⟨gd9_, ed_⟩ := S_at0 HO4_4.out (by have := EB9.out; omega)
   subst ed_
   refine goes_ Try.func53 (by kernel_rfl) rfl #[.slice (some ⟨gd9_, 0, none⟩) t5.length co4_4, .int .i64 a1, .int .i64 (wrap64 (a1 + 1))] (by rfl) rfl rfl (by (try simp only [List.map_toArray, List.map_cons, List.map_nil]); first | done | rfl) ?_
   refine (slices_Delete_38.calls (fun k_ => ((w3_.heap.size ≤ k_ ∧ k_ < w4_.heap.size) ∧ f4_ k_ = 4)) _ _ _ t5 a1 w _ HB.out HO4_4.out EB9.out.1 EB9.out.2).mono ?_
   rintro e w9_ ⟨he_, ho, hb2, hkp⟩
   rw [← Ny9.out] at ho
   have hl_ := (Kd.S_reads' ho).1
   rw [hl_] at he_ ho
   subst he_
   clear hl_
   refine ⟨_, rfl, ?_⟩
   replace hkp := Kept.mono (S' := fun k_ => ((w3_.heap.size ≤ k_ ∧ k_ < w4_.heap.size) ∧ f4_ k_ = 4)) hkp (fun k_ e_ => by subst e_; exact (Kd.S_R HO4_4.out).1 _ rfl)
   replace HO4_0 := aRk HO4_0 hkp HS
   replace HO4_1 := aRk HO4_1 hkp HS
   replace HO4_2 := aRk HO4_2 hkp HS
   replace HO4_3 := aRk HO4_3 hkp HS
   replace HO4_5 := aSk HO4_5 hkp HS
   replace BK1 := aBk BK1 hkp HS
   replace BK2 := aBk BK2 hkp HS
   replace BK3 := aBk BK3 hkp HS
   replace BK5 := aBk BK5 hkp HS
   replace HS := aHs HS hkp.1
   have HO9 := A_.mk ho
   replace HB := A_.mk hb2
   clear hkp hb2 ho HO4_4
   refine hK.out _ _ ⟨blk6_ BK1.out, blk6_ BK5.out, el8_ HB.out HX10.out⟩ (fun hHeld => ?_)
   clear hK K
   refine norm_ (a' := ?_) ?_ ?_
   rotate_left
   ·show Act.put _ (some 29) _ = _
    simp only [pS]
    rfl
   refine pd_ (i := 16) (N := some 40) #[T, T, T, T, T, T, T, T, T, T, T, T, T, F, F, F, T, F, F, F] rfl ?_
   refine one_ (i := 13) (N := some 37) #[T, T, T, T, T, T, T, T, T, T, T, T, T, T, F, F, T, F, F, F] rfl rfl (by kernel_rfl) (by decide) (fun K hK => ?_)
   refine goes_ Try.func54 (by kernel_rfl) rfl #[.agg #[.int .i64 ((rd_T38 l0_4 a1).f0), .int .i64 ((rd_T38 l0_4 a1).f1), .int .i64 ((rd_T38 l0_4 a1).f2), .int .i64 ((rd_T38 l0_4 a1).f3), .int .i64 ((rd_T38 l0_4 a1).f4), .int .i64 ((rd_T38 l0_4 a1).f5), .int .i64 ((rd_T38 l0_4 a1).f6), .slice A10_7 ((rd_T38 l0_4 a1).f7).length c10_7]] (by rfl) rfl rfl (by (try simp only [List.map_toArray, List.map_cons, List.map_nil]); first | done | rfl) ?_
   with_reducible refine (impl_copyPacket.calls ((rd_T38 l0_4 a1).f0) ((rd_T38 l0_4 a1).f1) ((rd_T38 l0_4 a1).f2) ((rd_T38 l0_4 a1).f3) ((rd_T38 l0_4 a1).f4) ((rd_T38 l0_4 a1).f5) ((rd_T38 l0_4 a1).f6) _ _ ((rd_T38 l0_4 a1).f7) t10 t11 t12 t13 t14 t15 t16 t17 _ (Kd.C_below HE10_7.out HB.out) HD10_7.out A11.out).mono ?_
   rintro e w11_ ⟨v7_, rfl, ho0_, hb⟩
   refine ⟨_, rfl, ?_⟩
   replace HS := aHs HS hb.size
   obtain ⟨Ao11_7, co11_7, ev_⟩ := Kd.R_slice ho0_
   subst ev_
   have HO11_7 := aRm ho0_ HB.out.size
   replace HO4_0 := aRb HO4_0 hb
   replace HO4_1 := aRb HO4_1 hb
   replace HO4_2 := aRb HO4_2 hb
   replace HO4_3 := aRb HO4_3 hb
   replace HO4_5 := aSb HO4_5 hb
   replace HO9 := aSb HO9 hb
   replace BK1 := aBb BK1 hb
   replace BK2 := aBb BK2 hb
   replace BK3 := aBb BK3 hb
   replace BK5 := aBb BK5 hb
   replace HB := aHB HB hb
   clear hb ho0_
   refine hK.out _ _ ⟨blk6_ BK1.out, blk6_ BK5.out, el8_ HB.out HX10.out⟩ (fun hHeld => ?_)
   clear hK K
   refine norm_ (a' := ?_) ?_ ?_
   rotate_left
   ·show Act.put _ (some 37) _ = _
    simp only [pS]
    rfl
   refine one_ (i := 14) (N := some 38) #[T, T, T, T, T, T, T, T, T, T, T, T, T, T, T, F, T, F, F, F] rfl rfl (by kernel_rfl) (by decide) (fun K hK => ?_)
   refine value_ (w1 := ?_) (v := ?_) (by rfl) rfl ?_ ?_
   rotate_left 2
   ·go_simp
    constructor
    ·rfl
    ·rfl
   refine hK.out _ _ ⟨blk6_ (bl_ BK1.out _), blk6_ (bl_ BK5.out _), el8_ (ba_ HB.out _) HX10.out⟩ (fun hHeld => ?_)
   clear hK K
   refine norm_ (a' := ?_) ?_ ?_
   rotate_left
   ·show Act.put _ (some 38) _ = _
    simp only [pS]
    rfl
   refine one_ (i := 15) (N := some 39) #[T, T, T, T, T, T, T, T, T, T, T, T, T, T, T, T, T, F, F, F] rfl rfl (by kernel_rfl) (by decide) (fun K hK => ?_)
   refine Kd.S_append_step k38 (w0 := w) w.heap.size (by rfl) (.tmp 31) (.tmp 38) 31 38 ((.agg #[(.int .i64 0), (.int .i64 0), (.int .i64 0), (.int .i64 0), (.int .i64 0), (.int .i64 0), (.int .i64 0), (.slice none 0 0)])) 80 rfl Try.underlying31 info38 rfl (by decide) (by omega) (.slice Ao4_5 t6.length co4_5) t6 (⟨t10, t11, t12, t13, t14, t15, t16, t17⟩ : S38) [.int .i64 t10, .int .i64 t11, .int .i64 t12, .int .i64 t13, .int .i64 t14, .int .i64 t15, .int .i64 t16, .slice Ao11_7 t17.length co11_7] (fun k_ => (((w3_.heap.size ≤ k_ ∧ k_ < w4_.heap.size) ∧ f4_ k_ = 5)) ∨ (((w9_.heap.size ≤ k_ ∧ k_ < w11_.heap.size))) ∨ w11_.heap.size ≤ k_) (fun k_ => ((w9_.heap.size ≤ k_ ∧ k_ < w11_.heap.size))) rfl rfl ?aP ?aQ ?aF ?aO HB.out HB.out.size ?aL ?_
   case aP => exact k38_mkM _ _ _ (⟨t10, t11, t12, t13, t14, t15, t16, t17⟩ : S38) HO11_7.out
   case aQ => exact fun k_ hk_ => ⟨.inr (.inl hk_), fun e_ => by have := (Kd.S_R HO4_5.out).1 k_ e_.symm; clear e_; have := HS.out; omega⟩
   case aF => exact fun k_ hk_ => .inr (.inr hk_)
   case aO => exact Kd.S_mono HO4_5.out (fun k_ hk_ => ⟨.inl hk_, fun e_ => by have := HS.out; omega⟩)
   case aL => have := LM12.out; omega
   intro v_ w12_ ho hbb hg hat
   clear hat
   rw [← Ny18.out] at ho
   have hkp : Kept w11_ w12_ (fun k_ => ((w3_.heap.size ≤ k_ ∧ k_ < w4_.heap.size) ∧ f4_ k_ = 5)) := Kept.of_grown hg (Kept.refl _ _) (fun k_ e_ => .inl ((Kd.S_R HO4_5.out).1 k_ e_))
   replace HO4_0 := aRk HO4_0 hkp HS
   replace HO4_1 := aRk HO4_1 hkp HS
   replace HO4_2 := aRk HO4_2 hkp HS
   replace HO4_3 := aRk HO4_3 hkp HS
   replace HO9 := aSk HO9 hkp HS
   replace BK1 := aBk BK1 hkp HS
   replace BK2 := aBk BK2 hkp HS
   replace BK3 := aBk BK3 hkp HS
   replace BK5 := aBk BK5 hkp HS
   replace HS := aHs HS hkp.1
   obtain ⟨Ao12, co12, ev_⟩ := Kd.S_slice ho
   subst ev_
   have HO12 := A_.mk (Kd.S_mono (ok' := (fun k_ => ((w3_.heap.size ≤ k_ ∧ k_ < w4_.heap.size) ∧ f4_ k_ = 5) ∨ ((w9_.heap.size ≤ k_ ∧ k_ < w11_.heap.size)) ∨ ((w11_.heap.size ≤ k_ ∧ k_ < w12_.heap.size)))) (Kd.S_bound ho) (fun k_ hk_ => by have := hk_.1; have := hk_.2.2.1; have := hk_.2.1; clear hk_; have := HS.out; omega))
   replace HB := A_.mk hbb
   clear hkp hbb hg ho HO4_5 HO11_7
   refine hK.out _ _ ⟨blk6_ BK1.out, blk6_ BK5.out, el8_ HB.out HX10.out⟩ (fun hHeld => ?_)
   clear hK K
   refine norm_ (a' := ?_) ?_ ?_
   rotate_left
   ·show Act.put _ (some 39) _ = _
    simp only [pS]
    rfl
   refine last_ (i := 17) (N := none) #[T, T, T, T, T, T, T, T, T, T, T, T, T, T, T, T, T, T, F, F] rfl rfl (by kernel_rfl) (by decide) (fun K hK => ?_)
   obtain ⟨q1_0, q1_1, q1_2, q1_3, q1_4, q1_5⟩ := blk6_ BK1.out
   obtain ⟨q2_0, q2_1, q2_2, q2_3, q2_4, q2_5⟩ := blk6_ BK2.out
   obtain ⟨q3_0, q3_1, q3_2, q3_3, q3_4, q3_5, q3_6, q3_7⟩ := blk8_ BK3.out
   obtain ⟨q5_0, q5_1, q5_2, q5_3, q5_4, q5_5⟩ := blk6_ BK5.out
   have qf0 := bf_ BK5.out 4
   obtain ⟨w13_, hw⟩ : ∃ q_ : World, q_ = (w12_.setCell ⟨gb5_, 4, none⟩ (.slice (some ⟨gd9_, 0, none⟩) y9.length co4_4)) := ⟨_, rfl⟩
   refine skip_ (w1 := w13_) (by rfl) rfl ?_ ?_
   ·rw [hw]; go_simp; try rfl
   refine hK.out _ _ ?_
   clear hK K qf0 q1_0 q1_1 q1_2 q1_3 q1_4 q1_5 q2_0 q2_1 q2_2 q2_3 q2_4 q2_5 q3_0 q3_1 q3_2 q3_3 q3_4 q3_5 q3_6 q3_7 q5_0 q5_1 q5_2 q5_3 q5_4 q5_5
   have hge : w.heap.size ≤ gb5_ := (by have := HS.out; omega)
   have hkp : Kept w12_ w13_ (fun k_ => k_ = gb5_) := (by rw [hw]; exact (Kept.of_set (Kept.refl _ _) _ _))
   have hbb : Below w.heap.size w w13_ := (by rw [hw]; exact (bs_ HB.out hge))
   have hbx : w13_.heap[gb5_]? = some (.cells #[.slice Ao4_0 t1.length co4_0, .slice Ao4_1 t2.length co4_1, .slice Ao4_2 t3.length co4_2, .slice Ao4_3 t4.length co4_3, .slice (some ⟨gd9_, 0, none⟩) y9.length co4_4, .slice Ao4_5 t6.length co4_5] 33 (0, 0)) := (by rw [hw]; exact (bp_ (cs := #[.slice Ao4_0 t1.length co4_0, .slice Ao4_1 t2.length co4_1, .slice Ao4_2 t3.length co4_2, .slice Ao4_3 t4.length co4_3, .slice (some ⟨gd9_, 0, none⟩) t5.length co4_4, .slice Ao4_5 t6.length co4_5]) BK5.out 4 _ rfl))
   clear hw
   replace HO4_0 := aRk HO4_0 hkp HS
   replace HO4_1 := aRk HO4_1 hkp HS
   replace HO4_2 := aRk HO4_2 hkp HS
   replace HO4_3 := aRk HO4_3 hkp HS
   replace HO9 := aSk HO9 hkp HS
   replace HO12 := aSk HO12 hkp HS
   replace BK1 := aBk BK1 hkp HS
   replace BK2 := aBk BK2 hkp HS
   replace BK3 := aBk BK3 hkp HS
   replace BK5 := A_.mk hbx
   replace HB := A_.mk hbb
   replace HS := aHs HS hkp.1
   clear hkp hbb hbx hge
   refine pd_ (i := 18) (N := some 41) #[T, T, T, T, T, T, T, T, T, T, T, T, T, T, T, T, T, T, T, F] rfl ?_
   refine last_ (i := 19) (N := none) #[T, T, T, T, T, T, T, T, T, T, T, T, T, T, T, T, T, T, T, T] rfl rfl (by kernel_rfl) (by decide) (fun K hK => ?_)
   obtain ⟨q1_0, q1_1, q1_2, q1_3, q1_4, q1_5⟩ := blk6_ BK1.out
   obtain ⟨q2_0, q2_1, q2_2, q2_3, q2_4, q2_5⟩ := blk6_ BK2.out
   obtain ⟨q3_0, q3_1, q3_2, q3_3, q3_4, q3_5, q3_6, q3_7⟩ := blk8_ BK3.out
   obtain ⟨q5_0, q5_1, q5_2, q5_3, q5_4, q5_5⟩ := blk6_ BK5.out
   have qf0 := bf_ BK5.out 5
   obtain ⟨w14_, hw⟩ : ∃ q_ : World, q_ = (w13_.setCell ⟨gb5_, 5, none⟩ (.slice Ao12 y18.length co12)) := ⟨_, rfl⟩
   refine skip_ (w1 := w14_) (by rfl) rfl ?_ ?_
   ·rw [hw]; go_simp; try rfl
   refine hK.out _ _ ?_
   clear hK K qf0 q1_0 q1_1 q1_2 q1_3 q1_4 q1_5 q2_0 q2_1 q2_2 q2_3 q2_4 q2_5 q3_0 q3_1 q3_2 q3_3 q3_4 q3_5 q3_6 q3_7 q5_0 q5_1 q5_2 q5_3 q5_4 q5_5
   have hge : w.heap.size ≤ gb5_ := (by have := HS.out; omega)
   have hkp : Kept w13_ w14_ (fun k_ => k_ = gb5_) := (by rw [hw]; exact (Kept.of_set (Kept.refl _ _) _ _))
   have hbb : Below w.heap.size w w14_ := (by rw [hw]; exact (bs_ HB.out hge))
   have hbx : w14_.heap[gb5_]? = some (.cells #[.slice Ao4_0 t1.length co4_0, .slice Ao4_1 t2.length co4_1, .slice Ao4_2 t3.length co4_2, .slice Ao4_3 t4.length co4_3, .slice (some ⟨gd9_, 0, none⟩) y9.length co4_4, .slice Ao12 y18.length co12] 33 (0, 0)) := (by rw [hw]; exact (bp_ (cs := #[.slice Ao4_0 t1.length co4_0, .slice Ao4_1 t2.length co4_1, .slice Ao4_2 t3.length co4_2, .slice Ao4_3 t4.length co4_3, .slice (some ⟨gd9_, 0, none⟩) y9.length co4_4, .slice Ao4_5 t6.length co4_5]) BK5.out 5 _ rfl))
   clear hw
   replace HO4_0 := aRk HO4_0 hkp HS
   replace HO4_1 := aRk HO4_1 hkp HS
   replace HO4_2 := aRk HO4_2 hkp HS
   replace HO4_3 := aRk HO4_3 hkp HS
   replace HO9 := aSk HO9 hkp HS
   replace HO12 := aSk HO12 hkp HS
   replace BK1 := aBk BK1 hkp HS
   replace BK2 := aBk BK2 hkp HS
   replace BK3 := aBk BK3 hkp HS
   replace BK5 := A_.mk hbx
   replace HB := A_.mk hbb
   replace HS := aHs HS hkp.1
   clear hkp hbb hbx hge
   refine done_ (by kernel_rfl) ?_
   obtain ⟨q1_0, q1_1, q1_2, q1_3, q1_4, q1_5⟩ := blk6_ BK1.out
   obtain ⟨q2_0, q2_1, q2_2, q2_3, q2_4, q2_5⟩ := blk6_ BK2.out
   obtain ⟨q3_0, q3_1, q3_2, q3_3, q3_4, q3_5, q3_6, q3_7⟩ := blk8_ BK3.out
   obtain ⟨q5_0, q5_1, q5_2, q5_3, q5_4, q5_5⟩ := blk6_ BK5.out
   go_wp2_with (fail)
   refine start_ (n := 10) (S := fun w' => (w'.cell? ⟨gb1_, 0, none⟩ = some (.slice A0_0 l0_0.length c0_0) ∧ w'.cell? ⟨gb1_, 1, none⟩ = some (.slice A0_1 l0_1.length c0_1) ∧ w'.cell? ⟨gb1_, 2, none⟩ = some (.slice A0_2 l0_2.length c0_2) ∧ w'.cell? ⟨gb1_, 3, none⟩ = some (.slice A0_3 l0_3.length c0_3) ∧ w'.cell? ⟨gb1_, 4, none⟩ = some (.slice (some ad10_) l0_4.length c0_4) ∧ w'.cell? ⟨gb1_, 5, none⟩ = some (.slice A0_5 l0_5.length c0_5)) ∧ (w'.cell? ⟨gb5_, 0, none⟩ = some (.slice Ao4_0 t1.length co4_0) ∧ w'.cell? ⟨gb5_, 1, none⟩ = some (.slice Ao4_1 t2.length co4_1) ∧ w'.cell? ⟨gb5_, 2, none⟩ = some (.slice Ao4_2 t3.length co4_2) ∧ w'.cell? ⟨gb5_, 3, none⟩ = some (.slice Ao4_3 t4.length co4_3) ∧ w'.cell? ⟨gb5_, 4, none⟩ = some (.slice (some ⟨gd9_, 0, none⟩) y9.length co4_4) ∧ w'.cell? ⟨gb5_, 5, none⟩ = some (.slice Ao12 y18.length co12)) ∧ (w'.cell? (ad10_.add ((a1).toNat * 8)) = some (.int .i64 ((rd_T38 l0_4 a1).f0)) ∧ w'.cell? ⟨(ad10_.add ((a1).toNat * 8)).block, (ad10_.add ((a1).toNat * 8)).off + 1, none⟩ = some (.int .i64 ((rd_T38 l0_4 a1).f1)) ∧ w'.cell? ⟨(ad10_.add ((a1).toNat * 8)).block, (ad10_.add ((a1).toNat * 8)).off + 2, none⟩ = some (.int .i64 ((rd_T38 l0_4 a1).f2)) ∧ w'.cell? ⟨(ad10_.add ((a1).toNat * 8)).block, (ad10_.add ((a1).toNat * 8)).off + 3, none⟩ = some (.int .i64 ((rd_T38 l0_4 a1).f3)) ∧ w'.cell? ⟨(ad10_.add ((a1).toNat * 8)).block, (ad10_.add ((a1).toNat * 8)).off + 4, none⟩ = some (.int .i64 ((rd_T38 l0_4 a1).f4)) ∧ w'.cell? ⟨(ad10_.add ((a1).toNat * 8)).block, (ad10_.add ((a1).toNat * 8)).off + 5, none⟩ = some (.int .i64 ((rd_T38 l0_4 a1).f5)) ∧ w'.cell? ⟨(ad10_.add ((a1).toNat * 8)).block, (ad10_.add ((a1).toNat * 8)).off + 6, none⟩ = some (.int .i64 ((rd_T38 l0_4 a1).f6)) ∧ w'.cell? ⟨(ad10_.add ((a1).toNat * 8)).block, (ad10_.add ((a1).toNat * 8)).off + 7, none⟩ = some (.slice A10_7 ((rd_T38 l0_4 a1).f7).length c10_7))) (ds := [7, 8]) #[F, F, F, F, F, F, F, F, F, F] (by kernel_rfl) rfl rfl ⟨blk6_ BK1.out, blk6_ BK5.out, el8_ (below_drew HB.out) HX10.out⟩ (fun hHeld => ?_)
   clear q1_0 q1_1 q1_2 q1_3 q1_4 q1_5 q2_0 q2_1 q2_2 q2_3 q2_4 q2_5 q3_0 q3_1 q3_2 q3_3 q3_4 q3_5 q3_6 q3_7 q5_0 q5_1 q5_2 q5_3 q5_4 q5_5
   have hb := below_drew (Below.refl w14_.heap.size w14_)
   replace HS := aHs HS hb.size
   replace HO4_0 := aRb HO4_0 hb
   replace HO4_1 := aRb HO4_1 hb
   replace HO4_2 := aRb HO4_2 hb
   replace HO4_3 := aRb HO4_3 hb
   replace HO9 := aSb HO9 hb
   replace HO12 := aSb HO12 hb
   replace BK1 := aBb BK1 hb
   replace BK2 := aBb BK2 hb
   replace BK3 := aBb BK3 hb
   replace BK5 := aBb BK5 hb
   replace HB := aHB HB hb
   clear hb
   generalize w14_.drew = w23d_ at HO4_0 HO4_1 HO4_2 HO4_3 HO9 HO12 BK1 BK2 BK3 BK5 HB HS hHeld ⊢
   refine take_ (i := 0) (N := some 42) (v := ?_) (a' := ?_) #[T, F, F, F, F, F, F, F, F, F] rfl rfl (by kernel_rfl) (fun _ _ _ h => h) (Or.inl ⟨by rfl, ?_⟩) hHeld ?_ ?_
   rotate_left
   ·rintro w' ⟨⟨s1_0, s1_1, s1_2, s1_3, s1_4, s1_5⟩, ⟨s5_0, s5_1, s5_2, s5_3, s5_4, s5_5⟩, ⟨r10_0, r10_1, r10_2, r10_3, r10_4, r10_5, r10_6, r10_7⟩⟩
    go_simp
    with_reducible rfl
   rotate_left
   ·simp only [pS]
    rfl
   refine pd_ (i := 1) (N := some 43) #[T, T, F, F, F, F, F, F, F, F] rfl ?_
   refine take_ (i := 2) (N := some 44) (v := ?_) (a' := ?_) #[T, T, T, F, F, F, F, F, F, F] rfl rfl (by kernel_rfl) (fun _ _ _ h => h) (Or.inl ⟨by rfl, ?_⟩) hHeld ?_ ?_
   rotate_left
   ·rintro w' ⟨⟨s1_0, s1_1, s1_2, s1_3, s1_4, s1_5⟩, ⟨s5_0, s5_1, s5_2, s5_3, s5_4, s5_5⟩, ⟨r10_0, r10_1, r10_2, r10_3, r10_4, r10_5, r10_6, r10_7⟩⟩
    go_simp
    with_reducible rfl
   rotate_left
   ·simp only [pS]
    rfl
   refine pd_ (i := 3) (N := some 45) #[T, T, T, T, F, F, F, F, F, F] rfl ?_
   refine pd_ (i := 4) (N := some 46) #[T, T, T, T, T, F, F, F, F, F] rfl ?_
   refine take_ (i := 5) (N := some 47) (v := ?_) (a' := ?_) #[T, T, T, T, T, T, F, F, F, F] rfl rfl (by kernel_rfl) (fun _ _ _ h => h) (Or.inl ⟨by rfl, ?_⟩) hHeld ?_ ?_
   rotate_left
   ·rintro w' ⟨⟨s1_0, s1_1, s1_2, s1_3, s1_4, s1_5⟩, ⟨s5_0, s5_1, s5_2, s5_3, s5_4, s5_5⟩, ⟨r10_0, r10_1, r10_2, r10_3, r10_4, r10_5, r10_6, r10_7⟩⟩
    go_simp
    with_reducible rfl
   rotate_left
   ·simp only [pS]
    rfl
   refine one_ (i := 6) (N := some 48) #[T, T, T, T, T, T, T, F, F, F] rfl rfl (by kernel_rfl) (by decide) (fun K hK => ?_)
   refine goes_ Try.func54 (by kernel_rfl) rfl #[.agg #[.int .i64 ((rd_T38 l0_4 a1).f0), .int .i64 ((rd_T38 l0_4 a1).f1), .int .i64 ((rd_T38 l0_4 a1).f2), .int .i64 ((rd_T38 l0_4 a1).f3), .int .i64 ((rd_T38 l0_4 a1).f4), .int .i64 ((rd_T38 l0_4 a1).f5), .int .i64 ((rd_T38 l0_4 a1).f6), .slice A10_7 ((rd_T38 l0_4 a1).f7).length c10_7]] (by rfl) rfl rfl (by (try simp only [List.map_toArray, List.map_cons, List.map_nil]); first | done | rfl) ?_
   with_reducible refine (impl_copyPacket.calls ((rd_T38 l0_4 a1).f0) ((rd_T38 l0_4 a1).f1) ((rd_T38 l0_4 a1).f2) ((rd_T38 l0_4 a1).f3) ((rd_T38 l0_4 a1).f4) ((rd_T38 l0_4 a1).f5) ((rd_T38 l0_4 a1).f6) _ _ ((rd_T38 l0_4 a1).f7) t19 t20 t21 t22 t23 t24 t25 t26 _ (Kd.C_below HE10_7.out HB.out) HD10_7.out A15.out).mono ?_
   rintro e w15_ ⟨v7_, rfl, ho0_, hb⟩
   refine ⟨_, rfl, ?_⟩
   replace HS := aHs HS hb.size
   obtain ⟨Ao15_7, co15_7, ev_⟩ := Kd.R_slice ho0_
   subst ev_
   have HO15_7 := aRm ho0_ HB.out.size
   replace HO4_0 := aRb HO4_0 hb
   replace HO4_1 := aRb HO4_1 hb
   replace HO4_2 := aRb HO4_2 hb
   replace HO4_3 := aRb HO4_3 hb
   replace HO9 := aSb HO9 hb
   replace HO12 := aSb HO12 hb
   replace BK1 := aBb BK1 hb
   replace BK2 := aBb BK2 hb
   replace BK3 := aBb BK3 hb
   replace BK5 := aBb BK5 hb
   replace HB := aHB HB hb
   clear hb ho0_
   refine hK.out _ _ ⟨blk6_ BK1.out, blk6_ BK5.out, el8_ HB.out HX10.out⟩ (fun hHeld => ?_)
   clear hK K
   refine norm_ (a' := ?_) ?_ ?_
   rotate_left
   ·show Act.put _ (some 48) _ = _
    simp only [pS]
    rfl
   refine last_ (i := 7) (N := none) #[T, T, T, T, T, T, T, T, F, F] rfl rfl (by kernel_rfl) (by decide) (fun K hK => ?_)
   obtain ⟨q1_0, q1_1, q1_2, q1_3, q1_4, q1_5⟩ := blk6_ BK1.out
   obtain ⟨q2_0, q2_1, q2_2, q2_3, q2_4, q2_5⟩ := blk6_ BK2.out
   obtain ⟨q3_0, q3_1, q3_2, q3_3, q3_4, q3_5, q3_6, q3_7⟩ := blk8_ BK3.out
   obtain ⟨q5_0, q5_1, q5_2, q5_3, q5_4, q5_5⟩ := blk6_ BK5.out
   have qf0 := bf_ BK2.out 0; have qf1 := bf_ BK2.out 1; have qf2 := bf_ BK2.out 2; have qf3 := bf_ BK2.out 3; have qf4 := bf_ BK2.out 4; have qf5 := bf_ BK2.out 5
   obtain ⟨w16_, hw⟩ : ∃ q_ : World, q_ = (ch6_ w15_ gb2_ (.slice Ao4_0 t1.length co4_0) (.slice Ao4_1 t2.length co4_1) (.slice Ao4_2 t3.length co4_2) (.slice Ao4_3 t4.length co4_3) (.slice (some ⟨gd9_, 0, none⟩) y9.length co4_4) (.slice Ao12 y18.length co12)) := ⟨_, rfl⟩
   refine skip_ (w1 := w16_) (by rfl) rfl ?_ ?_
   ·rw [hw]; go_simp; try rfl
   refine hK.out _ _ ?_
   clear hK K qf0 qf1 qf2 qf3 qf4 qf5 q1_0 q1_1 q1_2 q1_3 q1_4 q1_5 q2_0 q2_1 q2_2 q2_3 q2_4 q2_5 q3_0 q3_1 q3_2 q3_3 q3_4 q3_5 q3_6 q3_7 q5_0 q5_1 q5_2 q5_3 q5_4 q5_5
   obtain ⟨hbx, hkp, hbb⟩ := st6_ hw BK2 HB (by have := HS.out; omega)
   clear hw
   replace HO4_0 := aRk HO4_0 hkp HS
   replace HO4_1 := aRk HO4_1 hkp HS
   replace HO4_2 := aRk HO4_2 hkp HS
   replace HO4_3 := aRk HO4_3 hkp HS
   replace HO9 := aSk HO9 hkp HS
   replace HO12 := aSk HO12 hkp HS
   replace HO15_7 := aRk HO15_7 hkp HS
   replace BK1 := aBk BK1 hkp HS
   replace BK3 := aBk BK3 hkp HS
   replace BK5 := aBk BK5 hkp HS
   replace BK2 := A_.mk hbx
   replace HB := A_.mk hbb
   replace HS := aHs HS hkp.1
   clear hkp hbb hbx
   refine last_ (i := 8) (N := none) #[T, T, T, T, T, T, T, T, T, F] rfl rfl (by kernel_rfl) (by decide) (fun K hK => ?_)
   obtain ⟨q1_0, q1_1, q1_2, q1_3, q1_4, q1_5⟩ := blk6_ BK1.out
   obtain ⟨q2_0, q2_1, q2_2, q2_3, q2_4, q2_5⟩ := blk6_ BK2.out
   obtain ⟨q3_0, q3_1, q3_2, q3_3, q3_4, q3_5, q3_6, q3_7⟩ := blk8_ BK3.out
   obtain ⟨q5_0, q5_1, q5_2, q5_3, q5_4, q5_5⟩ := blk6_ BK5.out
   have qf0 := bf_ BK3.out 0; have qf1 := bf_ BK3.out 1; have qf2 := bf_ BK3.out 2; have qf3 := bf_ BK3.out 3; have qf4 := bf_ BK3.out 4; have qf5 := bf_ BK3.out 5; have qf6 := bf_ BK3.out 6; have qf7 := bf_ BK3.out 7
   obtain ⟨w17_, hw⟩ : ∃ q_ : World, q_ = (ch8_ w16_ gb3_ (.int .i64 t19) (.int .i64 t20) (.int .i64 t21) (.int .i64 t22) (.int .i64 t23) (.int .i64 t24) (.int .i64 t25) (.slice Ao15_7 t26.length co15_7)) := ⟨_, rfl⟩
   refine skip_ (w1 := w17_) (by rfl) rfl ?_ ?_
   ·rw [hw]; go_simp; try rfl
   refine hK.out _ _ ?_
   clear hK K qf0 qf1 qf2 qf3 qf4 qf5 qf6 qf7 q1_0 q1_1 q1_2 q1_3 q1_4 q1_5 q2_0 q2_1 q2_2 q2_3 q2_4 q2_5 q3_0 q3_1 q3_2 q3_3 q3_4 q3_5 q3_6 q3_7 q5_0 q5_1 q5_2 q5_3 q5_4 q5_5
   obtain ⟨hbx, hkp, hbb⟩ := st8_ hw BK3 HB (by have := HS.out; omega)
   clear hw
   replace HO4_0 := aRk HO4_0 hkp HS
   replace HO4_1 := aRk HO4_1 hkp HS
   replace HO4_2 := aRk HO4_2 hkp HS
   replace HO4_3 := aRk HO4_3 hkp HS
   replace HO9 := aSk HO9 hkp HS
   replace HO12 := aSk HO12 hkp HS
   replace HO15_7 := aRk HO15_7 hkp HS
   replace BK1 := aBk BK1 hkp HS
   replace BK2 := aBk BK2 hkp HS
   replace BK5 := aBk BK5 hkp HS
   replace BK3 := A_.mk hbx
   replace HB := A_.mk hbb
   replace HS := aHs HS hkp.1
   clear hkp hbb hbx
   refine pd_ (i := 9) (N := some 6) #[T, T, T, T, T, T, T, T, T, T] rfl ?_
   refine done_ (by kernel_rfl) ?_
   obtain ⟨q1_0, q1_1, q1_2, q1_3, q1_4, q1_5⟩ := blk6_ BK1.out
   obtain ⟨q2_0, q2_1, q2_2, q2_3, q2_4, q2_5⟩ := blk6_ BK2.out
   obtain ⟨q3_0, q3_1, q3_2, q3_3, q3_4, q3_5, q3_6, q3_7⟩ := blk8_ BK3.out
   obtain ⟨q5_0, q5_1, q5_2, q5_3, q5_4, q5_5⟩ := blk6_ BK5.out
   go_wp2
   refine bodyPost_ret (results_cct rfl _ _ gb2_ 33 #[.slice Ao4_0 t1.length co4_0, .slice Ao4_1 t2.length co4_1, .slice Ao4_2 t3.length co4_2, .slice Ao4_3 t4.length co4_3, .slice (some ⟨gd9_, 0, none⟩) y9.length co4_4, .slice Ao12 y18.length co12] (0, 0) _ rfl BK2.out Try.underlying33 rfl (by kernel_rfl) gb3_ 38 #[.int .i64 t19, .int .i64 t20, .int .i64 t21, .int .i64 t22, .int .i64 t23, .int .i64 t24, .int .i64 t25, .slice Ao15_7 t26.length co15_7] (0, 0) _ rfl BK3.out Try.underlying38 rfl (by kernel_rfl)) rfl ?_
   obtain ⟨f_, hf_⟩ : ∃ f_ : Nat → Nat, ∀ k_, f_ k_ = (if ((w3_.heap.size ≤ k_ ∧ k_ < w4_.heap.size) ∧ f4_ k_ = 0) then 0 else (if ((w3_.heap.size ≤ k_ ∧ k_ < w4_.heap.size) ∧ f4_ k_ = 1) then 1 else (if ((w3_.heap.size ≤ k_ ∧ k_ < w4_.heap.size) ∧ f4_ k_ = 2) then 2 else (if ((w3_.heap.size ≤ k_ ∧ k_ < w4_.heap.size) ∧ f4_ k_ = 3) then 3 else (if ((w3_.heap.size ≤ k_ ∧ k_ < w4_.heap.size) ∧ f4_ k_ = 4) then 4 else (if ((w3_.heap.size ≤ k_ ∧ k_ < w4_.heap.size) ∧ f4_ k_ = 5) ∨ ((w9_.heap.size ≤ k_ ∧ k_ < w11_.heap.size)) ∨ ((w11_.heap.size ≤ k_ ∧ k_ < w12_.heap.size)) then 5 else (if ((w23d_.heap.size ≤ k_ ∧ k_ < w15_.heap.size)) then 6 else 0))))))) := ⟨fun k_ => (if ((w3_.heap.size ≤ k_ ∧ k_ < w4_.heap.size) ∧ f4_ k_ = 0) then 0 else (if ((w3_.heap.size ≤ k_ ∧ k_ < w4_.heap.size) ∧ f4_ k_ = 1) then 1 else (if ((w3_.heap.size ≤ k_ ∧ k_ < w4_.heap.size) ∧ f4_ k_ = 2) then 2 else (if ((w3_.heap.size ≤ k_ ∧ k_ < w4_.heap.size) ∧ f4_ k_ = 3) then 3 else (if ((w3_.heap.size ≤ k_ ∧ k_ < w4_.heap.size) ∧ f4_ k_ = 4) then 4 else (if ((w3_.heap.size ≤ k_ ∧ k_ < w4_.heap.size) ∧ f4_ k_ = 5) ∨ ((w9_.heap.size ≤ k_ ∧ k_ < w11_.heap.size)) ∨ ((w11_.heap.size ≤ k_ ∧ k_ < w12_.heap.size)) then 5 else (if ((w23d_.heap.size ≤ k_ ∧ k_ < w15_.heap.size)) then 6 else 0))))))), fun _ => rfl⟩
   have hcol0_ : ∀ k_, (((w3_.heap.size ≤ k_ ∧ k_ < w4_.heap.size) ∧ f4_ k_ = 0)) → f_ k_ = 0 := fun k_ hk_ => by rw [hf_]; have := HS.out; repeat' (first | omega | split)
   have hcol1_ : ∀ k_, (((w3_.heap.size ≤ k_ ∧ k_ < w4_.heap.size) ∧ f4_ k_ = 1)) → f_ k_ = 1 := fun k_ hk_ => by rw [hf_]; have := HS.out; repeat' (first | omega | split)
   have hcol2_ : ∀ k_, (((w3_.heap.size ≤ k_ ∧ k_ < w4_.heap.size) ∧ f4_ k_ = 2)) → f_ k_ = 2 := fun k_ hk_ => by rw [hf_]; have := HS.out; repeat' (first | omega | split)
   have hcol3_ : ∀ k_, (((w3_.heap.size ≤ k_ ∧ k_ < w4_.heap.size) ∧ f4_ k_ = 3)) → f_ k_ = 3 := fun k_ hk_ => by rw [hf_]; have := HS.out; repeat' (first | omega | split)
   have hcol4_ : ∀ k_, (((w3_.heap.size ≤ k_ ∧ k_ < w4_.heap.size) ∧ f4_ k_ = 4)) → f_ k_ = 4 := fun k_ hk_ => by rw [hf_]; have := HS.out; repeat' (first | omega | split)
   have hcol5_ : ∀ k_, (((w3_.heap.size ≤ k_ ∧ k_ < w4_.heap.size) ∧ f4_ k_ = 5) ∨ ((w9_.heap.size ≤ k_ ∧ k_ < w11_.heap.size)) ∨ ((w11_.heap.size ≤ k_ ∧ k_ < w12_.heap.size))) → f_ k_ = 5 := fun k_ hk_ => by rw [hf_]; have := HS.out; repeat' (first | omega | split)
   have hcol6_ : ∀ k_, (((w23d_.heap.size ≤ k_ ∧ k_ < w15_.heap.size))) → f_ k_ = 6 := fun k_ hk_ => by rw [hf_]; have := HS.out; repeat' (first | omega | split)
   exact ⟨f_, _, _, _, _, _, _, _, rfl, Kd.R_mono HO4_0.out hcol0_, Kd.R_mono HO4_1.out hcol1_, Kd.R_mono HO4_2.out hcol2_, Kd.R_mono HO4_3.out hcol3_, Kd.S_mono HO9.out hcol4_, Kd.S_mono HO12.out hcol5_, Kd.R_mono HO15_7.out hcol6_, HB.out⟩
  case neg =>
   rw [if_neg hc2_] at H
   replace hc2_ := eq_false_of_ne_true hc2_
   subst hc2_
   simp only [Option.some.injEq, Prod.mk.injEq] at H
   obtain ⟨rfl, rfl, rfl, rfl, rfl, rfl, rfl, rfl, rfl, rfl, rfl, rfl, rfl, rfl, rfl⟩ := H
   go_wp2_with (first | ((with_reducible refine gs_ (t := 33) (p := 4) rfl ?_); have qf0 := bf_ BK2.out 0; have qf1 := bf_ BK2.out 1; have qf2 := bf_ BK2.out 2; have qf3 := bf_ BK2.out 3; have qf4 := bf_ BK2.out 4; have qf5 := bf_ BK2.out 5; refine se_ (t := 33) (p := 4) (v := ?vo_18) (w1 := (ch6_ w8_ gb2_ (.slice Ao4_0 t1.length co4_0) (.slice Ao4_1 t2.length co4_1) (.slice Ao4_2 t3.length co4_2) (.slice Ao4_3 t4.length co4_3) (.slice Ao4_4 t5.length co4_4) (.slice Ao4_5 t6.length co4_5))) ?hg ?ho ?hn ?hr ?_; (case ho => rfl); (case hg => rfl); (case hn => rfl); (case hr => first | (go_simp; done) | (go_simp; rfl)); intro w18_ hw; clear qf0 qf1 qf2 qf3 qf4 qf5; obtain ⟨hbx, hkp, hbb⟩ := st6_ hw BK2 HB (by have := HS.out; omega); clear hw; replace HO4_0 := aRk HO4_0 hkp HS; replace HO4_1 := aRk HO4_1 hkp HS; replace HO4_2 := aRk HO4_2 hkp HS; replace HO4_3 := aRk HO4_3 hkp HS; replace HO4_4 := aSk HO4_4 hkp HS; replace HO4_5 := aSk HO4_5 hkp HS; replace BK1 := aBk BK1 hkp HS; replace BK3 := aBk BK3 hkp HS; replace BK5 := aBk BK5 hkp HS; replace BK2 := A_.mk hbx; replace HB := A_.mk hbb; replace HS := aHs HS hkp.1; clear hkp hbb hbx q1_0 q1_1 q1_2 q1_3 q1_4 q1_5 q2_0 q2_1 q2_2 q2_3 q2_4 q2_5 q3_0 q3_1 q3_2 q3_3 q3_4 q3_5 q3_6 q3_7 q5_0 q5_1 q5_2 q5_3 q5_4 q5_5; obtain ⟨q1_0, q1_1, q1_2, q1_3, q1_4, q1_5⟩ := blk6_ BK1.out; obtain ⟨q2_0, q2_1, q2_2, q2_3, q2_4, q2_5⟩ := blk6_ BK2.out; obtain ⟨q3_0, q3_1, q3_2, q3_3, q3_4, q3_5, q3_6, q3_7⟩ := blk8_ BK3.out; obtain ⟨q5_0, q5_1, q5_2, q5_3, q5_4, q5_5⟩ := blk6_ BK5.out) | ((with_reducible refine gs_ (t := 38) (p := 5) rfl ?_); have qf0 := bf_ BK3.out 0; have qf1 := bf_ BK3.out 1; have qf2 := bf_ BK3.out 2; have qf3 := bf_ BK3.out 3; have qf4 := bf_ BK3.out 4; have qf5 := bf_ BK3.out 5; have qf6 := bf_ BK3.out 6; have qf7 := bf_ BK3.out 7; refine se_ (t := 38) (p := 5) (v := ?vo_19) (w1 := (ch8_ w18_ gb3_ (.int .i64 0) (.int .i64 0) (.int .i64 0) (.int .i64 0) (.int .i64 0) (.int .i64 0) (.int .i64 0) (.slice none 0 0))) ?hg ?ho ?hn ?hr ?_; (case ho => rfl); (case hg => rfl); (case hn => rfl); (case hr => first | (go_simp; done) | (go_simp; rfl)); intro w19_ hw; clear qf0 qf1 qf2 qf3 qf4 qf5 qf6 qf7; obtain ⟨hbx, hkp, hbb⟩ := st8_ hw BK3 HB (by have := HS.out; omega); clear hw; replace HO4_0 := aRk HO4_0 hkp HS; replace HO4_1 := aRk HO4_1 hkp HS; replace HO4_2 := aRk HO4_2 hkp HS; replace HO4_3 := aRk HO4_3 hkp HS; replace HO4_4 := aSk HO4_4 hkp HS; replace HO4_5 := aSk HO4_5 hkp HS; replace BK1 := aBk BK1 hkp HS; replace BK2 := aBk BK2 hkp HS; replace BK5 := aBk BK5 hkp HS; replace BK3 := A_.mk hbx; replace HB := A_.mk hbb; replace HS := aHs HS hkp.1; clear hkp hbb hbx q1_0 q1_1 q1_2 q1_3 q1_4 q1_5 q2_0 q2_1 q2_2 q2_3 q2_4 q2_5 q3_0 q3_1 q3_2 q3_3 q3_4 q3_5 q3_6 q3_7 q5_0 q5_1 q5_2 q5_3 q5_4 q5_5; obtain ⟨q1_0, q1_1, q1_2, q1_3, q1_4, q1_5⟩ := blk6_ BK1.out; obtain ⟨q2_0, q2_1, q2_2, q2_3, q2_4, q2_5⟩ := blk6_ BK2.out; obtain ⟨q3_0, q3_1, q3_2, q3_3, q3_4, q3_5, q3_6, q3_7⟩ := blk8_ BK3.out; obtain ⟨q5_0, q5_1, q5_2, q5_3, q5_4, q5_5⟩ := blk6_ BK5.out))
   refine bodyPost_ret (results_cct rfl _ _ gb2_ 33 #[.slice Ao4_0 t1.length co4_0, .slice Ao4_1 t2.length co4_1, .slice Ao4_2 t3.length co4_2, .slice Ao4_3 t4.length co4_3, .slice Ao4_4 t5.length co4_4, .slice Ao4_5 t6.length co4_5] (0, 0) _ rfl BK2.out Try.underlying33 rfl (by kernel_rfl) gb3_ 38 #[.int .i64 0, .int .i64 0, .int .i64 0, .int .i64 0, .int .i64 0, .int .i64 0, .int .i64 0, .slice none 0 0] (0, 0) _ rfl BK3.out Try.underlying38 rfl (by kernel_rfl)) rfl ?_
   obtain ⟨f_, hf_⟩ : ∃ f_ : Nat → Nat, ∀ k_, f_ k_ = (if ((w3_.heap.size ≤ k_ ∧ k_ < w4_.heap.size) ∧ f4_ k_ = 0) then 0 else (if ((w3_.heap.size ≤ k_ ∧ k_ < w4_.heap.size) ∧ f4_ k_ = 1) then 1 else (if ((w3_.heap.size ≤ k_ ∧ k_ < w4_.heap.size) ∧ f4_ k_ = 2) then 2 else (if ((w3_.heap.size ≤ k_ ∧ k_ < w4_.heap.size) ∧ f4_ k_ = 3) then 3 else (if ((w3_.heap.size ≤ k_ ∧ k_ < w4_.heap.size) ∧ f4_ k_ = 4) then 4 else (if ((w3_.heap.size ≤ k_ ∧ k_ < w4_.heap.size) ∧ f4_ k_ = 5) then 5 else 0)))))) := ⟨fun k_ => (if ((w3_.heap.size ≤ k_ ∧ k_ < w4_.heap.size) ∧ f4_ k_ = 0) then 0 else (if ((w3_.heap.size ≤ k_ ∧ k_ < w4_.heap.size) ∧ f4_ k_ = 1) then 1 else (if ((w3_.heap.size ≤ k_ ∧ k_ < w4_.heap.size) ∧ f4_ k_ = 2) then 2 else (if ((w3_.heap.size ≤ k_ ∧ k_ < w4_.heap.size) ∧ f4_ k_ = 3) then 3 else (if ((w3_.heap.size ≤ k_ ∧ k_ < w4_.heap.size) ∧ f4_ k_ = 4) then 4 else (if ((w3_.heap.size ≤ k_ ∧ k_ < w4_.heap.size) ∧ f4_ k_ = 5) then 5 else 0)))))), fun _ => rfl⟩
   have hcol0_ : ∀ k_, (((w3_.heap.size ≤ k_ ∧ k_ < w4_.heap.size) ∧ f4_ k_ = 0)) → f_ k_ = 0 := fun k_ hk_ => by rw [hf_]; have := HS.out; repeat' (first | omega | split)
   have hcol1_ : ∀ k_, (((w3_.heap.size ≤ k_ ∧ k_ < w4_.heap.size) ∧ f4_ k_ = 1)) → f_ k_ = 1 := fun k_ hk_ => by rw [hf_]; have := HS.out; repeat' (first | omega | split)
   have hcol2_ : ∀ k_, (((w3_.heap.size ≤ k_ ∧ k_ < w4_.heap.size) ∧ f4_ k_ = 2)) → f_ k_ = 2 := fun k_ hk_ => by rw [hf_]; have := HS.out; repeat' (first | omega | split)
   have hcol3_ : ∀ k_, (((w3_.heap.size ≤ k_ ∧ k_ < w4_.heap.size) ∧ f4_ k_ = 3)) → f_ k_ = 3 := fun k_ hk_ => by rw [hf_]; have := HS.out; repeat' (first | omega | split)
   have hcol4_ : ∀ k_, (((w3_.heap.size ≤ k_ ∧ k_ < w4_.heap.size) ∧ f4_ k_ = 4)) → f_ k_ = 4 := fun k_ hk_ => by rw [hf_]; have := HS.out; repeat' (first | omega | split)
   have hcol5_ : ∀ k_, (((w3_.heap.size ≤ k_ ∧ k_ < w4_.heap.size) ∧ f4_ k_ = 5)) → f_ k_ = 5 := fun k_ hk_ => by rw [hf_]; have := HS.out; repeat' (first | omega | split)
   exact ⟨f_, _, _, _, _, _, _, _, rfl, Kd.R_mono HO4_0.out hcol0_, Kd.R_mono HO4_1.out hcol1_, Kd.R_mono HO4_2.out hcol2_, Kd.R_mono HO4_3.out hcol3_, Kd.S_mono HO4_4.out hcol4_, Kd.S_mono HO4_5.out hcol5_, Kd.R_nil _ _ _ _ _, HB.out⟩
 case neg =>
  rw [if_neg hc1_] at H
  replace hc1_ := eq_false_of_ne_true hc1_
  subst hc1_
  simp only [Option.some.injEq, Prod.mk.injEq] at H
  obtain ⟨rfl, rfl, rfl, rfl, rfl, rfl, rfl, rfl, rfl, rfl, rfl, rfl, rfl, rfl, rfl⟩ := H
  go_wp2_with (first | ((with_reducible refine gs_ (t := 33) (p := 4) rfl ?_); have qf0 := bf_ BK2.out 0; have qf1 := bf_ BK2.out 1; have qf2 := bf_ BK2.out 2; have qf3 := bf_ BK2.out 3; have qf4 := bf_ BK2.out 4; have qf5 := bf_ BK2.out 5; refine se_ (t := 33) (p := 4) (v := ?vo_20) (w1 := (ch6_ w7_ gb2_ (.slice Ao4_0 t1.length co4_0) (.slice Ao4_1 t2.length co4_1) (.slice Ao4_2 t3.length co4_2) (.slice Ao4_3 t4.length co4_3) (.slice Ao4_4 t5.length co4_4) (.slice Ao4_5 t6.length co4_5))) ?hg ?ho ?hn ?hr ?_; (case ho => rfl); (case hg => rfl); (case hn => rfl); (case hr => first | (go_simp; done) | (go_simp; rfl)); intro w20_ hw; clear qf0 qf1 qf2 qf3 qf4 qf5; obtain ⟨hbx, hkp, hbb⟩ := st6_ hw BK2 HB (by have := HS.out; omega); clear hw; replace HO4_0 := aRk HO4_0 hkp HS; replace HO4_1 := aRk HO4_1 hkp HS; replace HO4_2 := aRk HO4_2 hkp HS; replace HO4_3 := aRk HO4_3 hkp HS; replace HO4_4 := aSk HO4_4 hkp HS; replace HO4_5 := aSk HO4_5 hkp HS; replace BK1 := aBk BK1 hkp HS; replace BK3 := aBk BK3 hkp HS; replace BK5 := aBk BK5 hkp HS; replace BK2 := A_.mk hbx; replace HB := A_.mk hbb; replace HS := aHs HS hkp.1; clear hkp hbb hbx q1_0 q1_1 q1_2 q1_3 q1_4 q1_5 q2_0 q2_1 q2_2 q2_3 q2_4 q2_5 q3_0 q3_1 q3_2 q3_3 q3_4 q3_5 q3_6 q3_7 q5_0 q5_1 q5_2 q5_3 q5_4 q5_5; obtain ⟨q1_0, q1_1, q1_2, q1_3, q1_4, q1_5⟩ := blk6_ BK1.out; obtain ⟨q2_0, q2_1, q2_2, q2_3, q2_4, q2_5⟩ := blk6_ BK2.out; obtain ⟨q3_0, q3_1, q3_2, q3_3, q3_4, q3_5, q3_6, q3_7⟩ := blk8_ BK3.out; obtain ⟨q5_0, q5_1, q5_2, q5_3, q5_4, q5_5⟩ := blk6_ BK5.out) | ((with_reducible refine gs_ (t := 38) (p := 5) rfl ?_); have qf0 := bf_ BK3.out 0; have qf1 := bf_ BK3.out 1; have qf2 := bf_ BK3.out 2; have qf3 := bf_ BK3.out 3; have qf4 := bf_ BK3.out 4; have qf5 := bf_ BK3.out 5; have qf6 := bf_ BK3.out 6; have qf7 := bf_ BK3.out 7; refine se_ (t := 38) (p := 5) (v := ?vo_21) (w1 := (ch8_ w20_ gb3_ (.int .i64 0) (.int .i64 0) (.int .i64 0) (.int .i64 0) (.int .i64 0) (.int .i64 0) (.int .i64 0) (.slice none 0 0))) ?hg ?ho ?hn ?hr ?_; (case ho => rfl); (case hg => rfl); (case hn => rfl); (case hr => first | (go_simp; done) | (go_simp; rfl)); intro w21_ hw; clear qf0 qf1 qf2 qf3 qf4 qf5 qf6 qf7; obtain ⟨hbx, hkp, hbb⟩ := st8_ hw BK3 HB (by have := HS.out; omega); clear hw; replace HO4_0 := aRk HO4_0 hkp HS; replace HO4_1 := aRk HO4_1 hkp HS; replace HO4_2 := aRk HO4_2 hkp HS; replace HO4_3 := aRk HO4_3 hkp HS; replace HO4_4 := aSk HO4_4 hkp HS; replace HO4_5 := aSk HO4_5 hkp HS; replace BK1 := aBk BK1 hkp HS; replace BK2 := aBk BK2 hkp HS; replace BK5 := aBk BK5 hkp HS; replace BK3 := A_.mk hbx; replace HB := A_.mk hbb; replace HS := aHs HS hkp.1; clear hkp hbb hbx q1_0 q1_1 q1_2 q1_3 q1_4 q1_5 q2_0 q2_1 q2_2 q2_3 q2_4 q2_5 q3_0 q3_1 q3_2 q3_3 q3_4 q3_5 q3_6 q3_7 q5_0 q5_1 q5_2 q5_3 q5_4 q5_5; obtain ⟨q1_0, q1_1, q1_2, q1_3, q1_4, q1_5⟩ := blk6_ BK1.out; obtain ⟨q2_0, q2_1, q2_2, q2_3, q2_4, q2_5⟩ := blk6_ BK2.out; obtain ⟨q3_0, q3_1, q3_2, q3_3, q3_4, q3_5, q3_6, q3_7⟩ := blk8_ BK3.out; obtain ⟨q5_0, q5_1, q5_2, q5_3, q5_4, q5_5⟩ := blk6_ BK5.out))
  refine bodyPost_ret (results_cct rfl _ _ gb2_ 33 #[.slice Ao4_0 t1.length co4_0, .slice Ao4_1 t2.length co4_1, .slice Ao4_2 t3.length co4_2, .slice Ao4_3 t4.length co4_3, .slice Ao4_4 t5.length co4_4, .slice Ao4_5 t6.length co4_5] (0, 0) _ rfl BK2.out Try.underlying33 rfl (by kernel_rfl) gb3_ 38 #[.int .i64 0, .int .i64 0, .int .i64 0, .int .i64 0, .int .i64 0, .int .i64 0, .int .i64 0, .slice none 0 0] (0, 0) _ rfl BK3.out Try.underlying38 rfl (by kernel_rfl)) rfl ?_
  obtain ⟨f_, hf_⟩ : ∃ f_ : Nat → Nat, ∀ k_, f_ k_ = (if ((w3_.heap.size ≤ k_ ∧ k_ < w4_.heap.size) ∧ f4_ k_ = 0) then 0 else (if ((w3_.heap.size ≤ k_ ∧ k_ < w4_.heap.size) ∧ f4_ k_ = 1) then 1 else (if ((w3_.heap.size ≤ k_ ∧ k_ < w4_.heap.size) ∧ f4_ k_ = 2) then 2 else (if ((w3_.heap.size ≤ k_ ∧ k_ < w4_.heap.size) ∧ f4_ k_ = 3) then 3 else (if ((w3_.heap.size ≤ k_ ∧ k_ < w4_.heap.size) ∧ f4_ k_ = 4) then 4 else (if ((w3_.heap.size ≤ k_ ∧ k_ < w4_.heap.size) ∧ f4_ k_ = 5) then 5 else 0)))))) := ⟨fun k_ => (if ((w3_.heap.size ≤ k_ ∧ k_ < w4_.heap.size) ∧ f4_ k_ = 0) then 0 else (if ((w3_.heap.size ≤ k_ ∧ k_ < w4_.heap.size) ∧ f4_ k_ = 1) then 1 else (if ((w3_.heap.size ≤ k_ ∧ k_ < w4_.heap.size) ∧ f4_ k_ = 2) then 2 else (if ((w3_.heap.size ≤ k_ ∧ k_ < w4_.heap.size) ∧ f4_ k_ = 3) then 3 else (if ((w3_.heap.size ≤ k_ ∧ k_ < w4_.heap.size) ∧ f4_ k_ = 4) then 4 else (if ((w3_.heap.size ≤ k_ ∧ k_ < w4_.heap.size) ∧ f4_ k_ = 5) then 5 else 0)))))), fun _ => rfl⟩
  have hcol0_ : ∀ k_, (((w3_.heap.size ≤ k_ ∧ k_ < w4_.heap.size) ∧ f4_ k_ = 0)) → f_ k_ = 0 := fun k_ hk_ => by rw [hf_]; have := HS.out; repeat' (first | omega | split)
  have hcol1_ : ∀ k_, (((w3_.heap.size ≤ k_ ∧ k_ < w4_.heap.size) ∧ f4_ k_ = 1)) → f_ k_ = 1 := fun k_ hk_ => by rw [hf_]; have := HS.out; repeat' (first | omega | split)
  have hcol2_ : ∀ k_, (((w3_.heap.size ≤ k_ ∧ k_ < w4_.heap.size) ∧ f4_ k_ = 2)) → f_ k_ = 2 := fun k_ hk_ => by rw [hf_]; have := HS.out; repeat' (first | omega | split)
  have hcol3_ : ∀ k_, (((w3_.heap.size ≤ k_ ∧ k_ < w4_.heap.size) ∧ f4_ k_ = 3)) → f_ k_ = 3 := fun k_ hk_ => by rw [hf_]; have := HS.out; repeat' (first | omega | split)
  have hcol4_ : ∀ k_, (((w3_.heap.size ≤ k_ ∧ k_ < w4_.heap.size) ∧ f4_ k_ = 4)) → f_ k_ = 4 := fun k_ hk_ => by rw [hf_]; have := HS.out; repeat' (first | omega | split)
  have hcol5_ : ∀ k_, (((w3_.heap.size ≤ k_ ∧ k_ < w4_.heap.size) ∧ f4_ k_ = 5)) → f_ k_ = 5 := fun k_ hk_ => by rw [hf_]; have := HS.out; repeat' (first | omega | split)
  exact ⟨f_, _, _, _, _, _, _, _, rfl, Kd.R_mono HO4_0.out hcol0_, Kd.R_mono HO4_1.out hcol1_, Kd.R_mono HO4_2.out hcol2_, Kd.R_mono HO4_3.out hcol3_, Kd.S_mono HO4_4.out hcol4_, Kd.S_mono HO4_5.out hcol5_, Kd.R_nil _ _ _ _ _, HB.out⟩
/-! ### laws_markIntS: function 58 -/
def laws_markIntS.l0 : Nat → List Int → Int → Int → Option (Int × List Int)
 | 0, _, _, _ => none
 | k + 1, x0, x1, x5 => if x5 < (x0.length : Int) then (if 0 ≤ x5 then (laws_markIntS.l0 k (x0.set (x5 : Int).toNat x1) (wrap64 (x1 + 1)) (wrap64 (x5 + 1))) else (none)) else (some (x1, x0))
def laws_markIntS.f (k : Nat) (l0 : List Int) (a1 : Int) : Option (Int × List Int) := laws_markIntS.l0 k l0 a1 0
set_option maxHeartbeats 8000000 in
set_option maxRecDepth 100000 in
theorem laws_markIntS.calls (k : Nat) (P0_ : Nat → Prop) (u9000_ : Value) (l0 : List Int) (a1 : Int) (r1 : Int) (r2 : List Int) (w0 w : World) (hB : Below w0.heap.size w0 w) (ho0 : Kd.R (Kd.int .i64) 3 w w0.heap.size P0_ u9000_ l0) (h : laws_markIntS.f k l0 a1 = some (r1, r2)) :
  Calls Try.prog 58 #[u9000_, .int .i64 a1] w fun e w' => e = .returned (.int .i64 r1) ∧ Kd.R (Kd.int .i64) 3 w' w0.heap.size (fun k_ => (P0_ k_ ∨ w.heap.size ≤ k_)) u9000_ r2 ∧ Below w0.heap.size w0 w' ∧ Kept w w' (fun k_ => P0_ k_) := by
 have HO0 := A_.mk (show Kd.R (Kd.int .i64) 3 w w0.heap.size (fun k_ => (P0_ k_ ∨ w.heap.size ≤ k_)) u9000_ l0 from Kd.R_mono ho0 (fun k_ hk => (.inl hk)))
 have HK := A_.mk (Kept.refl w (fun k_ => P0_ k_))
 have HW0 := A_.mk hB.size
 have HB := A_.mk hB
 clear hB
 have H : (laws_markIntS.l0 k l0 a1 0) = some (r1, r2) := h
 clear h
 have H' := A_.mk H
 clear H
 go_enter Try.func58, Try.ntmps58
 go_wp2
 go_loopg [1, 5] k (fun kq v1 v5 w' => ∃ (x0_1 : List Int) (x1_1 : Int) (x5_1 : Int), v1 = .int .i64 x1_1 ∧ v5 = .int .i64 x5_1 ∧ A_ (laws_markIntS.l0 kq x0_1 x1_1 x5_1 = some (r1, r2)) ∧ A_ (kq ≤ k) ∧ A_ (Kd.R (Kd.int .i64) 3 w' w0.heap.size (fun k_ => (P0_ k_ ∨ w.heap.size ≤ k_)) u9000_ x0_1) ∧ A_ (Kept w w' (fun k_ => P0_ k_)) ∧ A_ (Below w0.heap.size w0 w'))
 case atStart => exact ⟨(l0), (a1), (0), (by first | rfl | (simp; done) | (simp [*]; done)), (by first | rfl | (simp; done) | (simp [*]; done)), H', ⟨Nat.le_refl _⟩, ⟨by (repeat apply rX); exact HO0.out⟩, ⟨by repeat (first | (with_reducible first | exact HK.out | apply Kept.alloc | apply Kept.drewN | apply Kept.drew) | exact HK.out)⟩, ⟨beY HB.out⟩⟩
 case round =>
  clear H'
  obtain ⟨x0_1, x1_1, x5_1, rfl, rfl, HA, HK1, HO_0, HK, HB⟩ := hrel
  cases gk with
  | zero => exact absurd HA.out (by simp [laws_markIntS.l0])
  | succ k1 =>
   have H := HA.out
   clear HA
   simp only [laws_markIntS.l0] at H
   by_cases c3 : x5_1 < (x0_1.length : Int)
   rotate_left
   ·rw [if_neg c3] at H
    have c3b0 : decide (x5_1 < (x0_1.length : Int)) = false := decide_eq_false c3
    clear c3
    simp only [Option.some.injEq, Prod.mk.injEq] at H
    obtain ⟨rfl, rfl⟩ := H
    obtain ⟨Ao9, co9, eo9⟩ := Kd.R_slice HO_0.out
    subst eo9
    go_wp2
    go_ret
    exact ⟨by first | rfl | (simp [errW_none, errW_some] <;> rfl) | (simp [*, errW_none, errW_some] <;> rfl), by (repeat apply rX); exact HO_0.out, by repeat (first | (with_reducible first | exact HB.out | apply ba_ | apply bd_ | apply be_) | exact HB.out), by repeat (first | (with_reducible first | exact HK.out | apply Kept.alloc | apply Kept.drewN | apply Kept.drew) | exact HK.out)⟩
   rw [if_pos c3] at H
   have c3b0 : decide (x5_1 < (x0_1.length : Int)) = true := decide_eq_true c3
   clear c3
   by_cases c4 : 0 ≤ x5_1
   rotate_left
   ·rw [if_neg c4] at H
    exact absurd H (by simp)
   rw [if_pos c4] at H
   have c4b0 : decide (0 ≤ x5_1) = true := decide_eq_true c4
   clear c4
   obtain ⟨y314, hy314⟩ : ∃ y_ : List Int, y_ = (x0_1.set (x5_1 : Int).toNat x1_1) := ⟨_, rfl⟩
   replace H : (laws_markIntS.l0 k1 y314 (wrap64 (x1_1 + 1)) (wrap64 (x5_1 + 1))) = some (r1, r2) := by first | (rw [hy314]; with_reducible exact H) | (have H2_ := (Option.bind_some _ _).symm.trans H; rw [hy314]; with_reducible exact H2_) | (have H2_ := (Option.bind_some _ _).symm.trans H; with_reducible exact H2_) | with_reducible exact H | (rw [hy314]; exact H) | exact H
   have Ny314 := A_.mk hy314
   clear hy314
   have H' := A_.mk H
   clear H
   obtain ⟨Ao6, co6, eo6⟩ := Kd.R_slice HO_0.out
   subst eo6
   have p5 : 0 ≤ (x5_1 : Int) := od_
   have q5 : (x5_1 : Int) < ((x0_1.length : Int) : Int) := od_
   obtain ⟨go5, co5, eo5, gb5, gl5, cl5, HG5⟩ := Kd.R_form HO_0.out (by omega)
   (first | cases eo5 | (injection eo5 with ea_ en_ ec_; (first | subst ea_ | (injection ea_ with ea_; subst ea_)); subst ec_; clear en_))
   have GB5 := A_.mk gb5
   have GG5 := A_.mk HG5
   clear gb5 gl5 HG5
   have HMgo5 := A_.mk (show (P0_ go5 ∨ w.heap.size ≤ go5) from (HO_0.out.1 _ rfl))
   obtain ⟨hx5_0, hf5_0⟩ := Kd.R_celln 0 HO_0.out (x5_1 : Int) p5 q5
   replace p5 := eq_true p5
   replace q5 := eq_true q5
   have HP7 := Kd.R_putg HO_0.out (x5_1 : Int) x1_1
   go_wp2_with (first | ((with_reducible refine gs_ (t := 3) (p := 15) rfl ?_); refine se_ (t := 3) (p := 15) (v := ?vo_w8) (w1 := (wr.setCell ⟨go5, (x5_1 : Int).toNat, none⟩ (.int .i64 x1_1))) ?hg ?ho ?hn ?hr ?_; (case ho => rfl); (case hg => rfl); (case hn => rfl); (case hr => first | (go_simp; done) | (go_simp; rfl)); intro w8 hw; have hg : wr.grownBy w8 (some go5) := (by rw [hw]; exact HP7.2); have hp_ : Kd.R (Kd.int .i64) 3 w8 w0.heap.size (fun k_ => (P0_ k_ ∨ w.heap.size ≤ k_)) (.slice (some ⟨go5, 0, none⟩) x0_1.length co6) y314 := (by rw [hw, Ny314.out]; exact HP7.1); clear HP7; have n0_ := A_.mk (hp_); have n1_ := A_.mk ((by rw [hw]; exact bs_ (HB.out) GB5.out : Below w0.heap.size w0 w8)); have n2_ := A_.mk (Kept.of_grown (S := (fun k_ => P0_ k_)) hg (by repeat (first | (with_reducible first | exact HK.out | apply Kept.alloc | apply Kept.drewN | apply Kept.drew) | exact HK.out)) (fun k_ e_ => (HO_0.out.1 k_ e_))); clear HO_0 HB HK; have HO_0 := n0_; have HB := n1_; have HK := n2_; clear n0_ n1_ n2_ hg hw hp_))
   go_roundg k1
   case measure => have := HK1.out; omega
   case rel => exact ⟨(y314), (wrap64 (x1_1 + 1)), (wrap64 (x5_1 + 1)), (by first | rfl | (simp; done) | (simp [*]; done)), (by first | rfl | (simp; done) | (simp [*]; done)), H', ⟨by have := HK1.out; omega⟩, ⟨by (repeat apply rX); exact HO_0.out⟩, ⟨by repeat (first | (with_reducible first | exact HK.out | apply Kept.alloc | apply Kept.drewN | apply Kept.drew) | exact HK.out)⟩, ⟨beY HB.out⟩⟩
/-! ### laws_markCredits: function 56 -/
def laws_markCredits.f (k : Nat) (l0_0 : List Int) (l0_1 : List Int) (a1 : Int) : Option (Int × List Int × List Int) := (laws_markIntS.f k l0_0 a1).bind fun bt316 => ((laws_markIntS.f k l0_1 bt316.1).bind fun bt318 => (some (bt318.1, bt316.2, bt318.2)))
set_option maxHeartbeats 8000000 in
set_option maxRecDepth 100000 in
theorem laws_markCredits.calls (k : Nat) (P0_0_ : Nat → Prop) (u9000_ : Value) (l0_0 : List Int) (P0_1_ : Nat → Prop) (u9001_ : Value) (l0_1 : List Int) (a1 : Int) (r1 : Int) (r2 : List Int) (r3 : List Int) (w0 w : World) (hB : Below w0.heap.size w0 w) (ho0_0 : Kd.R (Kd.int .i64) 3 w w0.heap.size P0_0_ u9000_ l0_0) (hp0_0_0_1 : ∀ k_, P0_0_ k_ → ¬ P0_1_ k_) (ho0_1 : Kd.R (Kd.int .i64) 3 w w0.heap.size P0_1_ u9001_ l0_1) (hp0_1_0_0 : ∀ k_, P0_1_ k_ → ¬ P0_0_ k_) (h : laws_markCredits.f k l0_0 l0_1 a1 = some (r1, r2, r3)) :
  Calls Try.prog 56 #[.agg #[u9000_, u9001_], .int .i64 a1] w fun e w' => e = .returned (.int .i64 r1) ∧ Kd.R (Kd.int .i64) 3 w' w0.heap.size (fun k_ => ((P0_0_ k_ ∨ P0_1_ k_) ∨ w.heap.size ≤ k_)) u9000_ r2 ∧ Kd.R (Kd.int .i64) 3 w' w0.heap.size (fun k_ => ((P0_0_ k_ ∨ P0_1_ k_) ∨ w.heap.size ≤ k_)) u9001_ r3 ∧ Below w0.heap.size w0 w' ∧ Kept w w' (fun k_ => P0_0_ k_ ∨ P0_1_ k_) := by
 have hu30 := Try.underlying30
 have HO0_0 := A_.mk (show Kd.R (Kd.int .i64) 3 w w0.heap.size (fun k_ => ((P0_0_ k_ ∨ P0_1_ k_) ∨ w.heap.size ≤ k_) ∧ some k_ ≠ (u9001_ : Value).ownBlock) u9000_ l0_0 from Kd.R_mono ho0_0 (fun k_ hk => ⟨(.inl (.inl hk)), fun e_ => hp0_0_0_1 k_ hk (ho0_1.1 k_ e_.symm)⟩))
 have HO0_1 := A_.mk (show Kd.R (Kd.int .i64) 3 w w0.heap.size (fun k_ => ((P0_0_ k_ ∨ P0_1_ k_) ∨ w.heap.size ≤ k_) ∧ some k_ ≠ (u9000_ : Value).ownBlock) u9001_ l0_1 from Kd.R_mono ho0_1 (fun k_ hk => ⟨(.inl (.inr hk)), fun e_ => hp0_1_0_0 k_ hk (ho0_0.1 k_ e_.symm)⟩))
 have HK := A_.mk (Kept.refl w (fun k_ => P0_0_ k_ ∨ P0_1_ k_))
 have HW0 := A_.mk hB.size
 have HB := A_.mk hB
 clear hB
 have H : ((laws_markIntS.f k l0_0 a1).bind fun bt316 => ((laws_markIntS.f k l0_1 bt316.1).bind fun bt318 => (some (bt318.1, bt316.2, bt318.2)))) = some (r1, r2, r3) := h
 clear h
 replace H := ob_ H
 obtain ⟨⟨t316, t317⟩, A30, H⟩ := H
 replace H : ((laws_markIntS.f k l0_1 t316).bind fun bt318 => (some (bt318.1, t317, bt318.2))) = some (r1, r2, r3) := H
 have A3 := A_.mk A30
 clear A30
 replace H := ob_ H
 obtain ⟨⟨t318, t319⟩, A40, H⟩ := H
 replace H : (some (t318, t317, t319)) = some (r1, r2, r3) := H
 have A4 := A_.mk A40
 clear A40
 simp only [Option.some.injEq, Prod.mk.injEq] at H
 obtain ⟨rfl, rfl, rfl⟩ := H
 obtain ⟨Ao5, co5, eo5⟩ := Kd.R_slice HO0_0.out
 subst eo5
 obtain ⟨Ao6, co6, eo6⟩ := Kd.R_slice HO0_1.out
 subst eo6
 go_enter Try.func56, Try.ntmps56
 go_wp2_with (first | ((with_reducible refine gd_ (N := 2) rfl ?_); refine by_ 2 (cs := #[.slice Ao5 l0_0.length co5, .slice Ao6 l0_1.length co6]) (t := 30) ?_; intro gb315 hg w7 hbox hb; have n0_ := A_.mk (Kd.R_below (rY HO0_0.out) hb); have n1_ := A_.mk (Kd.R_below (rY HO0_1.out) hb); have n2_ := A_.mk (Kept.below (S := (fun k_ => P0_0_ k_ ∨ P0_1_ k_)) (by repeat (first | (with_reducible first | exact HK.out | apply Kept.alloc | apply Kept.drewN | apply Kept.drew) | exact HK.out)) hb); have n3_ := A_.mk (bt_ (beY HB.out) hb); have n4_ := A_.mk (hbox); have n5_ := A_.mk ((by rw [hg]; exact (by first | exact HK.out.1 | exact (show Kept w _ (fun k_ => P0_0_ k_ ∨ P0_1_ k_) from by repeat (first | (with_reducible first | exact HK.out | apply Kept.alloc | apply Kept.drewN | apply Kept.drew) | exact HK.out)).1) : w.heap.size ≤ gb315)); have n6_ := A_.mk ((by rw [hg]; exact (bz_ (beY HB.out)) : w0.heap.size ≤ gb315)); clear HO0_0 HO0_1 HK HB; have HO0_0 := n0_; have HO0_1 := n1_; have HK := n2_; have HB := n3_; have BK315 := n4_; have GW315 := n5_; have GE315 := n6_; clear n0_ n1_ n2_ n3_ n4_ n5_ n6_ hb hbox hg; have hcz8_0 : w7.cell? ⟨gb315, 0, none⟩ = some (.slice Ao5 l0_0.length co5) := (bc_ BK315.out 0).trans rfl; have hcz8_1 : w7.cell? ⟨gb315, 1, none⟩ = some (.slice Ao6 l0_1.length co6) := (bc_ BK315.out 1).trans rfl; have hfz8_0 := bf_ BK315.out 0; have hfz8_1 := bf_ BK315.out 1) | ((with_reducible refine gc_ (f := 58) rfl ?_); refine gl_ (some 8) Try.func58 #[.slice Ao5 l0_0.length co5, .int .i64 a1] ?_; (with_reducible refine (laws_markIntS.calls k (fun k_ => some k_ = (.slice Ao5 l0_0.length co5 : Value).ownBlock) (.slice Ao5 l0_0.length co5) l0_0 a1 t316 t317 w0 _ ?side1 ?side2 A3.out).mono ?_); (case side1 => repeat (first | (with_reducible first | exact HB.out | apply ba_ | apply bd_ | apply be_ | refine bs_ ?_ GE315.out) | exact HB.out)); (case side2 => exact Kd.R_tight rfl HO0_0.out); rintro e w9 ⟨rfl, hy0, hb, hkp⟩; refine ⟨_, rfl, ?_⟩; have n0_ := A_.mk (Kd.R_reok rfl hy0 (fun k_ e_ => HO0_0.out.1 k_ e_)); have n1_ := A_.mk (Kd.R_mono (ok' := fun k_ => ((P0_0_ k_ ∨ P0_1_ k_) ∨ w.heap.size ≤ k_) ∧ some k_ ≠ (.slice Ao5 l0_0.length co5 : Value).ownBlock) (Kd.R_keptB (HO0_1.out) hkp (fun k_ hk_ hs_ => (hk_.2) hs_)) (fun k_ hk_ => ⟨hk_.1.1, hk_.1.2⟩)); have n2_ := A_.mk (blk_kept (bY BK315.out) hkp (fun hs_ => (fun e_ => (Kd.R_ne HO0_0.out BK315.out (by decide)) e_) hs_)); have n3_ := A_.mk (Kept.then_ (S := (fun k_ => P0_0_ k_ ∨ P0_1_ k_)) (by repeat (first | (with_reducible first | exact HK.out | apply Kept.alloc | apply Kept.drewN | apply Kept.drew | refine Kept.setCell ?_ (.inr GW315.out) _) | exact HK.out)) hkp (fun k_ hs_ => (fun e_ => (HO0_0.out.1 k_ e_.symm).1) hs_)); have n4_ := A_.mk (hb); clear HO0_0 HO0_1 BK315 HK HB; have HO0_0 := n0_; have HO0_1 := n1_; have BK315 := n2_; have HK := n3_; have HB := n4_; clear n0_ n1_ n2_ n3_ n4_; (try clear hb); (try clear hkp); (try clear hy0); have hcz10_0 : w9.cell? ⟨gb315, 0, none⟩ = some (.slice Ao5 l0_0.length co5) := (bc_ BK315.out 0).trans rfl; have hcz10_1 : w9.cell? ⟨gb315, 1, none⟩ = some (.slice Ao6 l0_1.length co6) := (bc_ BK315.out 1).trans rfl; have hfz10_0 := bf_ BK315.out 0; have hfz10_1 := bf_ BK315.out 1) | ((with_reducible refine gc_ (f := 58) rfl ?_); refine gl_ (some 12) Try.func58 #[.slice Ao6 l0_1.length co6, .int .i64 t316] ?_; (with_reducible refine (laws_markIntS.calls k (fun k_ => some k_ = (.slice Ao6 l0_1.length co6 : Value).ownBlock) (.slice Ao6 l0_1.length co6) l0_1 t316 t318 t319 w0 _ ?side1 ?side2 A4.out).mono ?_); (case side1 => repeat (first | (with_reducible first | exact HB.out | apply ba_ | apply bd_ | apply be_ | refine bs_ ?_ GE315.out) | exact HB.out)); (case side2 => exact Kd.R_tight rfl HO0_1.out); rintro e w11 ⟨rfl, hy0, hb, hkp⟩; refine ⟨_, rfl, ?_⟩; have n0_ := A_.mk (Kd.R_mono (ok' := fun k_ => ((P0_0_ k_ ∨ P0_1_ k_) ∨ w.heap.size ≤ k_) ∧ some k_ ≠ (.slice Ao6 l0_1.length co6 : Value).ownBlock) (Kd.R_keptB (HO0_0.out) hkp (fun k_ hk_ hs_ => (hk_.2) hs_)) (fun k_ hk_ => ⟨hk_.1.1, hk_.1.2⟩)); have n1_ := A_.mk (Kd.R_reok rfl hy0 (fun k_ e_ => HO0_1.out.1 k_ e_)); have n2_ := A_.mk (blk_kept (bY BK315.out) hkp (fun hs_ => (fun e_ => (Kd.R_ne HO0_1.out BK315.out (by decide)) e_) hs_)); have n3_ := A_.mk (Kept.then_ (S := (fun k_ => P0_0_ k_ ∨ P0_1_ k_)) (by repeat (first | (with_reducible first | exact HK.out | apply Kept.alloc | apply Kept.drewN | apply Kept.drew | refine Kept.setCell ?_ (.inr GW315.out) _) | exact HK.out)) hkp (fun k_ hs_ => (fun e_ => (HO0_1.out.1 k_ e_.symm).1) hs_)); have n4_ := A_.mk (hb); clear HO0_0 HO0_1 BK315 HK HB; have HO0_0 := n0_; have HO0_1 := n1_; have BK315 := n2_; have HK := n3_; have HB := n4_; clear n0_ n1_ n2_ n3_ n4_; (try clear hb); (try clear hkp); (try clear hy0)))
 go_ret
 exact ⟨by first | rfl | (simp [errW_none, errW_some] <;> rfl) | (simp [*, errW_none, errW_some] <;> rfl), by (repeat apply rX); exact Kd.R_mono HO0_0.out (fun _ hk => hk.1), by (repeat apply rX); exact Kd.R_mono HO0_1.out (fun _ hk => hk.1), by repeat (first | (with_reducible first | exact HB.out | apply ba_ | apply bd_ | apply be_ | refine bs_ ?_ GE315.out) | exact HB.out), by repeat (first | (with_reducible first | exact HK.out | apply Kept.alloc | apply Kept.drewN | apply Kept.drew | refine Kept.setCell ?_ (.inr GW315.out) _) | exact HK.out)⟩
end Go.Proofs.Ytlombfmebinjbaa.PFnExactFreePacket
