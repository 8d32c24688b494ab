-- Written by a program of this session (wip/xp): not trusted, Lean checks it.
import Derived.Test.YtlombfmebinjbaaPFnExactPutPacketx0
import Derived.Test.YtlombfmebinjbaaPFnExactPutPacketx1
import Derived.Test.YtlombfmebinjbaaPFnExactPutPacketx19
import Derived.Test.YtlombfmebinjbaaPFnExactPutPacketx20
import Derived.Test.YtlombfmebinjbaaPFnExactPutPacketx21
namespace Go.Proofs.Ytlombfmebinjbaa.PFnExactPutPacket
open Go.RowKit Go.Proofs.YtlombfmebinjbaaW.PrintWords Go.Proofs.YtlombfmebinjbaaW.PrintLast Go.Proofs.YtlombfmebinjbaaW.PrintMore
attribute [local go_sem] max2_int min2_int max_two min_two max_three min_three max_four min_four   -- for this text's walks alone
set_option linter.unusedVariables false
set_option linter.unusedSimpArgs false

/-! ### impl_PutPacket: function 25, its calls in a row -/
def impl_PutPacket.f (k : Nat) (l0_0 : List Int) (l0_1 : List Int) (l0_2 : List Int) (l0_3 : List Int) (l0_4 : List (S38)) (l0_5 : List (S38)) (a1_0 : Int) (a1_1 : Int) (a1_2 : Int) (a1_3 : Int) (a1_4 : Int) (a1_5 : Int) (a1_6 : Int) (l1_7 : List Int) : Option ((List Int) × (List Int) × (List Int) × (List Int) × (List (S38)) × (List (S38)) × (Bool)) := ((impl_copyChannel.f k l0_0 l0_1 l0_2 l0_3 l0_4 l0_5).bind fun ⟨t1, t2, t3, t4, t5, t6⟩ => ((impl_ChannelOk.f k l0_0 l0_1 l0_2 l0_3 l0_4 l0_5).bind fun t7 => (if t7 = true then ((impl_CanSend.f k l0_2 l0_3 a1_0 a1_1 a1_2 a1_3 a1_4 a1_5 a1_6 l1_7).bind fun t8 => (if t8 = true then ((impl_SpendCredits.f k l0_2 l0_3 a1_0 a1_1 a1_2 a1_3 a1_4 a1_5 a1_6 l1_7).bind fun ⟨t9, t10, t11⟩ => ((impl_copyPacket.f a1_0 a1_1 a1_2 a1_3 a1_4 a1_5 a1_6 l1_7).bind fun ⟨t12, t13, t14, t15, t16, t17, t18, t19⟩ => (if (t5.length + 1) * 80 ≤ 140737488355328 then (some (t1, t2, t9, t10, (t5 ++ [(⟨t12, t13, t14, t15, t16, t17, t18, t19⟩ : S38)]), t6, true)) else none))) else (some (t1, t2, t3, t4, t5, t6, false)))) else (some (t1, t2, t3, t4, t5, t6, false)))))
set_option maxHeartbeats 8000000 in
set_option maxRecDepth 100000 in
theorem impl_PutPacket.calls (k : Nat) (A0_0 : Option Addr) (c0_0 : Nat) (l0_0 : List Int) (A0_1 : Option Addr) (c0_1 : Nat) (l0_1 : List Int) (A0_2 : Option Addr) (c0_2 : Nat) (l0_2 : List Int) (A0_3 : Option Addr) (c0_3 : Nat) (l0_3 : List Int) (P0_4_ : Nat → Prop) (A0_4 : Option Addr) (c0_4 : Nat) (l0_4 : List (S38)) (P0_5_ : Nat → Prop) (A0_5 : Option Addr) (c0_5 : Nat) (l0_5 : List (S38)) (a1_0 : Int) (a1_1 : Int) (a1_2 : Int) (a1_3 : Int) (a1_4 : Int) (a1_5 : Int) (a1_6 : Int) (A1_7 : Option Addr) (c1_7 : Nat) (l1_7 : List Int) (r1 : List Int) (r2 : List Int) (r3 : List Int) (r4 : List Int) (r5 : List (S38)) (r6 : List (S38)) (r7 : Bool) (w : World) (hr0_0 : Kd.C (Kd.int .i64) w A0_0 l0_0.length l0_0) (hc0_0 : l0_0.length ≤ c0_0) (hr0_1 : Kd.C (Kd.int .i64) w A0_1 l0_1.length l0_1) (hc0_1 : l0_1.length ≤ c0_1) (hr0_2 : Kd.C (Kd.int .i64) w A0_2 l0_2.length l0_2) (hc0_2 : l0_2.length ≤ c0_2) (hr0_3 : Kd.C (Kd.int .i64) w A0_3 l0_3.length l0_3) (hc0_3 : l0_3.length ≤ c0_3) (hs0_4 : Kd.V k38 38 w w.heap.size (fun k_ => P0_4_ k_) (.slice A0_4 l0_4.length c0_4) l0_4) (hs0_5 : Kd.V k38 38 w w.heap.size (fun k_ => P0_5_ k_) (.slice A0_5 l0_5.length c0_5) l0_5) (hr1_7 : Kd.C (Kd.int .i64) w A1_7 l1_7.length l1_7) (hc1_7 : l1_7.length ≤ c1_7) (h : impl_PutPacket.f k l0_0 l0_1 l0_2 l0_3 l0_4 l0_5 a1_0 a1_1 a1_2 a1_3 a1_4 a1_5 a1_6 l1_7 = some (r1, r2, r3, r4, r5, r6, r7)) :
  Calls Try.prog 25 #[.agg #[.slice A0_0 l0_0.length c0_0, .slice A0_1 l0_1.length c0_1, .slice A0_2 l0_2.length c0_2, .slice A0_3 l0_3.length c0_3, .slice A0_4 l0_4.length c0_4, .slice A0_5 l0_5.length c0_5], .agg #[.int .i64 a1_0, .int .i64 a1_1, .int .i64 a1_2, .int .i64 a1_3, .int .i64 a1_4, .int .i64 a1_5, .int .i64 a1_6, .slice A1_7 l1_7.length c1_7]] w fun e w' => ∃ f_ : Nat → Nat, ∃ v0_ v1_ v2_ v3_ v4_ v5_ : Value, e = .returned (.tuple #[.agg #[v0_, v1_, v2_, v3_, v4_, v5_], .bool r7]) ∧ Kd.R (Kd.int .i64) 3 w' w.heap.size (fun k_ => f_ k_ = 0) v0_ r1 ∧ Kd.R (Kd.int .i64) 3 w' w.heap.size (fun k_ => f_ k_ = 1) v1_ r2 ∧ Kd.R (Kd.int .i64) 3 w' w.heap.size (fun k_ => f_ k_ = 2) v2_ r3 ∧ Kd.R (Kd.int .i64) 3 w' w.heap.size (fun k_ => f_ k_ = 3) v3_ r4 ∧ Kd.S k38 38 w' w.heap.size (fun k_ => f_ k_ = 4) v4_ r5 ∧ Kd.S k38 38 w' w.heap.size (fun k_ => f_ k_ = 5) v5_ r6 ∧ Below w.heap.size w w' := by
 have HR0_0 := A_.mk hr0_0
 have HC0_0 := A_.mk hc0_0
 clear hr0_0 hc0_0
 have HR0_1 := A_.mk hr0_1
 have HC0_1 := A_.mk hc0_1
 clear hr0_1 hc0_1
 have HR0_2 := A_.mk hr0_2
 have HC0_2 := A_.mk hc0_2
 clear hr0_2 hc0_2
 have HR0_3 := A_.mk hr0_3
 have HC0_3 := A_.mk hc0_3
 clear hr0_3 hc0_3
 have HV0_4 := A_.mk (Kd.V_mono (ok' := fun k_ => k_ < w.heap.size) (Kd.V_bound hs0_4) (fun k_ hk_ => hk_.2))
 clear hs0_4
 have HV0_5 := A_.mk (Kd.V_mono (ok' := fun k_ => k_ < w.heap.size) (Kd.V_bound hs0_5) (fun k_ hk_ => hk_.2))
 clear hs0_5
 have HR1_7 := A_.mk hr1_7
 have HC1_7 := A_.mk hc1_7
 clear hr1_7 hc1_7
 have HB := A_.mk (Below.refl w.heap.size w)
 unfold impl_PutPacket.f at h
 have H := h
 clear h
 replace H := oa_ H
 obtain ⟨⟨t1, t2, t3, t4, t5, t6⟩, A4, H⟩ := H
 try dsimp only at H
 replace H := oa_ H
 obtain ⟨t7, A7, H⟩ := H
 replace H := A_.mk H
 have hu33 := Try.underlying33
 have hu38 := Try.underlying38
 go_enter Try.func25, Try.ntmps25
 have HS := A_.mk (Nat.le_refl w.heap.size)
 go_wp2_with (first | ((with_reducible refine gd_ (N := 2) rfl ?_); refine by_ 2 (cs := #[.slice A0_0 l0_0.length c0_0, .slice A0_1 l0_1.length c0_1, .slice A0_2 l0_2.length c0_2, .slice A0_3 l0_3.length c0_3, .slice A0_4 l0_4.length c0_4, .slice A0_5 l0_5.length c0_5]) (t := 33) ?_; intro gb1_ hg w1_ hbox hb; replace HS := A_.mk (And.intro HS.out (show gb1_ = w.heap.size ∧ gb1_ < w1_.heap.size from ⟨hg, blk_lt hbox⟩)); replace HV0_4 := aVb HV0_4 hb; replace HV0_5 := aVb HV0_5 hb; replace HB := aHB HB hb; have BK1 := A_.mk hbox; clear hbox hb hg; have Q1 := blk6_ BK1.out) | ((with_reducible refine gd_ (N := 3) rfl ?_); refine by_ 3 (cs := #[.int .i64 a1_0, .int .i64 a1_1, .int .i64 a1_2, .int .i64 a1_3, .int .i64 a1_4, .int .i64 a1_5, .int .i64 a1_6, .slice A1_7 l1_7.length c1_7]) (t := 38) ?_; intro gb2_ hg w2_ hbox hb; replace HS := A_.mk (And.intro HS.out (show gb2_ = w1_.heap.size ∧ gb2_ < w2_.heap.size from ⟨hg, blk_lt hbox⟩)); replace HV0_4 := aVb HV0_4 hb; replace HV0_5 := aVb HV0_5 hb; replace BK1 := aBb BK1 hb; replace HB := aHB HB hb; have BK2 := A_.mk hbox; clear hbox hb hg Q1; have Q1 := blk6_ BK1.out; have Q2 := blk8_ BK2.out) | ((with_reducible refine gd_ (N := 4) rfl ?_); refine by_ 4 (cs := #[.slice none 0 0, .slice none 0 0, .slice none 0 0, .slice none 0 0, .slice none 0 0, .slice none 0 0]) (t := 33) ?_; intro gb3_ hg w3_ hbox hb; replace HS := A_.mk (And.intro HS.out (show gb3_ = w2_.heap.size ∧ gb3_ < w3_.heap.size from ⟨hg, blk_lt hbox⟩)); replace HV0_4 := aVb HV0_4 hb; replace HV0_5 := aVb HV0_5 hb; replace BK1 := aBb BK1 hb; replace BK2 := aBb BK2 hb; replace HB := aHB HB hb; have BK3 := A_.mk hbox; clear hbox hb hg Q1 Q2; have Q1 := blk6_ BK1.out; have Q2 := blk8_ BK2.out; have Q3 := blk6_ BK3.out) | ((with_reducible refine gc_ (f := 51) rfl ?_); refine gl_ (some 8) Try.func51 #[.agg #[.slice A0_0 l0_0.length c0_0, .slice A0_1 l0_1.length c0_1, .slice A0_2 l0_2.length c0_2, .slice A0_3 l0_3.length c0_3, .slice A0_4 l0_4.length c0_4, .slice A0_5 l0_5.length c0_5]] ?_; (with_reducible refine (impl_copyChannel.calls k _ _ l0_0 _ _ l0_1 _ _ l0_2 _ _ l0_3 _ _ l0_4 _ _ l0_5 t1 t2 t3 t4 t5 t6 _ (Kd.C_below HR0_0.out HB.out) HC0_0.out (Kd.C_below HR0_1.out HB.out) HC0_1.out (Kd.C_below HR0_2.out HB.out) HC0_2.out (Kd.C_below HR0_3.out HB.out) HC0_3.out (Kd.V_reads' HV0_4.out).2.2 (Kd.V_reads' HV0_4.out).2.1 (Kd.V_reads' HV0_5.out).2.2 (Kd.V_reads' HV0_5.out).2.1 A4.out).mono ?_); rintro e w4_ ⟨f4_, v0_, v1_, v2_, v3_, v4_, v5_, rfl, ho0_, ho1_, ho2_, ho3_, ho4_, ho5_, hb⟩; refine ⟨_, rfl, ?_⟩; replace HS := aHs HS hb.size; obtain ⟨Ao4_0, co4_0, ev_⟩ := Kd.R_slice ho0_; subst ev_; have HO4_0 := aRn ho0_ HB.out.size; obtain ⟨Ao4_1, co4_1, ev_⟩ := Kd.R_slice ho1_; subst ev_; have HO4_1 := aRn ho1_ HB.out.size; obtain ⟨Ao4_2, co4_2, ev_⟩ := Kd.R_slice ho2_; subst ev_; have HO4_2 := aRn ho2_ HB.out.size; obtain ⟨Ao4_3, co4_3, ev_⟩ := Kd.R_slice ho3_; subst ev_; have HO4_3 := aRn ho3_ HB.out.size; obtain ⟨Ao4_4, co4_4, ev_⟩ := Kd.S_slice ho4_; subst ev_; have HO4_4 := aSn ho4_ HB.out.size; obtain ⟨Ao4_5, co4_5, ev_⟩ := Kd.S_slice ho5_; subst ev_; have HO4_5 := aSn ho5_ HB.out.size; replace HV0_4 := aVb HV0_4 hb; replace HV0_5 := aVb HV0_5 hb; replace BK1 := aBb BK1 hb; replace BK2 := aBb BK2 hb; replace BK3 := aBb BK3 hb; replace HB := aHB HB hb; clear hb ho0_ ho1_ ho2_ ho3_ ho4_ ho5_ Q1 Q2 Q3; have Q1 := blk6_ BK1.out; have Q2 := blk8_ BK2.out; have Q3 := blk6_ BK3.out) | ((with_reducible refine gd_ (N := 6) rfl ?_); refine by_ 6 (cs := #[.slice none 0 0, .slice none 0 0, .slice none 0 0, .slice none 0 0, .slice none 0 0, .slice none 0 0]) (t := 33) ?_; intro gb5_ hg w5_ hbox hb; replace HS := A_.mk (And.intro HS.out (show gb5_ = w4_.heap.size ∧ gb5_ < w5_.heap.size from ⟨hg, blk_lt hbox⟩)); replace HV0_4 := aVb HV0_4 hb; replace HV0_5 := aVb HV0_5 hb; replace HO4_0 := aRb HO4_0 hb; replace HO4_1 := aRb HO4_1 hb; replace HO4_2 := aRb HO4_2 hb; replace HO4_3 := aRb HO4_3 hb; replace HO4_4 := aSb HO4_4 hb; replace HO4_5 := aSb HO4_5 hb; replace BK1 := aBb BK1 hb; replace BK2 := aBb BK2 hb; replace BK3 := aBb BK3 hb; replace HB := aHB HB hb; have BK5 := A_.mk hbox; clear hbox hb hg Q1 Q2 Q3; have Q1 := blk6_ BK1.out; have Q2 := blk8_ BK2.out; have Q3 := blk6_ BK3.out; have Q5 := blk6_ BK5.out) | ((with_reducible refine gs_ (t := 33) (p := 6) rfl ?_); have qf0 := bf_ BK5.out 0; have qf1 := bf_ BK5.out 1; have qf2 := bf_ BK5.out 2; have qf3 := bf_ BK5.out 3; have qf4 := bf_ BK5.out 4; have qf5 := bf_ BK5.out 5; refine se_ (t := 33) (p := 6) (v := ?vo_6) (w1 := (ch6_ w5_ gb5_ (.slice Ao4_0 t1.length co4_0) (.slice Ao4_1 t2.length co4_1) (.slice Ao4_2 t3.length co4_2) (.slice Ao4_3 t4.length co4_3) (.slice Ao4_4 t5.length co4_4) (.slice Ao4_5 t6.length co4_5))) ?hg ?ho ?hn ?hr ?_; (case ho => rfl); (case hg => rfl); (case hn => rfl); (case hr => first | (go_simp; done) | (go_simp; rfl)); intro w6_ hw; clear qf0 qf1 qf2 qf3 qf4 qf5; obtain ⟨hbx, hkp, hbb⟩ := st6_ hw BK5 HB (by have := HS.out; omega); clear hw; replace HV0_4 := aVk HV0_4 hkp HS; replace HV0_5 := aVk HV0_5 hkp HS; replace HO4_0 := aRk HO4_0 hkp HS; replace HO4_1 := aRk HO4_1 hkp HS; replace HO4_2 := aRk HO4_2 hkp HS; replace HO4_3 := aRk HO4_3 hkp HS; replace HO4_4 := aSk HO4_4 hkp HS; replace HO4_5 := aSk HO4_5 hkp HS; replace BK1 := aBk BK1 hkp HS; replace BK2 := aBk BK2 hkp HS; replace BK3 := aBk BK3 hkp HS; replace BK5 := A_.mk hbx; replace HB := A_.mk hbb; replace HS := aHs HS hkp.1; clear hkp hbb hbx Q1 Q2 Q3 Q5; have Q1 := blk6_ BK1.out; have Q2 := blk8_ BK2.out; have Q3 := blk6_ BK3.out; have Q5 := blk6_ BK5.out))
 (with_reducible refine (impl_ChannelOk.calls k _ _ l0_0 _ _ l0_1 _ _ l0_2 _ _ l0_3 (fun k_ => k_ < w.heap.size) _ _ l0_4 (fun k_ => k_ < w.heap.size) _ _ l0_5 t7 _ (Kd.C_below HR0_0.out HB.out) HC0_0.out (Kd.C_below HR0_1.out HB.out) HC0_1.out (Kd.C_below HR0_2.out HB.out) HC0_2.out (Kd.C_below HR0_3.out HB.out) HC0_3.out (V_any HV0_4.out) (V_any HV0_5.out) A7.out).mono ?_)
 rintro e w7_ ⟨rfl, hb⟩
 replace HS := aHs HS hb.size
 replace HV0_4 := aVb HV0_4 hb
 replace HV0_5 := aVb HV0_5 hb
 replace HO4_0 := aRb HO4_0 hb
 replace HO4_1 := aRb HO4_1 hb
 replace HO4_2 := aRb HO4_2 hb
 replace HO4_3 := aRb HO4_3 hb
 replace HO4_4 := aSb HO4_4 hb
 replace HO4_5 := aSb HO4_5 hb
 replace BK1 := aBb BK1 hb
 replace BK2 := aBb BK2 hb
 replace BK3 := aBb BK3 hb
 replace BK5 := aBb BK5 hb
 replace HB := aHB HB hb
 clear hb  Q1 Q2 Q3 Q5
 have Q1 := blk6_ BK1.out
 have Q2 := blk8_ BK2.out
 have Q3 := blk6_ BK3.out
 have Q5 := blk6_ BK5.out
 replace H := H.out
 by_cases hc1_ : t7 = true
 case neg =>
  rw [if_neg hc1_] at H
  replace hc1_ := eq_false_of_ne_true hc1_
  subst hc1_
  simp only [Option.some.injEq, Prod.mk.injEq] at H
  obtain ⟨rfl, rfl, rfl, rfl, rfl, rfl, rfl⟩ := H
  go_wp2_with (first | ((with_reducible refine gs_ (t := 33) (p := 4) rfl ?_); have qf0 := bf_ BK3.out 0; have qf1 := bf_ BK3.out 1; have qf2 := bf_ BK3.out 2; have qf3 := bf_ BK3.out 3; have qf4 := bf_ BK3.out 4; have qf5 := bf_ BK3.out 5; refine se_ (t := 33) (p := 4) (v := ?vo_16) (w1 := (ch6_ w7_ gb3_ (.slice Ao4_0 t1.length co4_0) (.slice Ao4_1 t2.length co4_1) (.slice Ao4_2 t3.length co4_2) (.slice Ao4_3 t4.length co4_3) (.slice Ao4_4 t5.length co4_4) (.slice Ao4_5 t6.length co4_5))) ?hg ?ho ?hn ?hr ?_; (case ho => rfl); (case hg => rfl); (case hn => rfl); (case hr => first | (go_simp; done) | (go_simp; rfl)); intro w16_ hw; clear qf0 qf1 qf2 qf3 qf4 qf5; obtain ⟨hbx, hkp, hbb⟩ := st6_ hw BK3 HB (by have := HS.out; omega); clear hw; replace HO4_0 := aRk HO4_0 hkp HS; replace HO4_1 := aRk HO4_1 hkp HS; replace HO4_2 := aRk HO4_2 hkp HS; replace HO4_3 := aRk HO4_3 hkp HS; replace HO4_4 := aSk HO4_4 hkp HS; replace HO4_5 := aSk HO4_5 hkp HS; replace BK1 := aBk BK1 hkp HS; replace BK2 := aBk BK2 hkp HS; replace BK5 := aBk BK5 hkp HS; replace BK3 := A_.mk hbx; replace HB := A_.mk hbb; replace HS := aHs HS hkp.1; clear hkp hbb hbx Q1 Q2 Q3 Q5; have Q1 := blk6_ BK1.out; have Q2 := blk8_ BK2.out; have Q3 := blk6_ BK3.out; have Q5 := blk6_ BK5.out))
  refine bodyPost_ret (results_ct rfl _ _ gb3_ 33 #[.slice Ao4_0 t1.length co4_0, .slice Ao4_1 t2.length co4_1, .slice Ao4_2 t3.length co4_2, .slice Ao4_3 t4.length co4_3, .slice Ao4_4 t5.length co4_4, .slice Ao4_5 t6.length co4_5] (0, 0) _ rfl BK3.out Try.underlying33 rfl (by kernel_rfl)) rfl ?_
  obtain ⟨f_, hf_⟩ : ∃ f_ : Nat → Nat, ∀ k_, f_ k_ = (if ((w3_.heap.size ≤ k_ ∧ k_ < w4_.heap.size) ∧ f4_ k_ = 0) then 0 else (if ((w3_.heap.size ≤ k_ ∧ k_ < w4_.heap.size) ∧ f4_ k_ = 1) then 1 else (if ((w3_.heap.size ≤ k_ ∧ k_ < w4_.heap.size) ∧ f4_ k_ = 2) then 2 else (if ((w3_.heap.size ≤ k_ ∧ k_ < w4_.heap.size) ∧ f4_ k_ = 3) then 3 else (if ((w3_.heap.size ≤ k_ ∧ k_ < w4_.heap.size) ∧ f4_ k_ = 4) then 4 else (if ((w3_.heap.size ≤ k_ ∧ k_ < w4_.heap.size) ∧ f4_ k_ = 5) then 5 else 0)))))) := ⟨fun k_ => (if ((w3_.heap.size ≤ k_ ∧ k_ < w4_.heap.size) ∧ f4_ k_ = 0) then 0 else (if ((w3_.heap.size ≤ k_ ∧ k_ < w4_.heap.size) ∧ f4_ k_ = 1) then 1 else (if ((w3_.heap.size ≤ k_ ∧ k_ < w4_.heap.size) ∧ f4_ k_ = 2) then 2 else (if ((w3_.heap.size ≤ k_ ∧ k_ < w4_.heap.size) ∧ f4_ k_ = 3) then 3 else (if ((w3_.heap.size ≤ k_ ∧ k_ < w4_.heap.size) ∧ f4_ k_ = 4) then 4 else (if ((w3_.heap.size ≤ k_ ∧ k_ < w4_.heap.size) ∧ f4_ k_ = 5) then 5 else 0)))))), fun _ => rfl⟩
  have hcol0_ : ∀ k_, (((w3_.heap.size ≤ k_ ∧ k_ < w4_.heap.size) ∧ f4_ k_ = 0)) → f_ k_ = 0 := fun k_ hk_ => by rw [hf_]; have := HS.out; repeat' (first | omega | split)
  have hcol1_ : ∀ k_, (((w3_.heap.size ≤ k_ ∧ k_ < w4_.heap.size) ∧ f4_ k_ = 1)) → f_ k_ = 1 := fun k_ hk_ => by rw [hf_]; have := HS.out; repeat' (first | omega | split)
  have hcol2_ : ∀ k_, (((w3_.heap.size ≤ k_ ∧ k_ < w4_.heap.size) ∧ f4_ k_ = 2)) → f_ k_ = 2 := fun k_ hk_ => by rw [hf_]; have := HS.out; repeat' (first | omega | split)
  have hcol3_ : ∀ k_, (((w3_.heap.size ≤ k_ ∧ k_ < w4_.heap.size) ∧ f4_ k_ = 3)) → f_ k_ = 3 := fun k_ hk_ => by rw [hf_]; have := HS.out; repeat' (first | omega | split)
  have hcol4_ : ∀ k_, (((w3_.heap.size ≤ k_ ∧ k_ < w4_.heap.size) ∧ f4_ k_ = 4)) → f_ k_ = 4 := fun k_ hk_ => by rw [hf_]; have := HS.out; repeat' (first | omega | split)
  have hcol5_ : ∀ k_, (((w3_.heap.size ≤ k_ ∧ k_ < w4_.heap.size) ∧ f4_ k_ = 5)) → f_ k_ = 5 := fun k_ hk_ => by rw [hf_]; have := HS.out; repeat' (first | omega | split)
  exact ⟨f_, _, _, _, _, _, _, rfl, Kd.R_mono HO4_0.out hcol0_, Kd.R_mono HO4_1.out hcol1_, Kd.R_mono HO4_2.out hcol2_, Kd.R_mono HO4_3.out hcol3_, Kd.S_mono HO4_4.out hcol4_, Kd.S_mono HO4_5.out hcol5_, HB.out⟩
 rw [if_pos hc1_] at H
 subst hc1_
 replace H := oa_ H
 obtain ⟨t8, A8, H⟩ := H
 replace H := A_.mk H
 go_wp2_with (fail)
 (with_reducible refine (impl_CanSend.calls k _ _ l0_2 _ _ l0_3 a1_0 a1_1 a1_2 a1_3 a1_4 a1_5 a1_6 _ _ l1_7 t8 _ (Kd.C_below HR0_2.out HB.out) HC0_2.out (Kd.C_below HR0_3.out HB.out) HC0_3.out (Kd.C_below HR1_7.out HB.out) HC1_7.out A8.out).mono ?_)
 rintro e w8_ ⟨rfl, hb⟩
 replace HS := aHs HS hb.size
 replace HO4_0 := aRb HO4_0 hb
 replace HO4_1 := aRb HO4_1 hb
 replace HO4_2 := aRb HO4_2 hb
 replace HO4_3 := aRb HO4_3 hb
 replace HO4_4 := aSb HO4_4 hb
 replace HO4_5 := aSb HO4_5 hb
 replace BK1 := aBb BK1 hb
 replace BK2 := aBb BK2 hb
 replace BK3 := aBb BK3 hb
 replace BK5 := aBb BK5 hb
 replace HB := aHB HB hb
 clear hb  Q1 Q2 Q3 Q5
 have Q1 := blk6_ BK1.out
 have Q2 := blk8_ BK2.out
 have Q3 := blk6_ BK3.out
 have Q5 := blk6_ BK5.out
 replace H := H.out
 by_cases hc2_ : t8 = true
 case pos =>
  rw [if_pos hc2_] at H
  subst hc2_
  replace H := oa_ H
  obtain ⟨⟨t9, t10, t11⟩, A9, H⟩ := H
  try dsimp only at H
  replace H := oa_ H
  obtain ⟨⟨t12, t13, t14, t15, t16, t17, t18, t19⟩, A11, H⟩ := H
  try dsimp only at H
  by_cases hl3_ : (t5.length + 1) * 80 ≤ 140737488355328
  case neg => rw [if_neg hl3_] at H; cases H
  rw [if_pos hl3_] at H
  have LM12 := A_.mk hl3_
  clear hl3_
  obtain ⟨y20, Ny20⟩ : ∃ q_, q_ = (t5 ++ [(⟨t12, t13, t14, t15, t16, t17, t18, t19⟩ : S38)]) := ⟨_, rfl⟩
  rw [← Ny20] at H
  replace Ny20 := A_.mk Ny20
  simp only [Option.some.injEq, Prod.mk.injEq] at H
  obtain ⟨rfl, rfl, rfl, rfl, rfl, rfl, rfl⟩ := H
  go_wp2_with (first | ((with_reducible refine gc_ (f := 69) rfl ?_); refine gl_ (some 24) Try.func69 #[.agg #[.slice A0_2 l0_2.length c0_2, .slice A0_3 l0_3.length c0_3], .agg #[.int .i64 a1_0, .int .i64 a1_1, .int .i64 a1_2, .int .i64 a1_3, .int .i64 a1_4, .int .i64 a1_5, .int .i64 a1_6, .slice A1_7 l1_7.length c1_7]] ?_; (with_reducible refine (impl_SpendCredits.calls k _ _ l0_2 _ _ l0_3 a1_0 a1_1 a1_2 a1_3 a1_4 a1_5 a1_6 _ _ l1_7 t9 t10 t11 _ (Kd.C_below HR0_2.out HB.out) HC0_2.out (Kd.C_below HR0_3.out HB.out) HC0_3.out (Kd.C_below HR1_7.out HB.out) HC1_7.out A9.out).mono ?_); rintro e w9_ ⟨f9_, v0_, v1_, rfl, ho0_, ho1_, hb⟩; refine ⟨_, rfl, ?_⟩; replace HS := aHs HS hb.size; obtain ⟨Ao9_0, co9_0, ev_⟩ := Kd.R_slice ho0_; subst ev_; have HO9_0 := aRn ho0_ HB.out.size; obtain ⟨Ao9_1, co9_1, ev_⟩ := Kd.R_slice ho1_; subst ev_; have HO9_1 := aRn ho1_ HB.out.size; replace HO4_0 := aRb HO4_0 hb; replace HO4_1 := aRb HO4_1 hb; replace HO4_4 := aSb HO4_4 hb; replace HO4_5 := aSb HO4_5 hb; replace BK1 := aBb BK1 hb; replace BK2 := aBb BK2 hb; replace BK3 := aBb BK3 hb; replace BK5 := aBb BK5 hb; replace HB := aHB HB hb; clear hb ho0_ ho1_ Q1 Q2 Q3 Q5; have Q1 := blk6_ BK1.out; have Q2 := blk8_ BK2.out; have Q3 := blk6_ BK3.out; have Q5 := blk6_ BK5.out) | ((with_reducible refine gs_ (t := 30) (p := 27) rfl ?_); have qf0 := bf_ BK5.out 2; have qf1 := bf_ BK5.out 3; refine se_ (t := 30) (p := 27) (v := ?vo_10) (w1 := ((w9_.setCell ⟨gb5_, 2, none⟩ (.slice Ao9_0 t9.length co9_0)).setCell ⟨gb5_, 3, none⟩ (.slice Ao9_1 t10.length co9_1))) ?hg ?ho ?hn ?hr ?_; (case ho => rfl); (case hg => rfl); (case hn => rfl); (case hr => first | (go_simp; done) | (go_simp; rfl)); intro w10_ hw; clear qf0 qf1; have hge : w.heap.size ≤ gb5_ := (by have := HS.out; omega); have hkp : Kept w9_ w10_ (fun k_ => k_ = gb5_) := (by rw [hw]; exact (Kept.of_set (Kept.of_set (Kept.refl _ _) _ _) _ _)); have hbb : Below w.heap.size w w10_ := (by rw [hw]; exact (bs_ (bs_ HB.out hge) hge)); have hbx : w10_.heap[gb5_]? = some (.cells #[.slice Ao4_0 t1.length co4_0, .slice Ao4_1 t2.length co4_1, .slice Ao9_0 t9.length co9_0, .slice Ao9_1 t10.length co9_1, .slice Ao4_4 t5.length co4_4, .slice Ao4_5 t6.length co4_5] 33 (0, 0)) := (by rw [hw]; exact (bp_ (cs := #[.slice Ao4_0 t1.length co4_0, .slice Ao4_1 t2.length co4_1, .slice Ao9_0 t9.length co9_0, .slice Ao4_3 t4.length co4_3, .slice Ao4_4 t5.length co4_4, .slice Ao4_5 t6.length co4_5]) (bp_ (cs := #[.slice Ao4_0 t1.length co4_0, .slice Ao4_1 t2.length co4_1, .slice Ao4_2 t3.length co4_2, .slice Ao4_3 t4.length co4_3, .slice Ao4_4 t5.length co4_4, .slice Ao4_5 t6.length co4_5]) BK5.out 2 _ rfl) 3 _ rfl)); clear hw; replace HO4_0 := aRk HO4_0 hkp HS; replace HO4_1 := aRk HO4_1 hkp HS; replace HO4_4 := aSk HO4_4 hkp HS; replace HO4_5 := aSk HO4_5 hkp HS; replace HO9_0 := aRk HO9_0 hkp HS; replace HO9_1 := aRk HO9_1 hkp HS; replace BK1 := aBk BK1 hkp HS; replace BK2 := aBk BK2 hkp HS; replace BK3 := aBk BK3 hkp HS; replace BK5 := A_.mk hbx; replace HB := A_.mk hbb; replace HS := aHs HS hkp.1; clear hkp hbb hbx hge Q1 Q2 Q3 Q5; have Q1 := blk6_ BK1.out; have Q2 := blk8_ BK2.out; have Q3 := blk6_ BK3.out; have Q5 := blk6_ BK5.out))
  refine start_ (n := 8) (S := fun w' => (w'.cell? ⟨gb2_, 0, none⟩ = some (.int .i64 a1_0) ∧ w'.cell? ⟨gb2_, 1, none⟩ = some (.int .i64 a1_1) ∧ w'.cell? ⟨gb2_, 2, none⟩ = some (.int .i64 a1_2) ∧ w'.cell? ⟨gb2_, 3, none⟩ = some (.int .i64 a1_3) ∧ w'.cell? ⟨gb2_, 4, none⟩ = some (.int .i64 a1_4) ∧ w'.cell? ⟨gb2_, 5, none⟩ = some (.int .i64 a1_5) ∧ w'.cell? ⟨gb2_, 6, none⟩ = some (.int .i64 a1_6) ∧ w'.cell? ⟨gb2_, 7, none⟩ = some (.slice A1_7 l1_7.length c1_7)) ∧ (w'.cell? ⟨gb5_, 0, none⟩ = some (.slice Ao4_0 t1.length co4_0) ∧ w'.cell? ⟨gb5_, 1, none⟩ = some (.slice Ao4_1 t2.length co4_1) ∧ w'.cell? ⟨gb5_, 2, none⟩ = some (.slice Ao9_0 t9.length co9_0) ∧ w'.cell? ⟨gb5_, 3, none⟩ = some (.slice Ao9_1 t10.length co9_1) ∧ w'.cell? ⟨gb5_, 4, none⟩ = some (.slice Ao4_4 t5.length co4_4) ∧ w'.cell? ⟨gb5_, 5, none⟩ = some (.slice Ao4_5 t6.length co4_5))) (ds := [7]) #[F, F, F, F, F, F, F, F] (by kernel_rfl) rfl rfl ⟨blk8_ BK2.out, blk6_ BK5.out⟩ (fun hHeld => ?_)
  clear Q1 Q2 Q3 Q5
  have hb := below_drew (Below.refl w10_.heap.size w10_)
  replace HS := aHs HS hb.size
  replace HO4_0 := aRb HO4_0 hb
  replace HO4_1 := aRb HO4_1 hb
  replace HO4_4 := aSb HO4_4 hb
  replace HO4_5 := aSb HO4_5 hb
  replace HO9_0 := aRb HO9_0 hb
  replace HO9_1 := aRb HO9_1 hb
  replace BK1 := aBb BK1 hb
  replace BK2 := aBb BK2 hb
  replace BK3 := aBb BK3 hb
  replace BK5 := aBb BK5 hb
  replace HB := aHB HB hb
  clear hb
  generalize w10_.drew = w17d_ at HO4_0 HO4_1 HO4_4 HO4_5 HO9_0 HO9_1 BK1 BK2 BK3 BK5 HB HS hHeld ⊢
  refine pd_ (i := 0) (N := some 28) #[T, F, F, F, F, F, F, F] rfl ?_
  refine tl_ (i := 1) (N := some 29) #[T, T, F, F, F, F, F, F] rfl hHeld ?_
  refine tl_ (i := 2) (N := some 30) #[T, T, T, F, F, F, F, F] rfl hHeld ?_
  refine on_ (i := 3) (N := some 31) #[T, T, T, T, F, F, F, F] rfl (fun K hK => ?_)
  refine gz_ Try.func54 #[.agg #[.int .i64 a1_0, .int .i64 a1_1, .int .i64 a1_2, .int .i64 a1_3, .int .i64 a1_4, .int .i64 a1_5, .int .i64 a1_6, .slice A1_7 l1_7.length c1_7]] ?_
  with_reducible refine (impl_copyPacket.calls a1_0 a1_1 a1_2 a1_3 a1_4 a1_5 a1_6 _ _ l1_7 t12 t13 t14 t15 t16 t17 t18 t19 _ (Kd.C_below HR1_7.out HB.out) HC1_7.out A11.out).mono ?_
  rintro e w11_ ⟨v7_, rfl, ho0_, hb⟩
  refine ⟨_, rfl, ?_⟩
  replace HS := aHs HS hb.size
  obtain ⟨Ao11_7, co11_7, ev_⟩ := Kd.R_slice ho0_
  subst ev_
  have HO11_7 := aRm ho0_ HB.out.size
  replace HO4_0 := aRb HO4_0 hb
  replace HO4_1 := aRb HO4_1 hb
  replace HO4_4 := aSb HO4_4 hb
  replace HO4_5 := aSb HO4_5 hb
  replace HO9_0 := aRb HO9_0 hb
  replace HO9_1 := aRb HO9_1 hb
  replace BK1 := aBb BK1 hb
  replace BK2 := aBb BK2 hb
  replace BK3 := aBb BK3 hb
  replace BK5 := aBb BK5 hb
  replace HB := aHB HB hb
  clear hb ho0_
  refine hK.out _ _ ⟨blk8_ BK2.out, blk6_ BK5.out⟩ (fun hHeld => ?_)
  clear hK K
  refine nm_ ?_
  refine on_ (i := 4) (N := some 32) #[T, T, T, T, T, F, F, F] rfl (fun K hK => ?_)
  refine value_ (w1 := ?_) (v := ?_) (by rfl) rfl ?_ ?_
  rotate_left 2
  ·go_simp
   constructor
   ·rfl
   ·rfl
  refine hK.out _ _ ⟨blk8_ (bl_ BK2.out _), blk6_ (bl_ BK5.out _)⟩ (fun hHeld => ?_)
  clear hK K
  refine nm_ ?_
  refine on_ (i := 5) (N := some 33) #[T, T, T, T, T, T, F, F] rfl (fun K hK => ?_)
  refine Kd.S_append_step k38 (w0 := w) w.heap.size (by rfl) (.tmp 29) (.tmp 32) 31 38 ((.agg #[(.int .i64 0), (.int .i64 0), (.int .i64 0), (.int .i64 0), (.int .i64 0), (.int .i64 0), (.int .i64 0), (.slice none 0 0)])) 80 rfl Try.underlying31 info38 rfl (by decide) (by omega) (.slice Ao4_4 t5.length co4_4) t5 (⟨t12, t13, t14, t15, t16, t17, t18, t19⟩ : S38) [.int .i64 t12, .int .i64 t13, .int .i64 t14, .int .i64 t15, .int .i64 t16, .int .i64 t17, .int .i64 t18, .slice Ao11_7 t19.length co11_7] (fun k_ => (((w3_.heap.size ≤ k_ ∧ k_ < w4_.heap.size) ∧ f4_ k_ = 4)) ∨ (((w17d_.heap.size ≤ k_ ∧ k_ < w11_.heap.size))) ∨ w11_.heap.size ≤ k_) (fun k_ => ((w17d_.heap.size ≤ k_ ∧ k_ < w11_.heap.size))) rfl rfl ?aP ?aQ ?aF ?aO HB.out HB.out.size ?aL ?_
  case aP => exact k38_mkM _ _ _ (⟨t12, t13, t14, t15, t16, t17, t18, t19⟩ : S38) HO11_7.out
  case aQ => exact fun k_ hk_ => ⟨.inr (.inl hk_), fun e_ => by have := (Kd.S_R HO4_4.out).1 k_ e_.symm; clear e_; have := HS.out; omega⟩
  case aF => exact fun k_ hk_ => .inr (.inr hk_)
  case aO => exact Kd.S_mono HO4_4.out (fun k_ hk_ => ⟨.inl hk_, fun e_ => by have := HS.out; omega⟩)
  case aL => have := LM12.out; omega
  intro v_ w12_ ho hbb hg hat
  clear hat
  rw [← Ny20.out] at ho
  have hkp : Kept w11_ w12_ (fun k_ => ((w3_.heap.size ≤ k_ ∧ k_ < w4_.heap.size) ∧ f4_ k_ = 4)) := Kept.of_grown hg (Kept.refl _ _) (fun k_ e_ => .inl ((Kd.S_R HO4_4.out).1 k_ e_))
  replace HO4_0 := aRk HO4_0 hkp HS
  replace HO4_1 := aRk HO4_1 hkp HS
  replace HO4_5 := aSk HO4_5 hkp HS
  replace HO9_0 := aRk HO9_0 hkp HS
  replace HO9_1 := aRk HO9_1 hkp HS
  replace BK1 := aBk BK1 hkp HS
  replace BK2 := aBk BK2 hkp HS
  replace BK3 := aBk BK3 hkp HS
  replace BK5 := aBk BK5 hkp HS
  replace HS := aHs HS hkp.1
  obtain ⟨Ao12, co12, ev_⟩ := Kd.S_slice ho
  subst ev_
  have HO12 := A_.mk (Kd.S_mono (ok' := (fun k_ => ((w3_.heap.size ≤ k_ ∧ k_ < w4_.heap.size) ∧ f4_ k_ = 4) ∨ ((w17d_.heap.size ≤ k_ ∧ k_ < w11_.heap.size)) ∨ ((w11_.heap.size ≤ k_ ∧ k_ < w12_.heap.size)))) (Kd.S_bound ho) (fun k_ hk_ => by have := hk_.1; have := hk_.2.2.1; have := hk_.2.1; clear hk_; have := HS.out; omega))
  replace HB := A_.mk hbb
  clear hkp hbb hg ho HO4_4 HO11_7
  refine hK.out _ _ ⟨blk8_ BK2.out, blk6_ BK5.out⟩ (fun hHeld => ?_)
  clear hK K
  refine nm_ ?_
  refine pd_ (i := 6) (N := some 34) #[T, T, T, T, T, T, T, F] rfl ?_
  refine last_ (i := 7) (N := none) #[T, T, T, T, T, T, T, T] rfl rfl (by kernel_rfl) (by decide) (fun K hK => ?_)
  have Q1 := blk6_ BK1.out
  have Q2 := blk8_ BK2.out
  have Q3 := blk6_ BK3.out
  have Q5 := blk6_ BK5.out
  have qf0 := bf_ BK5.out 4
  obtain ⟨w13_, hw⟩ : ∃ q_ : World, q_ = (w12_.setCell ⟨gb5_, 4, none⟩ (.slice Ao12 y20.length co12)) := ⟨_, rfl⟩
  refine skip_ (w1 := w13_) (by rfl) rfl ?_ ?_
  ·rw [hw]; go_simp; try rfl
  refine hK.out _ _ ?_
  clear hK K qf0 Q1 Q2 Q3 Q5
  have hge : w.heap.size ≤ gb5_ := (by have := HS.out; omega)
  have hkp : Kept w12_ w13_ (fun k_ => k_ = gb5_) := (by rw [hw]; exact (Kept.of_set (Kept.refl _ _) _ _))
  have hbb : Below w.heap.size w w13_ := (by rw [hw]; exact (bs_ HB.out hge))
  have hbx : w13_.heap[gb5_]? = some (.cells #[.slice Ao4_0 t1.length co4_0, .slice Ao4_1 t2.length co4_1, .slice Ao9_0 t9.length co9_0, .slice Ao9_1 t10.length co9_1, .slice Ao12 y20.length co12, .slice Ao4_5 t6.length co4_5] 33 (0, 0)) := (by rw [hw]; exact (bp_ (cs := #[.slice Ao4_0 t1.length co4_0, .slice Ao4_1 t2.length co4_1, .slice Ao9_0 t9.length co9_0, .slice Ao9_1 t10.length co9_1, .slice Ao4_4 t5.length co4_4, .slice Ao4_5 t6.length co4_5]) BK5.out 4 _ rfl))
  clear hw
  replace HO4_0 := aRk HO4_0 hkp HS
  replace HO4_1 := aRk HO4_1 hkp HS
  replace HO4_5 := aSk HO4_5 hkp HS
  replace HO9_0 := aRk HO9_0 hkp HS
  replace HO9_1 := aRk HO9_1 hkp HS
  replace HO12 := aSk HO12 hkp HS
  replace BK1 := aBk BK1 hkp HS
  replace BK2 := aBk BK2 hkp HS
  replace BK3 := aBk BK3 hkp HS
  replace BK5 := A_.mk hbx
  replace HB := A_.mk hbb
  replace HS := aHs HS hkp.1
  clear hkp hbb hbx hge
  refine done_ (by kernel_rfl) ?_
  have Q1 := blk6_ BK1.out
  have Q2 := blk8_ BK2.out
  have Q3 := blk6_ BK3.out
  have Q5 := blk6_ BK5.out
  go_wp2_with (first | ((with_reducible refine gs_ (t := 33) (p := 4) rfl ?_); have qf0 := bf_ BK3.out 0; have qf1 := bf_ BK3.out 1; have qf2 := bf_ BK3.out 2; have qf3 := bf_ BK3.out 3; have qf4 := bf_ BK3.out 4; have qf5 := bf_ BK3.out 5; refine se_ (t := 33) (p := 4) (v := ?vo_14) (w1 := (ch6_ w13_ gb3_ (.slice Ao4_0 t1.length co4_0) (.slice Ao4_1 t2.length co4_1) (.slice Ao9_0 t9.length co9_0) (.slice Ao9_1 t10.length co9_1) (.slice Ao12 y20.length co12) (.slice Ao4_5 t6.length co4_5))) ?hg ?ho ?hn ?hr ?_; (case ho => rfl); (case hg => rfl); (case hn => rfl); (case hr => first | (go_simp; done) | (go_simp; rfl)); intro w14_ hw; clear qf0 qf1 qf2 qf3 qf4 qf5; obtain ⟨hbx, hkp, hbb⟩ := st6_ hw BK3 HB (by have := HS.out; omega); clear hw; replace HO4_0 := aRk HO4_0 hkp HS; replace HO4_1 := aRk HO4_1 hkp HS; replace HO4_5 := aSk HO4_5 hkp HS; replace HO9_0 := aRk HO9_0 hkp HS; replace HO9_1 := aRk HO9_1 hkp HS; replace HO12 := aSk HO12 hkp HS; replace BK1 := aBk BK1 hkp HS; replace BK2 := aBk BK2 hkp HS; replace BK5 := aBk BK5 hkp HS; replace BK3 := A_.mk hbx; replace HB := A_.mk hbb; replace HS := aHs HS hkp.1; clear hkp hbb hbx Q1 Q2 Q3 Q5; have Q1 := blk6_ BK1.out; have Q2 := blk8_ BK2.out; have Q3 := blk6_ BK3.out; have Q5 := blk6_ BK5.out))
  refine bodyPost_ret (results_ct rfl _ _ gb3_ 33 #[.slice Ao4_0 t1.length co4_0, .slice Ao4_1 t2.length co4_1, .slice Ao9_0 t9.length co9_0, .slice Ao9_1 t10.length co9_1, .slice Ao12 y20.length co12, .slice Ao4_5 t6.length co4_5] (0, 0) _ rfl BK3.out Try.underlying33 rfl (by kernel_rfl)) rfl ?_
  obtain ⟨f_, hf_⟩ : ∃ f_ : Nat → Nat, ∀ k_, f_ k_ = (if ((w3_.heap.size ≤ k_ ∧ k_ < w4_.heap.size) ∧ f4_ k_ = 0) then 0 else (if ((w3_.heap.size ≤ k_ ∧ k_ < w4_.heap.size) ∧ f4_ k_ = 1) then 1 else (if ((w8_.heap.size ≤ k_ ∧ k_ < w9_.heap.size) ∧ f9_ k_ = 0) then 2 else (if ((w8_.heap.size ≤ k_ ∧ k_ < w9_.heap.size) ∧ f9_ k_ = 1) then 3 else (if ((w3_.heap.size ≤ k_ ∧ k_ < w4_.heap.size) ∧ f4_ k_ = 4) ∨ ((w17d_.heap.size ≤ k_ ∧ k_ < w11_.heap.size)) ∨ ((w11_.heap.size ≤ k_ ∧ k_ < w12_.heap.size)) then 4 else (if ((w3_.heap.size ≤ k_ ∧ k_ < w4_.heap.size) ∧ f4_ k_ = 5) then 5 else 0)))))) := ⟨fun k_ => (if ((w3_.heap.size ≤ k_ ∧ k_ < w4_.heap.size) ∧ f4_ k_ = 0) then 0 else (if ((w3_.heap.size ≤ k_ ∧ k_ < w4_.heap.size) ∧ f4_ k_ = 1) then 1 else (if ((w8_.heap.size ≤ k_ ∧ k_ < w9_.heap.size) ∧ f9_ k_ = 0) then 2 else (if ((w8_.heap.size ≤ k_ ∧ k_ < w9_.heap.size) ∧ f9_ k_ = 1) then 3 else (if ((w3_.heap.size ≤ k_ ∧ k_ < w4_.heap.size) ∧ f4_ k_ = 4) ∨ ((w17d_.heap.size ≤ k_ ∧ k_ < w11_.heap.size)) ∨ ((w11_.heap.size ≤ k_ ∧ k_ < w12_.heap.size)) then 4 else (if ((w3_.heap.size ≤ k_ ∧ k_ < w4_.heap.size) ∧ f4_ k_ = 5) then 5 else 0)))))), fun _ => rfl⟩
  have hcol0_ : ∀ k_, (((w3_.heap.size ≤ k_ ∧ k_ < w4_.heap.size) ∧ f4_ k_ = 0)) → f_ k_ = 0 := fun k_ hk_ => by rw [hf_]; have := HS.out; repeat' (first | omega | split)
  have hcol1_ : ∀ k_, (((w3_.heap.size ≤ k_ ∧ k_ < w4_.heap.size) ∧ f4_ k_ = 1)) → f_ k_ = 1 := fun k_ hk_ => by rw [hf_]; have := HS.out; repeat' (first | omega | split)
  have hcol2_ : ∀ k_, (((w8_.heap.size ≤ k_ ∧ k_ < w9_.heap.size) ∧ f9_ k_ = 0)) → f_ k_ = 2 := fun k_ hk_ => by rw [hf_]; have := HS.out; repeat' (first | omega | split)
  have hcol3_ : ∀ k_, (((w8_.heap.size ≤ k_ ∧ k_ < w9_.heap.size) ∧ f9_ k_ = 1)) → f_ k_ = 3 := fun k_ hk_ => by rw [hf_]; have := HS.out; repeat' (first | omega | split)
  have hcol4_ : ∀ k_, (((w3_.heap.size ≤ k_ ∧ k_ < w4_.heap.size) ∧ f4_ k_ = 4) ∨ ((w17d_.heap.size ≤ k_ ∧ k_ < w11_.heap.size)) ∨ ((w11_.heap.size ≤ k_ ∧ k_ < w12_.heap.size))) → f_ k_ = 4 := fun k_ hk_ => by rw [hf_]; have := HS.out; repeat' (first | omega | split)
  have hcol5_ : ∀ k_, (((w3_.heap.size ≤ k_ ∧ k_ < w4_.heap.size) ∧ f4_ k_ = 5)) → f_ k_ = 5 := fun k_ hk_ => by rw [hf_]; have := HS.out; repeat' (first | omega | split)
  exact ⟨f_, _, _, _, _, _, _, rfl, Kd.R_mono HO4_0.out hcol0_, Kd.R_mono HO4_1.out hcol1_, Kd.R_mono HO9_0.out hcol2_, Kd.R_mono HO9_1.out hcol3_, Kd.S_mono HO12.out hcol4_, Kd.S_mono HO4_5.out hcol5_, HB.out⟩
 rw [if_neg hc2_] at H
 replace hc2_ := eq_false_of_ne_true hc2_
 subst hc2_
 simp only [Option.some.injEq, Prod.mk.injEq] at H
 obtain ⟨rfl, rfl, rfl, rfl, rfl, rfl, rfl⟩ := H
 go_wp2_with (first | ((with_reducible refine gs_ (t := 33) (p := 4) rfl ?_); have qf0 := bf_ BK3.out 0; have qf1 := bf_ BK3.out 1; have qf2 := bf_ BK3.out 2; have qf3 := bf_ BK3.out 3; have qf4 := bf_ BK3.out 4; have qf5 := bf_ BK3.out 5; refine se_ (t := 33) (p := 4) (v := ?vo_15) (w1 := (ch6_ w8_ gb3_ (.slice Ao4_0 t1.length co4_0) (.slice Ao4_1 t2.length co4_1) (.slice Ao4_2 t3.length co4_2) (.slice Ao4_3 t4.length co4_3) (.slice Ao4_4 t5.length co4_4) (.slice Ao4_5 t6.length co4_5))) ?hg ?ho ?hn ?hr ?_; (case ho => rfl); (case hg => rfl); (case hn => rfl); (case hr => first | (go_simp; done) | (go_simp; rfl)); intro w15_ hw; clear qf0 qf1 qf2 qf3 qf4 qf5; obtain ⟨hbx, hkp, hbb⟩ := st6_ hw BK3 HB (by have := HS.out; omega); clear hw; replace HO4_0 := aRk HO4_0 hkp HS; replace HO4_1 := aRk HO4_1 hkp HS; replace HO4_2 := aRk HO4_2 hkp HS; replace HO4_3 := aRk HO4_3 hkp HS; replace HO4_4 := aSk HO4_4 hkp HS; replace HO4_5 := aSk HO4_5 hkp HS; replace BK1 := aBk BK1 hkp HS; replace BK2 := aBk BK2 hkp HS; replace BK5 := aBk BK5 hkp HS; replace BK3 := A_.mk hbx; replace HB := A_.mk hbb; replace HS := aHs HS hkp.1; clear hkp hbb hbx Q1 Q2 Q3 Q5; have Q1 := blk6_ BK1.out; have Q2 := blk8_ BK2.out; have Q3 := blk6_ BK3.out; have Q5 := blk6_ BK5.out))
 refine bodyPost_ret (results_ct rfl _ _ gb3_ 33 #[.slice Ao4_0 t1.length co4_0, .slice Ao4_1 t2.length co4_1, .slice Ao4_2 t3.length co4_2, .slice Ao4_3 t4.length co4_3, .slice Ao4_4 t5.length co4_4, .slice Ao4_5 t6.length co4_5] (0, 0) _ rfl BK3.out Try.underlying33 rfl (by kernel_rfl)) rfl ?_
 obtain ⟨f_, hf_⟩ : ∃ f_ : Nat → Nat, ∀ k_, f_ k_ = (if ((w3_.heap.size ≤ k_ ∧ k_ < w4_.heap.size) ∧ f4_ k_ = 0) then 0 else (if ((w3_.heap.size ≤ k_ ∧ k_ < w4_.heap.size) ∧ f4_ k_ = 1) then 1 else (if ((w3_.heap.size ≤ k_ ∧ k_ < w4_.heap.size) ∧ f4_ k_ = 2) then 2 else (if ((w3_.heap.size ≤ k_ ∧ k_ < w4_.heap.size) ∧ f4_ k_ = 3) then 3 else (if ((w3_.heap.size ≤ k_ ∧ k_ < w4_.heap.size) ∧ f4_ k_ = 4) then 4 else (if ((w3_.heap.size ≤ k_ ∧ k_ < w4_.heap.size) ∧ f4_ k_ = 5) then 5 else 0)))))) := ⟨fun k_ => (if ((w3_.heap.size ≤ k_ ∧ k_ < w4_.heap.size) ∧ f4_ k_ = 0) then 0 else (if ((w3_.heap.size ≤ k_ ∧ k_ < w4_.heap.size) ∧ f4_ k_ = 1) then 1 else (if ((w3_.heap.size ≤ k_ ∧ k_ < w4_.heap.size) ∧ f4_ k_ = 2) then 2 else (if ((w3_.heap.size ≤ k_ ∧ k_ < w4_.heap.size) ∧ f4_ k_ = 3) then 3 else (if ((w3_.heap.size ≤ k_ ∧ k_ < w4_.heap.size) ∧ f4_ k_ = 4) then 4 else (if ((w3_.heap.size ≤ k_ ∧ k_ < w4_.heap.size) ∧ f4_ k_ = 5) then 5 else 0)))))), fun _ => rfl⟩
 have hcol0_ : ∀ k_, (((w3_.heap.size ≤ k_ ∧ k_ < w4_.heap.size) ∧ f4_ k_ = 0)) → f_ k_ = 0 := fun k_ hk_ => by rw [hf_]; have := HS.out; repeat' (first | omega | split)
 have hcol1_ : ∀ k_, (((w3_.heap.size ≤ k_ ∧ k_ < w4_.heap.size) ∧ f4_ k_ = 1)) → f_ k_ = 1 := fun k_ hk_ => by rw [hf_]; have := HS.out; repeat' (first | omega | split)
 have hcol2_ : ∀ k_, (((w3_.heap.size ≤ k_ ∧ k_ < w4_.heap.size) ∧ f4_ k_ = 2)) → f_ k_ = 2 := fun k_ hk_ => by rw [hf_]; have := HS.out; repeat' (first | omega | split)
 have hcol3_ : ∀ k_, (((w3_.heap.size ≤ k_ ∧ k_ < w4_.heap.size) ∧ f4_ k_ = 3)) → f_ k_ = 3 := fun k_ hk_ => by rw [hf_]; have := HS.out; repeat' (first | omega | split)
 have hcol4_ : ∀ k_, (((w3_.heap.size ≤ k_ ∧ k_ < w4_.heap.size) ∧ f4_ k_ = 4)) → f_ k_ = 4 := fun k_ hk_ => by rw [hf_]; have := HS.out; repeat' (first | omega | split)
 have hcol5_ : ∀ k_, (((w3_.heap.size ≤ k_ ∧ k_ < w4_.heap.size) ∧ f4_ k_ = 5)) → f_ k_ = 5 := fun k_ hk_ => by rw [hf_]; have := HS.out; repeat' (first | omega | split)
 exact ⟨f_, _, _, _, _, _, _, rfl, Kd.R_mono HO4_0.out hcol0_, Kd.R_mono HO4_1.out hcol1_, Kd.R_mono HO4_2.out hcol2_, Kd.R_mono HO4_3.out hcol3_, Kd.S_mono HO4_4.out hcol4_, Kd.S_mono HO4_5.out hcol5_, HB.out⟩
end Go.Proofs.Ytlombfmebinjbaa.PFnExactPutPacket
