-- Written by a program of this session (wip/xp): not trusted, Lean checks it.
import Derived.Test.YtflopendlbciaaaPFnLinkOncex0
import Derived.Test.YtflopendlbciaaaPFnLinkOncex1
import Derived.Test.YtflopendlbciaaaPFnLinkOncex3
import Derived.Test.YtflopendlbciaaaPFnLinkOncex5
import Derived.Test.YtflopendlbciaaaPFnLinkOncex6
import Derived.Test.YtflopendlbciaaaPFnLinkOncex9
import Derived.Test.YtflopendlbciaaaPFnLinkOncex10
import Derived.Test.YtflopendlbciaaaPFnLinkOncex12
namespace Go.Proofs.Ytflopendlbciaaa.PFnLinkOnce
open Go.RowKit Go.Proofs.YtflopendlbciaaaW.PrintWords Go.Proofs.YtflopendlbciaaaW.PrintLast Go.Proofs.YtflopendlbciaaaW.PrintMore
attribute [local go_sem] max2_int min2_int max_two min_two max_three min_three max_four min_four   -- for this text's walks alone
set_option linter.unusedVariables false
set_option linter.unusedSimpArgs false

/-! ### impl_LinkStep: function 7, its calls in a row -/
def impl_LinkStep.f (k : Nat) (a0_0 : Int) (l0_1 : List (S68)) (a0_2 : Int) (a0_3 : Int) (l0_4 : List (List Int)) (l0_5 : List (List Int)) (l0_6 : List Int) (a1_0 : Int) (a1_1 : Int) : Option ((Int) × (List (S68)) × (Int) × (Int) × (List (List Int)) × (List (List Int)) × (List Int) × (Bool)) := ((impl_copyLink.f k a0_0 l0_1 a0_2 a0_3 l0_4 l0_5 l0_6).bind fun ⟨t1, t2, t3, t4, t5, t6, t7⟩ => ((impl_LinkOk.f k a0_0 l0_1 a0_2 a0_3 l0_4 l0_5 l0_6).bind fun t8 => (if t8 = true then ((impl_Link_step.f k t1 t2 t3 t4 t5 t6 t7 a1_0 a1_1).bind fun ⟨t9, t10, t11, t12, t13, t14, t15, t16⟩ => (some (t10, t11, t12, t13, t14, t15, t16, t9))) else (some (t1, t2, t3, t4, t5, t6, t7, false)))))
set_option maxHeartbeats 8000000 in
set_option maxRecDepth 100000 in
theorem impl_LinkStep.calls (k : Nat) (a0_0 : Int) (A0_1 : Option Addr) (c0_1 : Nat) (l0_1 : List (S68)) (a0_2 : Int) (a0_3 : Int) (A0_4 : Option Addr) (c0_4 : Nat) (l0_4 : List (List Int)) (A0_5 : Option Addr) (c0_5 : Nat) (l0_5 : List (List Int)) (A0_6 : Option Addr) (c0_6 : Nat) (l0_6 : List Int) (a1_0 : Int) (a1_1 : Int) (r1 : Int) (r2 : List (S68)) (r3 : Int) (r4 : Int) (r5 : List (List Int)) (r6 : List (List Int)) (r7 : List Int) (r8 : Bool) (w : World) (hr0_1 : Kd.C k68 w A0_1 l0_1.length l0_1) (hc0_1 : l0_1.length ≤ c0_1) (hr0_4 : Kd.C (Kd.slice 3 (Kd.int .i64)) w A0_4 l0_4.length l0_4) (hc0_4 : l0_4.length ≤ c0_4) (hr0_5 : Kd.C (Kd.slice 3 (Kd.int .i64)) w A0_5 l0_5.length l0_5) (hc0_5 : l0_5.length ≤ c0_5) (hr0_6 : Kd.C (Kd.int .i64) w A0_6 l0_6.length l0_6) (hc0_6 : l0_6.length ≤ c0_6) (h : impl_LinkStep.f k a0_0 l0_1 a0_2 a0_3 l0_4 l0_5 l0_6 a1_0 a1_1 = some (r1, r2, r3, r4, r5, r6, r7, r8)) :
  Calls Try.prog 7 #[.agg #[.int .i64 a0_0, .slice A0_1 l0_1.length c0_1, .int .i64 a0_2, .int .i64 a0_3, .slice A0_4 l0_4.length c0_4, .slice A0_5 l0_5.length c0_5, .slice A0_6 l0_6.length c0_6], .agg #[.int .i64 a1_0, .int .i64 a1_1]] w fun e w' => ∃ f_ : Nat → Nat, ∃ v0_ v1_ v2_ v3_ : Value, e = .returned (.tuple #[.agg #[.int .i64 r1, v0_, .int .i64 r3, .int .i64 r4, v1_, v2_, v3_], .bool r8]) ∧ Kd.S k68 68 w' w.heap.size (fun k_ => f_ k_ = 0) v0_ r2 ∧ Kd.S (Kd.slice 3 (Kd.int .i64)) 32 w' w.heap.size (fun k_ => f_ k_ = 1) v1_ r5 ∧ Kd.S (Kd.slice 3 (Kd.int .i64)) 32 w' w.heap.size (fun k_ => f_ k_ = 2) v2_ r6 ∧ Kd.R (Kd.int .i64) 3 w' w.heap.size (fun k_ => f_ k_ = 3) v3_ r7 ∧ Below w.heap.size w w' := by
 have HR0_1 := A_.mk hr0_1
 have HC0_1 := A_.mk hc0_1
 clear hr0_1 hc0_1
 have HR0_4 := A_.mk hr0_4
 have HC0_4 := A_.mk hc0_4
 clear hr0_4 hc0_4
 have HR0_5 := A_.mk hr0_5
 have HC0_5 := A_.mk hc0_5
 clear hr0_5 hc0_5
 have HR0_6 := A_.mk hr0_6
 have HC0_6 := A_.mk hc0_6
 clear hr0_6 hc0_6
 have HB := A_.mk (Below.refl w.heap.size w)
 unfold impl_LinkStep.f at h
 have H := h
 clear h
 replace H := oa_ H
 obtain ⟨⟨t1, t2, t3, t4, t5, t6, t7⟩, A4, H⟩ := H
 try dsimp only at H
 replace H := oa_ H
 obtain ⟨t8, A7, H⟩ := H
 replace H := A_.mk H
 have hu34 := Try.underlying34
 have hu39 := Try.underlying39
 go_enter Try.func7, Try.ntmps7
 have HS := A_.mk (Nat.le_refl w.heap.size)
 go_wp2_with (first | ((with_reducible refine gd_ (N := 2) rfl ?_); refine by_ 2 (cs := #[.int .i64 a0_0, .slice A0_1 l0_1.length c0_1, .int .i64 a0_2, .int .i64 a0_3, .slice A0_4 l0_4.length c0_4, .slice A0_5 l0_5.length c0_5, .slice A0_6 l0_6.length c0_6]) (t := 34) ?_; intro gb1_ hg w1_ hbox hb; replace HS := A_.mk (And.intro HS.out (show gb1_ = w.heap.size ∧ gb1_ < w1_.heap.size from ⟨hg, blk_lt hbox⟩)); replace HB := aHB HB hb; have BK1 := A_.mk hbox; clear hbox hb hg; have Q1 := blk7_ BK1.out) | ((with_reducible refine gd_ (N := 3) rfl ?_); refine by_ 3 (cs := #[.int .i64 a1_0, .int .i64 a1_1]) (t := 39) ?_; intro gb2_ hg w2_ hbox hb; replace HS := A_.mk (And.intro HS.out (show gb2_ = w1_.heap.size ∧ gb2_ < w2_.heap.size from ⟨hg, blk_lt hbox⟩)); replace BK1 := aBb BK1 hb; replace HB := aHB HB hb; have BK2 := A_.mk hbox; clear hbox hb hg Q1; have Q1 := blk7_ BK1.out; have Q2 := blk2_ BK2.out) | ((with_reducible refine gd_ (N := 4) rfl ?_); refine by_ 4 (cs := #[.int .i64 0, .slice none 0 0, .int .i64 0, .int .i64 0, .slice none 0 0, .slice none 0 0, .slice none 0 0]) (t := 34) ?_; intro gb3_ hg w3_ hbox hb; replace HS := A_.mk (And.intro HS.out (show gb3_ = w2_.heap.size ∧ gb3_ < w3_.heap.size from ⟨hg, blk_lt hbox⟩)); replace BK1 := aBb BK1 hb; replace BK2 := aBb BK2 hb; replace HB := aHB HB hb; have BK3 := A_.mk hbox; clear hbox hb hg Q1 Q2; have Q1 := blk7_ BK1.out; have Q2 := blk2_ BK2.out; have Q3 := blk7_ BK3.out) | ((with_reducible refine gc_ (f := 13) rfl ?_); refine gl_ (some 9) Try.func13 #[.agg #[.int .i64 a0_0, .slice A0_1 l0_1.length c0_1, .int .i64 a0_2, .int .i64 a0_3, .slice A0_4 l0_4.length c0_4, .slice A0_5 l0_5.length c0_5, .slice A0_6 l0_6.length c0_6]] ?_; (with_reducible refine (impl_copyLink.calls k a0_0 _ _ l0_1 a0_2 a0_3 _ _ l0_4 _ _ l0_5 _ _ l0_6 t1 t2 t3 t4 t5 t6 t7 _ (Kd.C_below HR0_1.out HB.out) HC0_1.out (Kd.C_below HR0_4.out HB.out) HC0_4.out (Kd.C_below HR0_5.out HB.out) HC0_5.out (Kd.C_below HR0_6.out HB.out) HC0_6.out A4.out).mono ?_); rintro e w4_ ⟨f4_, v0_, v1_, v2_, v3_, rfl, ho0_, ho1_, ho2_, ho3_, hb⟩; refine ⟨_, rfl, ?_⟩; replace HS := aHs HS hb.size; obtain ⟨Ao4_0, co4_0, ev_⟩ := Kd.S_slice ho0_; subst ev_; have HO4_0 := aSn ho0_ HB.out.size; obtain ⟨Ao4_1, co4_1, ev_⟩ := Kd.S_slice ho1_; subst ev_; have HO4_1 := aSn ho1_ HB.out.size; obtain ⟨Ao4_2, co4_2, ev_⟩ := Kd.S_slice ho2_; subst ev_; have HO4_2 := aSn ho2_ HB.out.size; obtain ⟨Ao4_3, co4_3, ev_⟩ := Kd.R_slice ho3_; subst ev_; have HO4_3 := aRn ho3_ HB.out.size; replace BK1 := aBb BK1 hb; replace BK2 := aBb BK2 hb; replace BK3 := aBb BK3 hb; replace HB := aHB HB hb; clear hb ho0_ ho1_ ho2_ ho3_ Q1 Q2 Q3; have Q1 := blk7_ BK1.out; have Q2 := blk2_ BK2.out; have Q3 := blk7_ BK3.out) | ((with_reducible refine gd_ (N := 6) rfl ?_); refine by_ 6 (cs := #[.int .i64 0, .slice none 0 0, .int .i64 0, .int .i64 0, .slice none 0 0, .slice none 0 0, .slice none 0 0]) (t := 34) ?_; intro gb5_ hg w5_ hbox hb; replace HS := A_.mk (And.intro HS.out (show gb5_ = w4_.heap.size ∧ gb5_ < w5_.heap.size from ⟨hg, blk_lt hbox⟩)); replace HO4_0 := aSb HO4_0 hb; replace HO4_1 := aSb HO4_1 hb; replace HO4_2 := aSb HO4_2 hb; replace HO4_3 := aRb HO4_3 hb; replace BK1 := aBb BK1 hb; replace BK2 := aBb BK2 hb; replace BK3 := aBb BK3 hb; replace HB := aHB HB hb; have BK5 := A_.mk hbox; clear hbox hb hg Q1 Q2 Q3; have Q1 := blk7_ BK1.out; have Q2 := blk2_ BK2.out; have Q3 := blk7_ BK3.out; have Q5 := blk7_ BK5.out) | ((with_reducible refine gate_store (t := 34) (p := 6) rfl ?_); have qf0 := bf_ BK5.out 0; have qf1 := bf_ BK5.out 1; have qf2 := bf_ BK5.out 2; have qf3 := bf_ BK5.out 3; have qf4 := bf_ BK5.out 4; have qf5 := bf_ BK5.out 5; have qf6 := bf_ BK5.out 6; refine se_ (t := 34) (p := 6) (v := ?vo_6) (w1 := (ch7_ w5_ gb5_ (.int .i64 t1) (.slice Ao4_0 t2.length co4_0) (.int .i64 t3) (.int .i64 t4) (.slice Ao4_1 t5.length co4_1) (.slice Ao4_2 t6.length co4_2) (.slice Ao4_3 t7.length co4_3))) ?hg ?ho ?hn ?hr ?_; (case ho => rfl); (case hg => rfl); (case hn => rfl); (case hr => first | (go_simp; done) | (go_simp; rfl)); intro w6_ hw; clear qf0 qf1 qf2 qf3 qf4 qf5 qf6; obtain ⟨hbx, hkp, hbb⟩ := st7_ hw BK5 HB (by have := HS.out; omega); clear hw; replace HO4_0 := aSk HO4_0 hkp HS; replace HO4_1 := aSk HO4_1 hkp HS; replace HO4_2 := aSk HO4_2 hkp HS; replace HO4_3 := aRk HO4_3 hkp HS; replace BK1 := aBk BK1 hkp HS; replace BK2 := aBk BK2 hkp HS; replace BK3 := aBk BK3 hkp HS; replace BK5 := A_.mk hbx; replace HB := A_.mk hbb; replace HS := aHs HS hkp.1; clear hkp hbb hbx Q1 Q2 Q3 Q5; have Q1 := blk7_ BK1.out; have Q2 := blk2_ BK2.out; have Q3 := blk7_ BK3.out; have Q5 := blk7_ BK5.out))
 (with_reducible refine (impl_LinkOk.calls k a0_0 _ _ l0_1 a0_2 a0_3 _ _ l0_4 _ _ l0_5 _ _ l0_6 t8 _ (Kd.C_below HR0_1.out HB.out) HC0_1.out (Kd.C_below HR0_4.out HB.out) HC0_4.out (Kd.C_below HR0_5.out HB.out) HC0_5.out (Kd.C_below HR0_6.out HB.out) HC0_6.out A7.out).mono ?_)
 rintro e w7_ ⟨rfl, hb⟩
 replace HS := aHs HS hb.size
 replace HO4_0 := aSb HO4_0 hb
 replace HO4_1 := aSb HO4_1 hb
 replace HO4_2 := aSb HO4_2 hb
 replace HO4_3 := aRb HO4_3 hb
 replace BK1 := aBb BK1 hb
 replace BK2 := aBb BK2 hb
 replace BK3 := aBb BK3 hb
 replace BK5 := aBb BK5 hb
 replace HB := aHB HB hb
 clear hb  Q1 Q2 Q3 Q5
 have Q1 := blk7_ BK1.out
 have Q2 := blk2_ BK2.out
 have Q3 := blk7_ BK3.out
 have Q5 := blk7_ BK5.out
 replace H := H.out
 by_cases hc1_ : t8 = true
 case pos =>
  rw [if_pos hc1_] at H
  subst hc1_
  replace H := oa_ H
  obtain ⟨⟨t9, t10, t11, t12, t13, t14, t15, t16⟩, A8, H⟩ := H
  try dsimp only at H
  simp only [Option.some.injEq, Prod.mk.injEq] at H
  obtain ⟨rfl, rfl, rfl, rfl, rfl, rfl, rfl, rfl⟩ := H
  go_wp2_with (fail)
  obtain ⟨fp8_, hfp_⟩ : ∃ f_ : Nat → Nat, ∀ k_, f_ k_ = (if ((w3_.heap.size ≤ k_ ∧ k_ < w4_.heap.size) ∧ f4_ k_ = 0) then 0 else (if ((w3_.heap.size ≤ k_ ∧ k_ < w4_.heap.size) ∧ f4_ k_ = 1) then 1 else (if ((w3_.heap.size ≤ k_ ∧ k_ < w4_.heap.size) ∧ f4_ k_ = 2) then 2 else (if ((w3_.heap.size ≤ k_ ∧ k_ < w4_.heap.size) ∧ f4_ k_ = 3) then 3 else 4)))) := ⟨fun k_ => (if ((w3_.heap.size ≤ k_ ∧ k_ < w4_.heap.size) ∧ f4_ k_ = 0) then 0 else (if ((w3_.heap.size ≤ k_ ∧ k_ < w4_.heap.size) ∧ f4_ k_ = 1) then 1 else (if ((w3_.heap.size ≤ k_ ∧ k_ < w4_.heap.size) ∧ f4_ k_ = 2) then 2 else (if ((w3_.heap.size ≤ k_ ∧ k_ < w4_.heap.size) ∧ f4_ k_ = 3) then 3 else 4)))), fun _ => rfl⟩
  have hcp1_ : ∀ k_, (((w3_.heap.size ≤ k_ ∧ k_ < w4_.heap.size) ∧ f4_ k_ = 0)) → ((w.heap.size ≤ k_ ∧ k_ < w7_.heap.size) ∧ k_ ≠ gb5_ ∧ fp8_ k_ = 0) := fun k_ hk_ => ⟨by have := HS.out; omega, by have := HS.out; first | omega | (intro he_; subst he_; omega), by rw [hfp_]; have := HS.out; repeat' (first | omega | split)⟩
  have hcp4_ : ∀ k_, (((w3_.heap.size ≤ k_ ∧ k_ < w4_.heap.size) ∧ f4_ k_ = 1)) → ((w.heap.size ≤ k_ ∧ k_ < w7_.heap.size) ∧ k_ ≠ gb5_ ∧ fp8_ k_ = 1) := fun k_ hk_ => ⟨by have := HS.out; omega, by have := HS.out; first | omega | (intro he_; subst he_; omega), by rw [hfp_]; have := HS.out; repeat' (first | omega | split)⟩
  have hcp5_ : ∀ k_, (((w3_.heap.size ≤ k_ ∧ k_ < w4_.heap.size) ∧ f4_ k_ = 2)) → ((w.heap.size ≤ k_ ∧ k_ < w7_.heap.size) ∧ k_ ≠ gb5_ ∧ fp8_ k_ = 2) := fun k_ hk_ => ⟨by have := HS.out; omega, by have := HS.out; first | omega | (intro he_; subst he_; omega), by rw [hfp_]; have := HS.out; repeat' (first | omega | split)⟩
  have hcp6_ : ∀ k_, (((w3_.heap.size ≤ k_ ∧ k_ < w4_.heap.size) ∧ f4_ k_ = 3)) → ((w.heap.size ≤ k_ ∧ k_ < w7_.heap.size) ∧ k_ ≠ gb5_ ∧ fp8_ k_ = 3) := fun k_ hk_ => ⟨by have := HS.out; omega, by have := HS.out; first | omega | (intro he_; subst he_; omega), by rw [hfp_]; have := HS.out; repeat' (first | omega | split)⟩
  have hfb1_ : fp8_ gb1_ = 4 := by rw [hfp_]; have := HS.out; repeat' (first | omega | split)
  have hfb2_ : fp8_ gb2_ = 4 := by rw [hfp_]; have := HS.out; repeat' (first | omega | split)
  have hfb3_ : fp8_ gb3_ = 4 := by rw [hfp_]; have := HS.out; repeat' (first | omega | split)
  refine (impl_Link_step.calls k gb5_ fp8_ t1 _ _ t2 t3 t4 _ _ t5 _ _ t6 _ _ t7 a1_0 a1_1 t9 t10 t11 t12 t13 t14 t15 t16 w _ HB.out (by have := HS.out; omega) BK5.out (Kd.S_mono HO4_0.out hcp1_) (Kd.S_mono HO4_1.out hcp4_) (Kd.S_mono HO4_2.out hcp5_) (Kd.R_mono HO4_3.out hcp6_) A8.out).mono ?_
  rintro e w8_ ⟨f8_, v0_, v1_, v2_, v3_, rfl, hbx_, ho1_, ho2_, ho3_, ho4_, hfk_, hbb, hkp⟩
  have hge1_ : 4 ≤ f8_ gb1_ := by have h1_ := hfk_ gb1_ (blk_lt BK1.out); have := hfb1_; have := HS.out; omega
  have hge2_ : 4 ≤ f8_ gb2_ := by have h1_ := hfk_ gb2_ (blk_lt BK2.out); have := hfb2_; have := HS.out; omega
  have hge3_ : 4 ≤ f8_ gb3_ := by have h1_ := hfk_ gb3_ (blk_lt BK3.out); have := hfb3_; have := HS.out; omega
  replace BK1 := A_.mk ((hkp.2 _ (blk_lt BK1.out) (fun _ => by have := hfb1_; have := HS.out; omega)).trans BK1.out)
  replace BK2 := A_.mk ((hkp.2 _ (blk_lt BK2.out) (fun _ => by have := hfb2_; have := HS.out; omega)).trans BK2.out)
  replace BK3 := A_.mk ((hkp.2 _ (blk_lt BK3.out) (fun _ => by have := hfb3_; have := HS.out; omega)).trans BK3.out)
  replace BK5 := A_.mk hbx_
  replace HB := A_.mk hbb
  replace HS := aHs HS hkp.1
  replace HS := aHs HS hge1_
  replace HS := aHs HS hge2_
  replace HS := aHs HS hge3_
  clear hfk_ hge1_ hge2_ hge3_
  obtain ⟨Ao8_0, co8_0, ev_⟩ := Kd.S_slice ho1_
  subst ev_
  have HO8_0 := A_.mk ho1_
  obtain ⟨Ao8_1, co8_1, ev_⟩ := Kd.S_slice ho2_
  subst ev_
  have HO8_1 := A_.mk ho2_
  obtain ⟨Ao8_2, co8_2, ev_⟩ := Kd.S_slice ho3_
  subst ev_
  have HO8_2 := A_.mk ho3_
  obtain ⟨Ao8_3, co8_3, ev_⟩ := Kd.R_slice ho4_
  subst ev_
  have HO8_3 := A_.mk ho4_
  clear hkp hbx_ hbb hfp_ hcp1_ hcp4_ hcp5_ hcp6_ ho1_ ho2_ ho3_ ho4_ hfb1_ hfb2_ hfb3_ Q1 Q2 Q3 Q5
  have Q1 := blk7_ BK1.out
  have Q2 := blk2_ BK2.out
  have Q3 := blk7_ BK3.out
  have Q5 := blk7_ BK5.out
  go_wp2_with (first | ((with_reducible refine gate_store (t := 34) (p := 4) rfl ?_); have qf0 := bf_ BK3.out 0; have qf1 := bf_ BK3.out 1; have qf2 := bf_ BK3.out 2; have qf3 := bf_ BK3.out 3; have qf4 := bf_ BK3.out 4; have qf5 := bf_ BK3.out 5; have qf6 := bf_ BK3.out 6; refine se_ (t := 34) (p := 4) (v := ?vo_9) (w1 := (ch7_ w8_ gb3_ (.int .i64 t10) (.slice Ao8_0 t11.length co8_0) (.int .i64 t12) (.int .i64 t13) (.slice Ao8_1 t14.length co8_1) (.slice Ao8_2 t15.length co8_2) (.slice Ao8_3 t16.length co8_3))) ?hg ?ho ?hn ?hr ?_; (case ho => rfl); (case hg => rfl); (case hn => rfl); (case hr => first | (go_simp; done) | (go_simp; rfl)); intro w9_ hw; clear qf0 qf1 qf2 qf3 qf4 qf5 qf6; obtain ⟨hbx, hkp, hbb⟩ := st7_ hw BK3 HB (by have := HS.out; omega); clear hw; replace HO8_0 := aSk HO8_0 hkp HS; replace HO8_1 := aSk HO8_1 hkp HS; replace HO8_2 := aSk HO8_2 hkp HS; replace HO8_3 := aRk HO8_3 hkp HS; replace BK1 := aBk BK1 hkp HS; replace BK2 := aBk BK2 hkp HS; replace BK5 := aBk BK5 hkp HS; replace BK3 := A_.mk hbx; replace HB := A_.mk hbb; replace HS := aHs HS hkp.1; clear hkp hbb hbx Q1 Q2 Q3 Q5; have Q1 := blk7_ BK1.out; have Q2 := blk2_ BK2.out; have Q3 := blk7_ BK3.out; have Q5 := blk7_ BK5.out))
  refine bodyPost_ret (results_ct rfl _ _ gb3_ 34 #[.int .i64 t10, .slice Ao8_0 t11.length co8_0, .int .i64 t12, .int .i64 t13, .slice Ao8_1 t14.length co8_1, .slice Ao8_2 t15.length co8_2, .slice Ao8_3 t16.length co8_3] (0, 0) _ rfl BK3.out Try.underlying34 rfl (by kernel_rfl)) rfl ?_
  obtain ⟨f_, hf_⟩ : ∃ f_ : Nat → Nat, ∀ k_, f_ k_ = (if ((w.heap.size ≤ k_ ∧ k_ < w8_.heap.size) ∧ k_ ≠ gb5_ ∧ f8_ k_ = 0) then 0 else (if ((w.heap.size ≤ k_ ∧ k_ < w8_.heap.size) ∧ k_ ≠ gb5_ ∧ f8_ k_ = 1) then 1 else (if ((w.heap.size ≤ k_ ∧ k_ < w8_.heap.size) ∧ k_ ≠ gb5_ ∧ f8_ k_ = 2) then 2 else (if ((w.heap.size ≤ k_ ∧ k_ < w8_.heap.size) ∧ k_ ≠ gb5_ ∧ f8_ k_ = 3) then 3 else 0)))) := ⟨fun k_ => (if ((w.heap.size ≤ k_ ∧ k_ < w8_.heap.size) ∧ k_ ≠ gb5_ ∧ f8_ k_ = 0) then 0 else (if ((w.heap.size ≤ k_ ∧ k_ < w8_.heap.size) ∧ k_ ≠ gb5_ ∧ f8_ k_ = 1) then 1 else (if ((w.heap.size ≤ k_ ∧ k_ < w8_.heap.size) ∧ k_ ≠ gb5_ ∧ f8_ k_ = 2) then 2 else (if ((w.heap.size ≤ k_ ∧ k_ < w8_.heap.size) ∧ k_ ≠ gb5_ ∧ f8_ k_ = 3) then 3 else 0)))), fun _ => rfl⟩
  have hcol0_ : ∀ k_, (((w.heap.size ≤ k_ ∧ k_ < w8_.heap.size) ∧ k_ ≠ gb5_ ∧ f8_ k_ = 0)) → f_ k_ = 0 := fun k_ hk_ => by rw [hf_]; have := HS.out; repeat' (first | omega | split)
  have hcol1_ : ∀ k_, (((w.heap.size ≤ k_ ∧ k_ < w8_.heap.size) ∧ k_ ≠ gb5_ ∧ f8_ k_ = 1)) → f_ k_ = 1 := fun k_ hk_ => by rw [hf_]; have := HS.out; repeat' (first | omega | split)
  have hcol2_ : ∀ k_, (((w.heap.size ≤ k_ ∧ k_ < w8_.heap.size) ∧ k_ ≠ gb5_ ∧ f8_ k_ = 2)) → f_ k_ = 2 := fun k_ hk_ => by rw [hf_]; have := HS.out; repeat' (first | omega | split)
  have hcol3_ : ∀ k_, (((w.heap.size ≤ k_ ∧ k_ < w8_.heap.size) ∧ k_ ≠ gb5_ ∧ f8_ k_ = 3)) → f_ k_ = 3 := fun k_ hk_ => by rw [hf_]; have := HS.out; repeat' (first | omega | split)
  exact ⟨f_, _, _, _, _, rfl, Kd.S_mono HO8_0.out hcol0_, Kd.S_mono HO8_1.out hcol1_, Kd.S_mono HO8_2.out hcol2_, Kd.R_mono HO8_3.out hcol3_, HB.out⟩
 rw [if_neg hc1_] at H
 replace hc1_ := eq_false_of_ne_true hc1_
 subst hc1_
 simp only [Option.some.injEq, Prod.mk.injEq] at H
 obtain ⟨rfl, rfl, rfl, rfl, rfl, rfl, rfl, rfl⟩ := H
 go_wp2_with (first | ((with_reducible refine gate_store (t := 34) (p := 4) rfl ?_); have qf0 := bf_ BK3.out 0; have qf1 := bf_ BK3.out 1; have qf2 := bf_ BK3.out 2; have qf3 := bf_ BK3.out 3; have qf4 := bf_ BK3.out 4; have qf5 := bf_ BK3.out 5; have qf6 := bf_ BK3.out 6; refine se_ (t := 34) (p := 4) (v := ?vo_10) (w1 := (ch7_ w7_ gb3_ (.int .i64 t1) (.slice Ao4_0 t2.length co4_0) (.int .i64 t3) (.int .i64 t4) (.slice Ao4_1 t5.length co4_1) (.slice Ao4_2 t6.length co4_2) (.slice Ao4_3 t7.length co4_3))) ?hg ?ho ?hn ?hr ?_; (case ho => rfl); (case hg => rfl); (case hn => rfl); (case hr => first | (go_simp; done) | (go_simp; rfl)); intro w10_ hw; clear qf0 qf1 qf2 qf3 qf4 qf5 qf6; obtain ⟨hbx, hkp, hbb⟩ := st7_ hw BK3 HB (by have := HS.out; omega); clear hw; replace HO4_0 := aSk HO4_0 hkp HS; replace HO4_1 := aSk HO4_1 hkp HS; replace HO4_2 := aSk HO4_2 hkp HS; replace HO4_3 := aRk HO4_3 hkp HS; replace BK1 := aBk BK1 hkp HS; replace BK2 := aBk BK2 hkp HS; replace BK5 := aBk BK5 hkp HS; replace BK3 := A_.mk hbx; replace HB := A_.mk hbb; replace HS := aHs HS hkp.1; clear hkp hbb hbx Q1 Q2 Q3 Q5; have Q1 := blk7_ BK1.out; have Q2 := blk2_ BK2.out; have Q3 := blk7_ BK3.out; have Q5 := blk7_ BK5.out))
 refine bodyPost_ret (results_ct rfl _ _ gb3_ 34 #[.int .i64 t1, .slice Ao4_0 t2.length co4_0, .int .i64 t3, .int .i64 t4, .slice Ao4_1 t5.length co4_1, .slice Ao4_2 t6.length co4_2, .slice Ao4_3 t7.length co4_3] (0, 0) _ rfl BK3.out Try.underlying34 rfl (by kernel_rfl)) rfl ?_
 obtain ⟨f_, hf_⟩ : ∃ f_ : Nat → Nat, ∀ k_, f_ k_ = (if ((w3_.heap.size ≤ k_ ∧ k_ < w4_.heap.size) ∧ f4_ k_ = 0) then 0 else (if ((w3_.heap.size ≤ k_ ∧ k_ < w4_.heap.size) ∧ f4_ k_ = 1) then 1 else (if ((w3_.heap.size ≤ k_ ∧ k_ < w4_.heap.size) ∧ f4_ k_ = 2) then 2 else (if ((w3_.heap.size ≤ k_ ∧ k_ < w4_.heap.size) ∧ f4_ k_ = 3) then 3 else 0)))) := ⟨fun k_ => (if ((w3_.heap.size ≤ k_ ∧ k_ < w4_.heap.size) ∧ f4_ k_ = 0) then 0 else (if ((w3_.heap.size ≤ k_ ∧ k_ < w4_.heap.size) ∧ f4_ k_ = 1) then 1 else (if ((w3_.heap.size ≤ k_ ∧ k_ < w4_.heap.size) ∧ f4_ k_ = 2) then 2 else (if ((w3_.heap.size ≤ k_ ∧ k_ < w4_.heap.size) ∧ f4_ k_ = 3) then 3 else 0)))), fun _ => rfl⟩
 have hcol0_ : ∀ k_, (((w3_.heap.size ≤ k_ ∧ k_ < w4_.heap.size) ∧ f4_ k_ = 0)) → f_ k_ = 0 := fun k_ hk_ => by rw [hf_]; have := HS.out; repeat' (first | omega | split)
 have hcol1_ : ∀ k_, (((w3_.heap.size ≤ k_ ∧ k_ < w4_.heap.size) ∧ f4_ k_ = 1)) → f_ k_ = 1 := fun k_ hk_ => by rw [hf_]; have := HS.out; repeat' (first | omega | split)
 have hcol2_ : ∀ k_, (((w3_.heap.size ≤ k_ ∧ k_ < w4_.heap.size) ∧ f4_ k_ = 2)) → f_ k_ = 2 := fun k_ hk_ => by rw [hf_]; have := HS.out; repeat' (first | omega | split)
 have hcol3_ : ∀ k_, (((w3_.heap.size ≤ k_ ∧ k_ < w4_.heap.size) ∧ f4_ k_ = 3)) → f_ k_ = 3 := fun k_ hk_ => by rw [hf_]; have := HS.out; repeat' (first | omega | split)
 exact ⟨f_, _, _, _, _, rfl, Kd.S_mono HO4_0.out hcol0_, Kd.S_mono HO4_1.out hcol1_, Kd.S_mono HO4_2.out hcol2_, Kd.R_mono HO4_3.out hcol3_, HB.out⟩
/-! ### laws_btoi: function 8 -/
def laws_btoi.f (a0 : Bool) : Option (Int) := if a0 = true then (some 1) else (some 0)
set_option maxHeartbeats 8000000 in
set_option maxRecDepth 100000 in
theorem laws_btoi.calls (a0 : Bool) (r : Int) (w : World) (h : laws_btoi.f a0 = some r) :
  Calls Try.prog 8 #[.bool a0] w fun e w' => e = .returned (.int .i64 r) ∧ Drawn0 w w' := by
 have H : (if a0 = true then (some 1) else (some 0)) = some r := h
 clear h
 by_cases c2 : a0 = true
 ·subst c2
  have H1 : (some 1) = some r := by rw [if_pos rfl] at H; exact H
  clear H
  have H := H1
  clear H1
  obtain rfl := Option.some.inj H
  go_enter Try.func8, Try.ntmps8
  go_wp2
  go_ret
  exact ⟨by first | rfl | (simp; done) | (simp [*]; done), by repeat (first | exact Drawn0.refl _ | apply Drawn0.step)⟩
 ·replace c2 := Bool.eq_false_iff.mpr c2
  subst c2
  have H1 : (some 0) = some r := by rw [if_neg (show ¬ (false = true) by decide)] at H; exact H
  clear H
  have H := H1
  clear H1
  obtain rfl := Option.some.inj H
  go_enter Try.func8, Try.ntmps8
  go_wp2
  go_ret
  exact ⟨by first | rfl | (simp; done) | (simp [*]; done), by repeat (first | exact Drawn0.refl _ | apply Drawn0.step)⟩

/-! ### impl_DrainLink: function 9, its calls in a row -/
def impl_DrainLink.l10 : Nat → (Int) → (List S68) → (Int) → (Int) → (List (List Int)) → (List (List Int)) → (List Int) → Option ((Int) × (List S68) × (Int) × (Int) × (List (List Int)) × (List (List Int)) × (List Int))
 | 0, _, _, _, _, _, _, _ => none
 | k + 1, x10_0, x10_1, x10_2, x10_3, x10_4, x10_5, x10_6 => ((impl_Link_send.f k x10_0 x10_1 x10_2 x10_3 x10_4 x10_5 x10_6).bind fun ⟨t17, t18, t19, t20, t21, t22, t23, t24⟩ => (if t17 = true then (impl_DrainLink.l10 k t18 t19 t20 t21 t22 t23 t24) else (some (t18, t19, t20, t21, t22, t23, t24))))
def impl_DrainLink.l12 : Nat → (Int) → (List S68) → (Int) → (Int) → (List (List Int)) → (List (List Int)) → (List Int) → Option ((Int) × (List S68) × (Int) × (Int) × (List (List Int)) × (List (List Int)) × (List Int))
 | 0, _, _, _, _, _, _, _ => none
 | k + 1, x12_0, x12_1, x12_2, x12_3, x12_4, x12_5, x12_6 => ((impl_Link_deliver.f k x12_0 x12_1 x12_2 x12_3 x12_4 x12_5 x12_6).bind fun ⟨t25, t26, t27, t28, t29, t30, t31, t32⟩ => (if t25 = true then (impl_DrainLink.l12 k t26 t27 t28 t29 t30 t31 t32) else (some (t26, t27, t28, t29, t30, t31, t32))))
def impl_DrainLink.l14 : Nat → (Int) → (List S68) → (Int) → (Int) → (List (List Int)) → (List (List Int)) → (List Int) → Option ((Int) × (List S68) × (Int) × (Int) × (List (List Int)) × (List (List Int)) × (List Int))
 | 0, _, _, _, _, _, _, _ => none
 | k + 1, x14_0, x14_1, x14_2, x14_3, x14_4, x14_5, x14_6 => ((impl_Link_answer.f k x14_0 x14_1 x14_2 x14_3 x14_4 x14_5 x14_6).bind fun ⟨t33, t34, t35, t36, t37, t38, t39, t40⟩ => (if t33 = true then (impl_DrainLink.l14 k t34 t35 t36 t37 t38 t39 t40) else (some (t34, t35, t36, t37, t38, t39, t40))))
def impl_DrainLink.l7 : Nat → (Int) → (Int) → (List S68) → (Int) → (Int) → (List (List Int)) → (List (List Int)) → (List Int) → Option ((Int) × (Int) × (List S68) × (Int) × (Int) × (List (List Int)) × (List (List Int)) × (List Int))
 | 0, _, _, _, _, _, _, _, _ => none
 | k + 1, x7_s10, x7_0, x7_1, x7_2, x7_3, x7_4, x7_5, x7_6 => (if x7_s10 < 200 then (if ((x7_1.length : Int) = 0 ∧ ((x7_5.length : Int) = 0 ∧ (x7_6.length : Int) = 0)) then (some (x7_s10, x7_0, x7_1, x7_2, x7_3, x7_4, x7_5, x7_6)) else ((impl_Link_step.f k x7_0 x7_1 x7_2 x7_3 x7_4 x7_5 x7_6 6 0).bind fun ⟨t9, t10, t11, t12, t13, t14, t15, t16⟩ => ((impl_DrainLink.l10 k t10 t11 t12 t13 t14 t15 t16).bind fun ⟨z10_0, z10_1, z10_2, z10_3, z10_4, z10_5, z10_6⟩ => ((impl_DrainLink.l12 k z10_0 z10_1 z10_2 z10_3 z10_4 z10_5 z10_6).bind fun ⟨z12_0, z12_1, z12_2, z12_3, z12_4, z12_5, z12_6⟩ => ((impl_DrainLink.l14 k z12_0 z12_1 z12_2 z12_3 z12_4 z12_5 z12_6).bind fun ⟨z14_0, z14_1, z14_2, z14_3, z14_4, z14_5, z14_6⟩ => (impl_DrainLink.l7 k (wrap64 (x7_s10 + 1)) z14_0 z14_1 z14_2 z14_3 z14_4 z14_5 z14_6)))))) else (some (x7_s10, x7_0, x7_1, x7_2, x7_3, x7_4, x7_5, x7_6)))
def impl_DrainLink.f (k : Nat) (a0_0 : Int) (l0_1 : List (S68)) (a0_2 : Int) (a0_3 : Int) (l0_4 : List (List Int)) (l0_5 : List (List Int)) (l0_6 : List Int) : Option ((Int) × (List (S68)) × (Int) × (Int) × (List (List Int)) × (List (List Int)) × (List Int)) := ((impl_copyLink.f k a0_0 l0_1 a0_2 a0_3 l0_4 l0_5 l0_6).bind fun ⟨t1, t2, t3, t4, t5, t6, t7⟩ => ((impl_LinkOk.f k a0_0 l0_1 a0_2 a0_3 l0_4 l0_5 l0_6).bind fun t8 => (if t8 = true then ((impl_DrainLink.l7 k 0 t1 t2 t3 t4 t5 t6 t7).bind fun ⟨z7_s10, z7_0, z7_1, z7_2, z7_3, z7_4, z7_5, z7_6⟩ => (some (z7_0, z7_1, z7_2, z7_3, z7_4, z7_5, z7_6))) else (some (t1, t2, t3, t4, t5, t6, t7)))))
set_option maxHeartbeats 8000000 in
set_option maxRecDepth 100000 in
theorem impl_DrainLink.calls (k : Nat) (a0_0 : Int) (A0_1 : Option Addr) (c0_1 : Nat) (l0_1 : List (S68)) (a0_2 : Int) (a0_3 : Int) (A0_4 : Option Addr) (c0_4 : Nat) (l0_4 : List (List Int)) (A0_5 : Option Addr) (c0_5 : Nat) (l0_5 : List (List Int)) (A0_6 : Option Addr) (c0_6 : Nat) (l0_6 : List Int) (r1 : Int) (r2 : List (S68)) (r3 : Int) (r4 : Int) (r5 : List (List Int)) (r6 : List (List Int)) (r7 : List Int) (w : World) (hr0_1 : Kd.C k68 w A0_1 l0_1.length l0_1) (hc0_1 : l0_1.length ≤ c0_1) (hr0_4 : Kd.C (Kd.slice 3 (Kd.int .i64)) w A0_4 l0_4.length l0_4) (hc0_4 : l0_4.length ≤ c0_4) (hr0_5 : Kd.C (Kd.slice 3 (Kd.int .i64)) w A0_5 l0_5.length l0_5) (hc0_5 : l0_5.length ≤ c0_5) (hr0_6 : Kd.C (Kd.int .i64) w A0_6 l0_6.length l0_6) (hc0_6 : l0_6.length ≤ c0_6) (h : impl_DrainLink.f k a0_0 l0_1 a0_2 a0_3 l0_4 l0_5 l0_6 = some (r1, r2, r3, r4, r5, r6, r7)) :
  Calls Try.prog 9 #[.agg #[.int .i64 a0_0, .slice A0_1 l0_1.length c0_1, .int .i64 a0_2, .int .i64 a0_3, .slice A0_4 l0_4.length c0_4, .slice A0_5 l0_5.length c0_5, .slice A0_6 l0_6.length c0_6]] w fun e w' => ∃ f_ : Nat → Nat, ∃ v0_ v1_ v2_ v3_ : Value, e = .returned (.agg #[.int .i64 r1, v0_, .int .i64 r3, .int .i64 r4, v1_, v2_, v3_]) ∧ Kd.S k68 68 w' w.heap.size (fun k_ => f_ k_ = 0) v0_ r2 ∧ Kd.S (Kd.slice 3 (Kd.int .i64)) 32 w' w.heap.size (fun k_ => f_ k_ = 1) v1_ r5 ∧ Kd.S (Kd.slice 3 (Kd.int .i64)) 32 w' w.heap.size (fun k_ => f_ k_ = 2) v2_ r6 ∧ Kd.R (Kd.int .i64) 3 w' w.heap.size (fun k_ => f_ k_ = 3) v3_ r7 ∧ Below w.heap.size w w' := by
 have HR0_1 := A_.mk hr0_1
 have HC0_1 := A_.mk hc0_1
 clear hr0_1 hc0_1
 have HR0_4 := A_.mk hr0_4
 have HC0_4 := A_.mk hc0_4
 clear hr0_4 hc0_4
 have HR0_5 := A_.mk hr0_5
 have HC0_5 := A_.mk hc0_5
 clear hr0_5 hc0_5
 have HR0_6 := A_.mk hr0_6
 have HC0_6 := A_.mk hc0_6
 clear hr0_6 hc0_6
 have HB := A_.mk (Below.refl w.heap.size w)
 unfold impl_DrainLink.f at h
 have H := h
 clear h
 replace H := oa_ H
 obtain ⟨⟨t1, t2, t3, t4, t5, t6, t7⟩, A3, H⟩ := H
 try dsimp only at H
 replace H := oa_ H
 obtain ⟨t8, A6, H⟩ := H
 replace H := A_.mk H
 have hu34 := Try.underlying34
 go_enter Try.func9, Try.ntmps9
 have HS := A_.mk (Nat.le_refl w.heap.size)
 go_wp2_with (first | ((with_reducible refine gd_ (N := 1) rfl ?_); refine by_ 1 (cs := #[.int .i64 a0_0, .slice A0_1 l0_1.length c0_1, .int .i64 a0_2, .int .i64 a0_3, .slice A0_4 l0_4.length c0_4, .slice A0_5 l0_5.length c0_5, .slice A0_6 l0_6.length c0_6]) (t := 34) ?_; intro gb1_ hg w1_ hbox hb; replace HS := A_.mk (And.intro HS.out (show gb1_ = w.heap.size ∧ gb1_ < w1_.heap.size from ⟨hg, blk_lt hbox⟩)); replace HB := aHB HB hb; have BK1 := A_.mk hbox; clear hbox hb hg; have Q1 := blk7_ BK1.out) | ((with_reducible refine gd_ (N := 2) rfl ?_); refine by_ 2 (cs := #[.int .i64 0, .slice none 0 0, .int .i64 0, .int .i64 0, .slice none 0 0, .slice none 0 0, .slice none 0 0]) (t := 34) ?_; intro gb2_ hg w2_ hbox hb; replace HS := A_.mk (And.intro HS.out (show gb2_ = w1_.heap.size ∧ gb2_ < w2_.heap.size from ⟨hg, blk_lt hbox⟩)); replace BK1 := aBb BK1 hb; replace HB := aHB HB hb; have BK2 := A_.mk hbox; clear hbox hb hg Q1; have Q1 := blk7_ BK1.out; have Q2 := blk7_ BK2.out) | ((with_reducible refine gc_ (f := 13) rfl ?_); refine gl_ (some 5) Try.func13 #[.agg #[.int .i64 a0_0, .slice A0_1 l0_1.length c0_1, .int .i64 a0_2, .int .i64 a0_3, .slice A0_4 l0_4.length c0_4, .slice A0_5 l0_5.length c0_5, .slice A0_6 l0_6.length c0_6]] ?_; (with_reducible refine (impl_copyLink.calls k a0_0 _ _ l0_1 a0_2 a0_3 _ _ l0_4 _ _ l0_5 _ _ l0_6 t1 t2 t3 t4 t5 t6 t7 _ (Kd.C_below HR0_1.out HB.out) HC0_1.out (Kd.C_below HR0_4.out HB.out) HC0_4.out (Kd.C_below HR0_5.out HB.out) HC0_5.out (Kd.C_below HR0_6.out HB.out) HC0_6.out A3.out).mono ?_); rintro e w3_ ⟨f3_, v0_, v1_, v2_, v3_, rfl, ho0_, ho1_, ho2_, ho3_, hb⟩; refine ⟨_, rfl, ?_⟩; replace HS := aHs HS hb.size; obtain ⟨Ao3_0, co3_0, ev_⟩ := Kd.S_slice ho0_; subst ev_; have HO3_0 := aSn ho0_ HB.out.size; obtain ⟨Ao3_1, co3_1, ev_⟩ := Kd.S_slice ho1_; subst ev_; have HO3_1 := aSn ho1_ HB.out.size; obtain ⟨Ao3_2, co3_2, ev_⟩ := Kd.S_slice ho2_; subst ev_; have HO3_2 := aSn ho2_ HB.out.size; obtain ⟨Ao3_3, co3_3, ev_⟩ := Kd.R_slice ho3_; subst ev_; have HO3_3 := aRn ho3_ HB.out.size; replace BK1 := aBb BK1 hb; replace BK2 := aBb BK2 hb; replace HB := aHB HB hb; clear hb ho0_ ho1_ ho2_ ho3_ Q1 Q2; have Q1 := blk7_ BK1.out; have Q2 := blk7_ BK2.out) | ((with_reducible refine gd_ (N := 3) rfl ?_); refine by_ 3 (cs := #[.int .i64 0, .slice none 0 0, .int .i64 0, .int .i64 0, .slice none 0 0, .slice none 0 0, .slice none 0 0]) (t := 34) ?_; intro gb4_ hg w4_ hbox hb; replace HS := A_.mk (And.intro HS.out (show gb4_ = w3_.heap.size ∧ gb4_ < w4_.heap.size from ⟨hg, blk_lt hbox⟩)); replace HO3_0 := aSb HO3_0 hb; replace HO3_1 := aSb HO3_1 hb; replace HO3_2 := aSb HO3_2 hb; replace HO3_3 := aRb HO3_3 hb; replace BK1 := aBb BK1 hb; replace BK2 := aBb BK2 hb; replace HB := aHB HB hb; have BK4 := A_.mk hbox; clear hbox hb hg Q1 Q2; have Q1 := blk7_ BK1.out; have Q2 := blk7_ BK2.out; have Q4 := blk7_ BK4.out) | ((with_reducible refine gate_store (t := 34) (p := 3) rfl ?_); have qf0 := bf_ BK4.out 0; have qf1 := bf_ BK4.out 1; have qf2 := bf_ BK4.out 2; have qf3 := bf_ BK4.out 3; have qf4 := bf_ BK4.out 4; have qf5 := bf_ BK4.out 5; have qf6 := bf_ BK4.out 6; refine se_ (t := 34) (p := 3) (v := ?vo_5) (w1 := (ch7_ w4_ gb4_ (.int .i64 t1) (.slice Ao3_0 t2.length co3_0) (.int .i64 t3) (.int .i64 t4) (.slice Ao3_1 t5.length co3_1) (.slice Ao3_2 t6.length co3_2) (.slice Ao3_3 t7.length co3_3))) ?hg ?ho ?hn ?hr ?_; (case ho => rfl); (case hg => rfl); (case hn => rfl); (case hr => first | (go_simp; done) | (go_simp; rfl)); intro w5_ hw; clear qf0 qf1 qf2 qf3 qf4 qf5 qf6; obtain ⟨hbx, hkp, hbb⟩ := st7_ hw BK4 HB (by have := HS.out; omega); clear hw; replace HO3_0 := aSk HO3_0 hkp HS; replace HO3_1 := aSk HO3_1 hkp HS; replace HO3_2 := aSk HO3_2 hkp HS; replace HO3_3 := aRk HO3_3 hkp HS; replace BK1 := aBk BK1 hkp HS; replace BK2 := aBk BK2 hkp HS; replace BK4 := A_.mk hbx; replace HB := A_.mk hbb; replace HS := aHs HS hkp.1; clear hkp hbb hbx Q1 Q2 Q4; have Q1 := blk7_ BK1.out; have Q2 := blk7_ BK2.out; have Q4 := blk7_ BK4.out))
 (with_reducible refine (impl_LinkOk.calls k a0_0 _ _ l0_1 a0_2 a0_3 _ _ l0_4 _ _ l0_5 _ _ l0_6 t8 _ (Kd.C_below HR0_1.out HB.out) HC0_1.out (Kd.C_below HR0_4.out HB.out) HC0_4.out (Kd.C_below HR0_5.out HB.out) HC0_5.out (Kd.C_below HR0_6.out HB.out) HC0_6.out A6.out).mono ?_)
 rintro e w6_ ⟨rfl, hb⟩
 replace HS := aHs HS hb.size
 replace HO3_0 := aSb HO3_0 hb
 replace HO3_1 := aSb HO3_1 hb
 replace HO3_2 := aSb HO3_2 hb
 replace HO3_3 := aRb HO3_3 hb
 replace BK1 := aBb BK1 hb
 replace BK2 := aBb BK2 hb
 replace BK4 := aBb BK4 hb
 replace HB := aHB HB hb
 clear hb  Q1 Q2 Q4
 have Q1 := blk7_ BK1.out
 have Q2 := blk7_ BK2.out
 have Q4 := blk7_ BK4.out
 replace H := H.out
 by_cases hc1_ : t8 = true
 case neg =>
  rw [if_neg hc1_] at H
  replace hc1_ := eq_false_of_ne_true hc1_
  subst hc1_
  simp only [Option.some.injEq, Prod.mk.injEq] at H
  obtain ⟨rfl, rfl, rfl, rfl, rfl, rfl, rfl⟩ := H
  go_wp2_with (first | ((with_reducible refine gate_store (t := 34) (p := 2) rfl ?_); have qf0 := bf_ BK2.out 0; have qf1 := bf_ BK2.out 1; have qf2 := bf_ BK2.out 2; have qf3 := bf_ BK2.out 3; have qf4 := bf_ BK2.out 4; have qf5 := bf_ BK2.out 5; have qf6 := bf_ BK2.out 6; refine se_ (t := 34) (p := 2) (v := ?vo_17) (w1 := (ch7_ w6_ gb2_ (.int .i64 t1) (.slice Ao3_0 t2.length co3_0) (.int .i64 t3) (.int .i64 t4) (.slice Ao3_1 t5.length co3_1) (.slice Ao3_2 t6.length co3_2) (.slice Ao3_3 t7.length co3_3))) ?hg ?ho ?hn ?hr ?_; (case ho => rfl); (case hg => rfl); (case hn => rfl); (case hr => first | (go_simp; done) | (go_simp; rfl)); intro w17_ hw; clear qf0 qf1 qf2 qf3 qf4 qf5 qf6; obtain ⟨hbx, hkp, hbb⟩ := st7_ hw BK2 HB (by have := HS.out; omega); clear hw; replace HO3_0 := aSk HO3_0 hkp HS; replace HO3_1 := aSk HO3_1 hkp HS; replace HO3_2 := aSk HO3_2 hkp HS; replace HO3_3 := aRk HO3_3 hkp HS; replace BK1 := aBk BK1 hkp HS; replace BK4 := aBk BK4 hkp HS; replace BK2 := A_.mk hbx; replace HB := A_.mk hbb; replace HS := aHs HS hkp.1; clear hkp hbb hbx Q1 Q2 Q4; have Q1 := blk7_ BK1.out; have Q2 := blk7_ BK2.out; have Q4 := blk7_ BK4.out))
  refine bodyPost_ret (results_cell_row rfl _ _ gb2_ 34 #[.int .i64 t1, .slice Ao3_0 t2.length co3_0, .int .i64 t3, .int .i64 t4, .slice Ao3_1 t5.length co3_1, .slice Ao3_2 t6.length co3_2, .slice Ao3_3 t7.length co3_3] (0, 0) _ rfl BK2.out Try.underlying34 rfl (by kernel_rfl)) rfl ?_
  obtain ⟨f_, hf_⟩ : ∃ f_ : Nat → Nat, ∀ k_, f_ k_ = (if ((w2_.heap.size ≤ k_ ∧ k_ < w3_.heap.size) ∧ f3_ k_ = 0) then 0 else (if ((w2_.heap.size ≤ k_ ∧ k_ < w3_.heap.size) ∧ f3_ k_ = 1) then 1 else (if ((w2_.heap.size ≤ k_ ∧ k_ < w3_.heap.size) ∧ f3_ k_ = 2) then 2 else (if ((w2_.heap.size ≤ k_ ∧ k_ < w3_.heap.size) ∧ f3_ k_ = 3) then 3 else 0)))) := ⟨fun k_ => (if ((w2_.heap.size ≤ k_ ∧ k_ < w3_.heap.size) ∧ f3_ k_ = 0) then 0 else (if ((w2_.heap.size ≤ k_ ∧ k_ < w3_.heap.size) ∧ f3_ k_ = 1) then 1 else (if ((w2_.heap.size ≤ k_ ∧ k_ < w3_.heap.size) ∧ f3_ k_ = 2) then 2 else (if ((w2_.heap.size ≤ k_ ∧ k_ < w3_.heap.size) ∧ f3_ k_ = 3) then 3 else 0)))), fun _ => rfl⟩
  have hcol0_ : ∀ k_, (((w2_.heap.size ≤ k_ ∧ k_ < w3_.heap.size) ∧ f3_ k_ = 0)) → f_ k_ = 0 := fun k_ hk_ => by rw [hf_]; have := HS.out; repeat' (first | omega | split)
  have hcol1_ : ∀ k_, (((w2_.heap.size ≤ k_ ∧ k_ < w3_.heap.size) ∧ f3_ k_ = 1)) → f_ k_ = 1 := fun k_ hk_ => by rw [hf_]; have := HS.out; repeat' (first | omega | split)
  have hcol2_ : ∀ k_, (((w2_.heap.size ≤ k_ ∧ k_ < w3_.heap.size) ∧ f3_ k_ = 2)) → f_ k_ = 2 := fun k_ hk_ => by rw [hf_]; have := HS.out; repeat' (first | omega | split)
  have hcol3_ : ∀ k_, (((w2_.heap.size ≤ k_ ∧ k_ < w3_.heap.size) ∧ f3_ k_ = 3)) → f_ k_ = 3 := fun k_ hk_ => by rw [hf_]; have := HS.out; repeat' (first | omega | split)
  exact ⟨f_, _, _, _, _, rfl, Kd.S_mono HO3_0.out hcol0_, Kd.S_mono HO3_1.out hcol1_, Kd.S_mono HO3_2.out hcol2_, Kd.R_mono HO3_3.out hcol3_, HB.out⟩
 rw [if_pos hc1_] at H
 subst hc1_
 replace H := ob_ H
 obtain ⟨⟨z7_s10, z7_0, z7_1, z7_2, z7_3, z7_4, z7_5, z7_6⟩, AL_, H⟩ := H
 have HRL7 := A_.mk H
 have AL7 := A_.mk AL_
 clear H AL_
 go_wp2
 obtain ⟨fp18_, hfp_⟩ : ∃ f_ : Nat → Nat, ∀ k_, f_ k_ = (if ((w2_.heap.size ≤ k_ ∧ k_ < w3_.heap.size) ∧ f3_ k_ = 0) then 0 else (if ((w2_.heap.size ≤ k_ ∧ k_ < w3_.heap.size) ∧ f3_ k_ = 1) then 1 else (if ((w2_.heap.size ≤ k_ ∧ k_ < w3_.heap.size) ∧ f3_ k_ = 2) then 2 else (if ((w2_.heap.size ≤ k_ ∧ k_ < w3_.heap.size) ∧ f3_ k_ = 3) then 3 else 4)))) := ⟨fun k_ => (if ((w2_.heap.size ≤ k_ ∧ k_ < w3_.heap.size) ∧ f3_ k_ = 0) then 0 else (if ((w2_.heap.size ≤ k_ ∧ k_ < w3_.heap.size) ∧ f3_ k_ = 1) then 1 else (if ((w2_.heap.size ≤ k_ ∧ k_ < w3_.heap.size) ∧ f3_ k_ = 2) then 2 else (if ((w2_.heap.size ≤ k_ ∧ k_ < w3_.heap.size) ∧ f3_ k_ = 3) then 3 else 4)))), fun _ => rfl⟩
 have hcp0_ : ∀ k_, (((w2_.heap.size ≤ k_ ∧ k_ < w3_.heap.size) ∧ f3_ k_ = 0)) → ((w.heap.size ≤ k_ ∧ k_ < w6_.heap.size) ∧ fp18_ k_ = 0) := fun k_ hk_ => ⟨by have := HS.out; omega, by rw [hfp_]; have := HS.out; repeat' (first | omega | split)⟩
 have hcp1_ : ∀ k_, (((w2_.heap.size ≤ k_ ∧ k_ < w3_.heap.size) ∧ f3_ k_ = 1)) → ((w.heap.size ≤ k_ ∧ k_ < w6_.heap.size) ∧ fp18_ k_ = 1) := fun k_ hk_ => ⟨by have := HS.out; omega, by rw [hfp_]; have := HS.out; repeat' (first | omega | split)⟩
 have hcp2_ : ∀ k_, (((w2_.heap.size ≤ k_ ∧ k_ < w3_.heap.size) ∧ f3_ k_ = 2)) → ((w.heap.size ≤ k_ ∧ k_ < w6_.heap.size) ∧ fp18_ k_ = 2) := fun k_ hk_ => ⟨by have := HS.out; omega, by rw [hfp_]; have := HS.out; repeat' (first | omega | split)⟩
 have hcp3_ : ∀ k_, (((w2_.heap.size ≤ k_ ∧ k_ < w3_.heap.size) ∧ f3_ k_ = 3)) → ((w.heap.size ≤ k_ ∧ k_ < w6_.heap.size) ∧ fp18_ k_ = 3) := fun k_ hk_ => ⟨by have := HS.out; omega, by rw [hfp_]; have := HS.out; repeat' (first | omega | split)⟩
 have hfb1_ : fp18_ gb1_ = 4 := by rw [hfp_]; have := HS.out; repeat' (first | omega | split)
 have hfb2_ : fp18_ gb2_ = 4 := by rw [hfp_]; have := HS.out; repeat' (first | omega | split)
 have hfb4_ : fp18_ gb4_ = 4 := by rw [hfp_]; have := HS.out; repeat' (first | omega | split)
 go_loopg [10] k (fun kq v10 w' => ∃ (fx7_ : Nat → Nat) (Ax7_1 : Option Addr) (Ax7_4 : Option Addr) (Ax7_5 : Option Addr) (Ax7_6 : Option Addr) (cx7_1 : Nat) (cx7_4 : Nat) (cx7_5 : Nat) (cx7_6 : Nat) (x7_s10 : Int) (x7_0 : Int) (x7_1 : List S68) (x7_2 : Int) (x7_3 : Int) (x7_4 : List (List Int)) (x7_5 : List (List Int)) (x7_6 : List Int), v10 = .int .i64 x7_s10 ∧ A_ (impl_DrainLink.l7 kq x7_s10 x7_0 x7_1 x7_2 x7_3 x7_4 x7_5 x7_6 = some (z7_s10, z7_0, z7_1, z7_2, z7_3, z7_4, z7_5, z7_6)) ∧ A_ (kq ≤ k) ∧ A_ (w'.heap[gb4_]? = some (.cells #[.int .i64 x7_0, .slice Ax7_1 x7_1.length cx7_1, .int .i64 x7_2, .int .i64 x7_3, .slice Ax7_4 x7_4.length cx7_4, .slice Ax7_5 x7_5.length cx7_5, .slice Ax7_6 x7_6.length cx7_6] 34 (0, 0))) ∧ A_ (Kd.S k68 68 w' w.heap.size (fun k_ => (w.heap.size ≤ k_ ∧ k_ < w'.heap.size) ∧ fx7_ k_ = 0) (.slice Ax7_1 x7_1.length cx7_1) x7_1) ∧ A_ (Kd.S (Kd.slice 3 (Kd.int .i64)) 32 w' w.heap.size (fun k_ => (w.heap.size ≤ k_ ∧ k_ < w'.heap.size) ∧ fx7_ k_ = 1) (.slice Ax7_4 x7_4.length cx7_4) x7_4) ∧ A_ (Kd.S (Kd.slice 3 (Kd.int .i64)) 32 w' w.heap.size (fun k_ => (w.heap.size ≤ k_ ∧ k_ < w'.heap.size) ∧ fx7_ k_ = 2) (.slice Ax7_5 x7_5.length cx7_5) x7_5) ∧ A_ (Kd.R (Kd.int .i64) 3 w' w.heap.size (fun k_ => (w.heap.size ≤ k_ ∧ k_ < w'.heap.size) ∧ fx7_ k_ = 3) (.slice Ax7_6 x7_6.length cx7_6) x7_6) ∧ A_ (w'.heap[gb1_]? = some (.cells #[.int .i64 a0_0, .slice A0_1 l0_1.length c0_1, .int .i64 a0_2, .int .i64 a0_3, .slice A0_4 l0_4.length c0_4, .slice A0_5 l0_5.length c0_5, .slice A0_6 l0_6.length c0_6] 34 (0, 0))) ∧ A_ (w'.heap[gb2_]? = some (.cells #[.int .i64 0, .slice none 0 0, .int .i64 0, .int .i64 0, .slice none 0 0, .slice none 0 0, .slice none 0 0] 34 (0, 0))) ∧ A_ (4 ≤ fx7_ gb4_) ∧ A_ (4 ≤ fx7_ gb1_) ∧ A_ (4 ≤ fx7_ gb2_) ∧ A_ (Below w.heap.size w w') ∧ A_ (w6_.heap.size ≤ w'.heap.size))
 case atStart => exact ⟨fp18_, Ao3_0, Ao3_1, Ao3_2, Ao3_3, co3_0, co3_1, co3_2, co3_3, 0, t1, t2, t3, t4, t5, t6, t7, (by first | rfl | (simp; done) | (simp [*]; done)), AL7, ⟨Nat.le_refl _⟩, BK4, ⟨Kd.S_mono HO3_0.out hcp0_⟩, ⟨Kd.S_mono HO3_1.out hcp1_⟩, ⟨Kd.S_mono HO3_2.out hcp2_⟩, ⟨Kd.R_mono HO3_3.out hcp3_⟩, BK1, BK2, ⟨Nat.le_of_eq hfb4_.symm⟩, ⟨Nat.le_of_eq hfb1_.symm⟩, ⟨Nat.le_of_eq hfb2_.symm⟩, HB, ⟨Nat.le_refl _⟩⟩
 case round =>
  clear AL7 HB BK1 BK2 BK4 HO3_0 HO3_1 HO3_2 HO3_3 Q1 Q2 Q4 hfp_ hcp0_ hcp1_ hcp2_ hcp3_ hfb1_ hfb2_ hfb4_
  obtain ⟨fx7_, Ax7_1, Ax7_4, Ax7_5, Ax7_6, cx7_1, cx7_4, cx7_5, cx7_6, x7_s10, x7_0, x7_1, x7_2, x7_3, x7_4, x7_5, x7_6, rfl, HA, HKL7, BK4, HOx7_1, HOx7_4, HOx7_5, HOx7_6, BK1, BK2, HG4_, HG1_, HG2_, HB, HSL_⟩ := hrel
  rename World => wq7_
  replace HS := aHs HS HSL_.out
  clear HSL_
  replace HS := aHs HS HG4_.out
  clear HG4_
  replace HS := aHs HS HG1_.out
  clear HG1_
  replace HS := aHs HS HG2_.out
  clear HG2_
  cases gk with
  | zero => exact absurd HA.out (by simp [impl_DrainLink.l7])
  | succ kq7_ =>
   have H := HA.out
   clear HA
   simp only [impl_DrainLink.l7] at H
   have Q1 := blk7_ BK1.out
   have Q2 := blk7_ BK2.out
   have Q4 := blk7_ BK4.out
   by_cases hc2_ : x7_s10 < 200
   case neg =>
    rw [if_neg hc2_] at H
    have hc2_b0 : decide (x7_s10 < 200) = false := decide_eq_false hc2_
    replace hc2_ := A_.mk hc2_
    simp only [Option.some.injEq, Prod.mk.injEq] at H
    obtain ⟨rfl, rfl, rfl, rfl, rfl, rfl, rfl, rfl⟩ := H
    have H := HRL7.out
    clear HRL7
    (try dsimp only at H)
    simp only [Option.some.injEq, Prod.mk.injEq] at H
    obtain ⟨rfl, rfl, rfl, rfl, rfl, rfl, rfl⟩ := H
    go_wp2_with (first | ((with_reducible refine gate_store (t := 34) (p := 2) rfl ?_); have qf0 := bf_ BK2.out 0; have qf1 := bf_ BK2.out 1; have qf2 := bf_ BK2.out 2; have qf3 := bf_ BK2.out 3; have qf4 := bf_ BK2.out 4; have qf5 := bf_ BK2.out 5; have qf6 := bf_ BK2.out 6; refine se_ (t := 34) (p := 2) (v := ?vo_16) (w1 := (ch7_ wq7_ gb2_ (.int .i64 x7_0) (.slice Ax7_1 x7_1.length cx7_1) (.int .i64 x7_2) (.int .i64 x7_3) (.slice Ax7_4 x7_4.length cx7_4) (.slice Ax7_5 x7_5.length cx7_5) (.slice Ax7_6 x7_6.length cx7_6))) ?hg ?ho ?hn ?hr ?_; (case ho => rfl); (case hg => rfl); (case hn => rfl); (case hr => first | (go_simp; done) | (go_simp; rfl)); intro w16_ hw; clear qf0 qf1 qf2 qf3 qf4 qf5 qf6; obtain ⟨hbx, hkp, hbb⟩ := st7_ hw BK2 HB (by have := HS.out; omega); clear hw; replace HOx7_1 := aSk HOx7_1 hkp HS; replace HOx7_4 := aSk HOx7_4 hkp HS; replace HOx7_5 := aSk HOx7_5 hkp HS; replace HOx7_6 := aRk HOx7_6 hkp HS; replace BK1 := aBk BK1 hkp HS; replace BK4 := aBk BK4 hkp HS; replace BK2 := A_.mk hbx; replace HB := A_.mk hbb; replace HS := aHs HS hkp.1; clear hkp hbb hbx Q1 Q2 Q4; have Q1 := blk7_ BK1.out; have Q2 := blk7_ BK2.out; have Q4 := blk7_ BK4.out))
    refine bodyPost_ret (results_cell_row rfl _ _ gb2_ 34 #[.int .i64 x7_0, .slice Ax7_1 x7_1.length cx7_1, .int .i64 x7_2, .int .i64 x7_3, .slice Ax7_4 x7_4.length cx7_4, .slice Ax7_5 x7_5.length cx7_5, .slice Ax7_6 x7_6.length cx7_6] (0, 0) _ rfl BK2.out Try.underlying34 rfl (by kernel_rfl)) rfl ?_
    obtain ⟨f_, hf_⟩ : ∃ f_ : Nat → Nat, ∀ k_, f_ k_ = (if ((w.heap.size ≤ k_ ∧ k_ < wq7_.heap.size) ∧ fx7_ k_ = 0) then 0 else (if ((w.heap.size ≤ k_ ∧ k_ < wq7_.heap.size) ∧ fx7_ k_ = 1) then 1 else (if ((w.heap.size ≤ k_ ∧ k_ < wq7_.heap.size) ∧ fx7_ k_ = 2) then 2 else (if ((w.heap.size ≤ k_ ∧ k_ < wq7_.heap.size) ∧ fx7_ k_ = 3) then 3 else 0)))) := ⟨fun k_ => (if ((w.heap.size ≤ k_ ∧ k_ < wq7_.heap.size) ∧ fx7_ k_ = 0) then 0 else (if ((w.heap.size ≤ k_ ∧ k_ < wq7_.heap.size) ∧ fx7_ k_ = 1) then 1 else (if ((w.heap.size ≤ k_ ∧ k_ < wq7_.heap.size) ∧ fx7_ k_ = 2) then 2 else (if ((w.heap.size ≤ k_ ∧ k_ < wq7_.heap.size) ∧ fx7_ k_ = 3) then 3 else 0)))), fun _ => rfl⟩
    have hcol0_ : ∀ k_, (((w.heap.size ≤ k_ ∧ k_ < wq7_.heap.size) ∧ fx7_ k_ = 0)) → f_ k_ = 0 := fun k_ hk_ => by rw [hf_]; have := HS.out; repeat' (first | omega | split)
    have hcol1_ : ∀ k_, (((w.heap.size ≤ k_ ∧ k_ < wq7_.heap.size) ∧ fx7_ k_ = 1)) → f_ k_ = 1 := fun k_ hk_ => by rw [hf_]; have := HS.out; repeat' (first | omega | split)
    have hcol2_ : ∀ k_, (((w.heap.size ≤ k_ ∧ k_ < wq7_.heap.size) ∧ fx7_ k_ = 2)) → f_ k_ = 2 := fun k_ hk_ => by rw [hf_]; have := HS.out; repeat' (first | omega | split)
    have hcol3_ : ∀ k_, (((w.heap.size ≤ k_ ∧ k_ < wq7_.heap.size) ∧ fx7_ k_ = 3)) → f_ k_ = 3 := fun k_ hk_ => by rw [hf_]; have := HS.out; repeat' (first | omega | split)
    exact ⟨f_, _, _, _, _, rfl, Kd.S_mono HOx7_1.out hcol0_, Kd.S_mono HOx7_4.out hcol1_, Kd.S_mono HOx7_5.out hcol2_, Kd.R_mono HOx7_6.out hcol3_, HB.out⟩
   rw [if_pos hc2_] at H
   have hc2_b0 : decide (x7_s10 < 200) = true := decide_eq_true hc2_
   replace hc2_ := A_.mk hc2_
   replace H := A_.mk H
   go_upto_region 6 with (fail)
   obtain ⟨bc8_, hb_⟩ : ∃ b_ : Bool, b_ = decide ((x7_1.length : Int) = 0 ∧ ((x7_5.length : Int) = 0 ∧ (x7_6.length : Int) = 0)) := ⟨_, rfl⟩
   have HBC8 := A_.mk hb_
   clear hb_
   go_cut [28] (fun v_ wc => v_ = .bool bc8_ ∧ wq7_ = wc)
   case first =>
    by_cases hc3_ : (x7_1.length : Int) = 0
    case pos =>
     have hc3_y := A_.mk hc3_
     have hc3_b0 : ((x7_1.length : Int) == 0) = true := beq_iff_eq.mpr hc3_
     have hc3_bn : ((x7_1.length : Int) != 0) = false := bne_eq_false_iff_eq.mpr hc3_
     have hc3_b1 : (x7_1.length == 0) = true := by first | simpa using hc3_ | (simp at hc3_ ⊢; omega)
     replace hc3_ := A_.mk hc3_
     by_cases hc4_ : (x7_5.length : Int) = 0
     case pos =>
      have hc4_y := A_.mk hc4_
      have hc4_b0 : ((x7_5.length : Int) == 0) = true := beq_iff_eq.mpr hc4_
      have hc4_bn : ((x7_5.length : Int) != 0) = false := bne_eq_false_iff_eq.mpr hc4_
      have hc4_b1 : (x7_5.length == 0) = true := by first | simpa using hc4_ | (simp at hc4_ ⊢; omega)
      replace hc4_ := A_.mk hc4_
      by_cases hc5_ : (x7_6.length : Int) = 0
      case pos =>
       have hc5_y := A_.mk hc5_
       have hc5_b0 : ((x7_6.length : Int) == 0) = true := beq_iff_eq.mpr hc5_
       have hc5_bn : ((x7_6.length : Int) != 0) = false := bne_eq_false_iff_eq.mpr hc5_
       have hc5_b1 : (x7_6.length == 0) = true := by first | simpa using hc5_ | (simp at hc5_ ⊢; omega)
       replace hc5_ := A_.mk hc5_
       have e_ := A_.mk (show bc8_ = true from HBC8.out.trans (decide_eq_true ⟨hc3_y.out, ⟨hc4_y.out, hc5_y.out⟩⟩))
       go_wp2_with fail
       go_meet
       case rel => exact ⟨congrArg Value.bool e_.out.symm, rfl⟩
      have hc5_y := A_.mk hc5_
      have hc5_b0 : ((x7_6.length : Int) == 0) = false := beq_eq_false_iff_ne.mpr hc5_
      have hc5_bn : ((x7_6.length : Int) != 0) = true := bne_iff_ne.mpr hc5_
      have hc5_b1 : (x7_6.length == 0) = false := by first | simpa using hc5_ | (simp at hc5_ ⊢; omega)
      have e_ := A_.mk (show bc8_ = false from HBC8.out.trans (decide_eq_false (fun h_ => (fun h_ => hc5_y.out h_.2) h_.2)))
      go_wp2_with fail
      go_meet
      case rel => exact ⟨congrArg Value.bool e_.out.symm, rfl⟩
     have hc4_y := A_.mk hc4_
     have hc4_b0 : ((x7_5.length : Int) == 0) = false := beq_eq_false_iff_ne.mpr hc4_
     have hc4_bn : ((x7_5.length : Int) != 0) = true := bne_iff_ne.mpr hc4_
     have hc4_b1 : (x7_5.length == 0) = false := by first | simpa using hc4_ | (simp at hc4_ ⊢; omega)
     have e_ := A_.mk (show bc8_ = false from HBC8.out.trans (decide_eq_false (fun h_ => (fun h_ => hc4_y.out h_.1) h_.2)))
     go_wp2_with fail
     go_meet
     case rel => exact ⟨congrArg Value.bool e_.out.symm, rfl⟩
    have hc3_y := A_.mk hc3_
    have hc3_b0 : ((x7_1.length : Int) == 0) = false := beq_eq_false_iff_ne.mpr hc3_
    have hc3_bn : ((x7_1.length : Int) != 0) = true := bne_iff_ne.mpr hc3_
    have hc3_b1 : (x7_1.length == 0) = false := by first | simpa using hc3_ | (simp at hc3_ ⊢; omega)
    have e_ := A_.mk (show bc8_ = false from HBC8.out.trans (decide_eq_false (fun h_ => hc3_y.out h_.1)))
    go_wp2_with fail
    go_meet
    case rel => exact ⟨congrArg Value.bool e_.out.symm, rfl⟩
   obtain ⟨rfl, hw_⟩ := hcut
   subst hw_
   replace H := H.out
   by_cases hc6_ : ((x7_1.length : Int) = 0 ∧ ((x7_5.length : Int) = 0 ∧ (x7_6.length : Int) = 0))
   case pos =>
    rw [if_pos hc6_] at H
    obtain rfl := HBC8.out.trans (decide_eq_true hc6_)
    clear HBC8
    have hc6_z0_ : (x7_1.length : Int) = 0 := hc6_.1
    have hc6_z0_b0 : ((x7_1.length : Int) == 0) = true := beq_iff_eq.mpr hc6_z0_
    have hc6_z0_bn : ((x7_1.length : Int) != 0) = false := bne_eq_false_iff_eq.mpr hc6_z0_
    have hc6_z0_b1 : (x7_1.length == 0) = true := by first | simpa using hc6_z0_ | (simp at hc6_z0_ ⊢; omega)
    replace hc6_z0_ := A_.mk hc6_z0_
    have hc6_z1_ : (x7_5.length : Int) = 0 := hc6_.2.1
    have hc6_z1_b0 : ((x7_5.length : Int) == 0) = true := beq_iff_eq.mpr hc6_z1_
    have hc6_z1_bn : ((x7_5.length : Int) != 0) = false := bne_eq_false_iff_eq.mpr hc6_z1_
    have hc6_z1_b1 : (x7_5.length == 0) = true := by first | simpa using hc6_z1_ | (simp at hc6_z1_ ⊢; omega)
    replace hc6_z1_ := A_.mk hc6_z1_
    have hc6_z2_ : (x7_6.length : Int) = 0 := hc6_.2.2
    have hc6_z2_b0 : ((x7_6.length : Int) == 0) = true := beq_iff_eq.mpr hc6_z2_
    have hc6_z2_bn : ((x7_6.length : Int) != 0) = false := bne_eq_false_iff_eq.mpr hc6_z2_
    have hc6_z2_b1 : (x7_6.length == 0) = true := by first | simpa using hc6_z2_ | (simp at hc6_z2_ ⊢; omega)
    replace hc6_z2_ := A_.mk hc6_z2_
    clear hc6_
    simp only [Option.some.injEq, Prod.mk.injEq] at H
    obtain ⟨rfl, rfl, rfl, rfl, rfl, rfl, rfl, rfl⟩ := H
    have H := HRL7.out
    clear HRL7
    (try dsimp only at H)
    simp only [Option.some.injEq, Prod.mk.injEq] at H
    obtain ⟨rfl, rfl, rfl, rfl, rfl, rfl, rfl⟩ := H
    go_wp2_with (first | ((with_reducible refine gate_store (t := 34) (p := 2) rfl ?_); have qf0 := bf_ BK2.out 0; have qf1 := bf_ BK2.out 1; have qf2 := bf_ BK2.out 2; have qf3 := bf_ BK2.out 3; have qf4 := bf_ BK2.out 4; have qf5 := bf_ BK2.out 5; have qf6 := bf_ BK2.out 6; refine se_ (t := 34) (p := 2) (v := ?vo_16) (w1 := (ch7_ wq7_ gb2_ (.int .i64 x7_0) (.slice Ax7_1 x7_1.length cx7_1) (.int .i64 x7_2) (.int .i64 x7_3) (.slice Ax7_4 x7_4.length cx7_4) (.slice Ax7_5 x7_5.length cx7_5) (.slice Ax7_6 x7_6.length cx7_6))) ?hg ?ho ?hn ?hr ?_; (case ho => rfl); (case hg => rfl); (case hn => rfl); (case hr => first | (go_simp; done) | (go_simp; rfl)); intro w16_ hw; clear qf0 qf1 qf2 qf3 qf4 qf5 qf6; obtain ⟨hbx, hkp, hbb⟩ := st7_ hw BK2 HB (by have := HS.out; omega); clear hw; replace HOx7_1 := aSk HOx7_1 hkp HS; replace HOx7_4 := aSk HOx7_4 hkp HS; replace HOx7_5 := aSk HOx7_5 hkp HS; replace HOx7_6 := aRk HOx7_6 hkp HS; replace BK1 := aBk BK1 hkp HS; replace BK4 := aBk BK4 hkp HS; replace BK2 := A_.mk hbx; replace HB := A_.mk hbb; replace HS := aHs HS hkp.1; clear hkp hbb hbx Q1 Q2 Q4; have Q1 := blk7_ BK1.out; have Q2 := blk7_ BK2.out; have Q4 := blk7_ BK4.out))
    refine bodyPost_ret (results_cell_row rfl _ _ gb2_ 34 #[.int .i64 x7_0, .slice Ax7_1 x7_1.length cx7_1, .int .i64 x7_2, .int .i64 x7_3, .slice Ax7_4 x7_4.length cx7_4, .slice Ax7_5 x7_5.length cx7_5, .slice Ax7_6 x7_6.length cx7_6] (0, 0) _ rfl BK2.out Try.underlying34 rfl (by kernel_rfl)) rfl ?_
    obtain ⟨f_, hf_⟩ : ∃ f_ : Nat → Nat, ∀ k_, f_ k_ = (if ((w.heap.size ≤ k_ ∧ k_ < wq7_.heap.size) ∧ fx7_ k_ = 0) then 0 else (if ((w.heap.size ≤ k_ ∧ k_ < wq7_.heap.size) ∧ fx7_ k_ = 1) then 1 else (if ((w.heap.size ≤ k_ ∧ k_ < wq7_.heap.size) ∧ fx7_ k_ = 2) then 2 else (if ((w.heap.size ≤ k_ ∧ k_ < wq7_.heap.size) ∧ fx7_ k_ = 3) then 3 else 0)))) := ⟨fun k_ => (if ((w.heap.size ≤ k_ ∧ k_ < wq7_.heap.size) ∧ fx7_ k_ = 0) then 0 else (if ((w.heap.size ≤ k_ ∧ k_ < wq7_.heap.size) ∧ fx7_ k_ = 1) then 1 else (if ((w.heap.size ≤ k_ ∧ k_ < wq7_.heap.size) ∧ fx7_ k_ = 2) then 2 else (if ((w.heap.size ≤ k_ ∧ k_ < wq7_.heap.size) ∧ fx7_ k_ = 3) then 3 else 0)))), fun _ => rfl⟩
    have hcol0_ : ∀ k_, (((w.heap.size ≤ k_ ∧ k_ < wq7_.heap.size) ∧ fx7_ k_ = 0)) → f_ k_ = 0 := fun k_ hk_ => by rw [hf_]; have := HS.out; repeat' (first | omega | split)
    have hcol1_ : ∀ k_, (((w.heap.size ≤ k_ ∧ k_ < wq7_.heap.size) ∧ fx7_ k_ = 1)) → f_ k_ = 1 := fun k_ hk_ => by rw [hf_]; have := HS.out; repeat' (first | omega | split)
    have hcol2_ : ∀ k_, (((w.heap.size ≤ k_ ∧ k_ < wq7_.heap.size) ∧ fx7_ k_ = 2)) → f_ k_ = 2 := fun k_ hk_ => by rw [hf_]; have := HS.out; repeat' (first | omega | split)
    have hcol3_ : ∀ k_, (((w.heap.size ≤ k_ ∧ k_ < wq7_.heap.size) ∧ fx7_ k_ = 3)) → f_ k_ = 3 := fun k_ hk_ => by rw [hf_]; have := HS.out; repeat' (first | omega | split)
    exact ⟨f_, _, _, _, _, rfl, Kd.S_mono HOx7_1.out hcol0_, Kd.S_mono HOx7_4.out hcol1_, Kd.S_mono HOx7_5.out hcol2_, Kd.R_mono HOx7_6.out hcol3_, HB.out⟩
   rw [if_neg hc6_] at H
   obtain rfl := HBC8.out.trans (decide_eq_false hc6_)
   clear HBC8 hc6_
   replace H := oa_ H
   obtain ⟨⟨t9, t10, t11, t12, t13, t14, t15, t16⟩, A9, H⟩ := H
   try dsimp only at H
   replace H := ob_ H
   obtain ⟨⟨z10_0, z10_1, z10_2, z10_3, z10_4, z10_5, z10_6⟩, AL_, H⟩ := H
   have HRL10 := A_.mk H
   have AL10 := A_.mk AL_
   clear H AL_
   go_wp2_with (fail)
   obtain ⟨fp9_, hfp_⟩ : ∃ f_ : Nat → Nat, ∀ k_, f_ k_ = (if ((w.heap.size ≤ k_ ∧ k_ < wq7_.heap.size) ∧ fx7_ k_ = 0) then 0 else (if ((w.heap.size ≤ k_ ∧ k_ < wq7_.heap.size) ∧ fx7_ k_ = 1) then 1 else (if ((w.heap.size ≤ k_ ∧ k_ < wq7_.heap.size) ∧ fx7_ k_ = 2) then 2 else (if ((w.heap.size ≤ k_ ∧ k_ < wq7_.heap.size) ∧ fx7_ k_ = 3) then 3 else 4)))) := ⟨fun k_ => (if ((w.heap.size ≤ k_ ∧ k_ < wq7_.heap.size) ∧ fx7_ k_ = 0) then 0 else (if ((w.heap.size ≤ k_ ∧ k_ < wq7_.heap.size) ∧ fx7_ k_ = 1) then 1 else (if ((w.heap.size ≤ k_ ∧ k_ < wq7_.heap.size) ∧ fx7_ k_ = 2) then 2 else (if ((w.heap.size ≤ k_ ∧ k_ < wq7_.heap.size) ∧ fx7_ k_ = 3) then 3 else 4)))), fun _ => rfl⟩
   have hcp1_ : ∀ k_, (((w.heap.size ≤ k_ ∧ k_ < wq7_.heap.size) ∧ fx7_ k_ = 0)) → ((w.heap.size ≤ k_ ∧ k_ < wq7_.heap.size) ∧ k_ ≠ gb4_ ∧ fp9_ k_ = 0) := fun k_ hk_ => ⟨by have := HS.out; omega, by have := HS.out; first | omega | (intro he_; subst he_; omega), by rw [hfp_]; have := HS.out; repeat' (first | omega | split)⟩
   have hcp4_ : ∀ k_, (((w.heap.size ≤ k_ ∧ k_ < wq7_.heap.size) ∧ fx7_ k_ = 1)) → ((w.heap.size ≤ k_ ∧ k_ < wq7_.heap.size) ∧ k_ ≠ gb4_ ∧ fp9_ k_ = 1) := fun k_ hk_ => ⟨by have := HS.out; omega, by have := HS.out; first | omega | (intro he_; subst he_; omega), by rw [hfp_]; have := HS.out; repeat' (first | omega | split)⟩
   have hcp5_ : ∀ k_, (((w.heap.size ≤ k_ ∧ k_ < wq7_.heap.size) ∧ fx7_ k_ = 2)) → ((w.heap.size ≤ k_ ∧ k_ < wq7_.heap.size) ∧ k_ ≠ gb4_ ∧ fp9_ k_ = 2) := fun k_ hk_ => ⟨by have := HS.out; omega, by have := HS.out; first | omega | (intro he_; subst he_; omega), by rw [hfp_]; have := HS.out; repeat' (first | omega | split)⟩
   have hcp6_ : ∀ k_, (((w.heap.size ≤ k_ ∧ k_ < wq7_.heap.size) ∧ fx7_ k_ = 3)) → ((w.heap.size ≤ k_ ∧ k_ < wq7_.heap.size) ∧ k_ ≠ gb4_ ∧ fp9_ k_ = 3) := fun k_ hk_ => ⟨by have := HS.out; omega, by have := HS.out; first | omega | (intro he_; subst he_; omega), by rw [hfp_]; have := HS.out; repeat' (first | omega | split)⟩
   have hfb1_ : fp9_ gb1_ = 4 := by rw [hfp_]; have := HS.out; repeat' (first | omega | split)
   have hfb2_ : fp9_ gb2_ = 4 := by rw [hfp_]; have := HS.out; repeat' (first | omega | split)
   refine (impl_Link_step.calls kq7_ gb4_ fp9_ x7_0 _ _ x7_1 x7_2 x7_3 _ _ x7_4 _ _ x7_5 _ _ x7_6 6 0 t9 t10 t11 t12 t13 t14 t15 t16 w _ HB.out (by have := HS.out; omega) BK4.out (Kd.S_mono HOx7_1.out hcp1_) (Kd.S_mono HOx7_4.out hcp4_) (Kd.S_mono HOx7_5.out hcp5_) (Kd.R_mono HOx7_6.out hcp6_) A9.out).mono ?_
   rintro e w9_ ⟨f9_, v0_, v1_, v2_, v3_, rfl, hbx_, ho1_, ho2_, ho3_, ho4_, hfk_, hbb, hkp⟩
   have hge1_ : 4 ≤ f9_ gb1_ := by have h1_ := hfk_ gb1_ (blk_lt BK1.out); have := hfb1_; have := HS.out; omega
   have hge2_ : 4 ≤ f9_ gb2_ := by have h1_ := hfk_ gb2_ (blk_lt BK2.out); have := hfb2_; have := HS.out; omega
   replace BK1 := A_.mk ((hkp.2 _ (blk_lt BK1.out) (fun _ => by have := hfb1_; have := HS.out; omega)).trans BK1.out)
   replace BK2 := A_.mk ((hkp.2 _ (blk_lt BK2.out) (fun _ => by have := hfb2_; have := HS.out; omega)).trans BK2.out)
   replace BK4 := A_.mk hbx_
   replace HB := A_.mk hbb
   replace HS := aHs HS hkp.1
   replace HS := aHs HS hge1_
   replace HS := aHs HS hge2_
   clear hfk_ hge1_ hge2_
   obtain ⟨Ao9_0, co9_0, ev_⟩ := Kd.S_slice ho1_
   subst ev_
   have HO9_0 := A_.mk ho1_
   obtain ⟨Ao9_1, co9_1, ev_⟩ := Kd.S_slice ho2_
   subst ev_
   have HO9_1 := A_.mk ho2_
   obtain ⟨Ao9_2, co9_2, ev_⟩ := Kd.S_slice ho3_
   subst ev_
   have HO9_2 := A_.mk ho3_
   obtain ⟨Ao9_3, co9_3, ev_⟩ := Kd.R_slice ho4_
   subst ev_
   have HO9_3 := A_.mk ho4_
   clear hkp hbx_ hbb hfp_ hcp1_ hcp4_ hcp5_ hcp6_ ho1_ ho2_ ho3_ ho4_ hfb1_ hfb2_ Q1 Q2 Q4
   have Q1 := blk7_ BK1.out
   have Q2 := blk7_ BK2.out
   have Q4 := blk7_ BK4.out
   go_wp2
   obtain ⟨fp19_, hfp_⟩ : ∃ f_ : Nat → Nat, ∀ k_, f_ k_ = (if ((w.heap.size ≤ k_ ∧ k_ < w9_.heap.size) ∧ k_ ≠ gb4_ ∧ f9_ k_ = 0) then 0 else (if ((w.heap.size ≤ k_ ∧ k_ < w9_.heap.size) ∧ k_ ≠ gb4_ ∧ f9_ k_ = 1) then 1 else (if ((w.heap.size ≤ k_ ∧ k_ < w9_.heap.size) ∧ k_ ≠ gb4_ ∧ f9_ k_ = 2) then 2 else (if ((w.heap.size ≤ k_ ∧ k_ < w9_.heap.size) ∧ k_ ≠ gb4_ ∧ f9_ k_ = 3) then 3 else 4)))) := ⟨fun k_ => (if ((w.heap.size ≤ k_ ∧ k_ < w9_.heap.size) ∧ k_ ≠ gb4_ ∧ f9_ k_ = 0) then 0 else (if ((w.heap.size ≤ k_ ∧ k_ < w9_.heap.size) ∧ k_ ≠ gb4_ ∧ f9_ k_ = 1) then 1 else (if ((w.heap.size ≤ k_ ∧ k_ < w9_.heap.size) ∧ k_ ≠ gb4_ ∧ f9_ k_ = 2) then 2 else (if ((w.heap.size ≤ k_ ∧ k_ < w9_.heap.size) ∧ k_ ≠ gb4_ ∧ f9_ k_ = 3) then 3 else 4)))), fun _ => rfl⟩
   have hcp0_ : ∀ k_, (((w.heap.size ≤ k_ ∧ k_ < w9_.heap.size) ∧ k_ ≠ gb4_ ∧ f9_ k_ = 0)) → ((w.heap.size ≤ k_ ∧ k_ < w9_.heap.size) ∧ fp19_ k_ = 0) := fun k_ hk_ => ⟨by have := HS.out; omega, by rw [hfp_]; have := HS.out; repeat' (first | omega | split)⟩
   have hcp1_ : ∀ k_, (((w.heap.size ≤ k_ ∧ k_ < w9_.heap.size) ∧ k_ ≠ gb4_ ∧ f9_ k_ = 1)) → ((w.heap.size ≤ k_ ∧ k_ < w9_.heap.size) ∧ fp19_ k_ = 1) := fun k_ hk_ => ⟨by have := HS.out; omega, by rw [hfp_]; have := HS.out; repeat' (first | omega | split)⟩
   have hcp2_ : ∀ k_, (((w.heap.size ≤ k_ ∧ k_ < w9_.heap.size) ∧ k_ ≠ gb4_ ∧ f9_ k_ = 2)) → ((w.heap.size ≤ k_ ∧ k_ < w9_.heap.size) ∧ fp19_ k_ = 2) := fun k_ hk_ => ⟨by have := HS.out; omega, by rw [hfp_]; have := HS.out; repeat' (first | omega | split)⟩
   have hcp3_ : ∀ k_, (((w.heap.size ≤ k_ ∧ k_ < w9_.heap.size) ∧ k_ ≠ gb4_ ∧ f9_ k_ = 3)) → ((w.heap.size ≤ k_ ∧ k_ < w9_.heap.size) ∧ fp19_ k_ = 3) := fun k_ hk_ => ⟨by have := HS.out; omega, by rw [hfp_]; have := HS.out; repeat' (first | omega | split)⟩
   have hfb1_ : fp19_ gb1_ = 4 := by rw [hfp_]; have := HS.out; repeat' (first | omega | split)
   have hfb2_ : fp19_ gb2_ = 4 := by rw [hfp_]; have := HS.out; repeat' (first | omega | split)
   have hfb4_ : fp19_ gb4_ = 4 := by rw [hfp_]; have := HS.out; repeat' (first | omega | split)
   go_loopg [] kq7_ (fun kq  w' => ∃ (fx10_ : Nat → Nat) (Ax10_1 : Option Addr) (Ax10_4 : Option Addr) (Ax10_5 : Option Addr) (Ax10_6 : Option Addr) (cx10_1 : Nat) (cx10_4 : Nat) (cx10_5 : Nat) (cx10_6 : Nat) (x10_0 : Int) (x10_1 : List S68) (x10_2 : Int) (x10_3 : Int) (x10_4 : List (List Int)) (x10_5 : List (List Int)) (x10_6 : List Int), A_ (impl_DrainLink.l10 kq x10_0 x10_1 x10_2 x10_3 x10_4 x10_5 x10_6 = some (z10_0, z10_1, z10_2, z10_3, z10_4, z10_5, z10_6)) ∧ A_ (kq ≤ kq7_) ∧ A_ (w'.heap[gb4_]? = some (.cells #[.int .i64 x10_0, .slice Ax10_1 x10_1.length cx10_1, .int .i64 x10_2, .int .i64 x10_3, .slice Ax10_4 x10_4.length cx10_4, .slice Ax10_5 x10_5.length cx10_5, .slice Ax10_6 x10_6.length cx10_6] 34 (0, 0))) ∧ A_ (Kd.S k68 68 w' w.heap.size (fun k_ => (w.heap.size ≤ k_ ∧ k_ < w'.heap.size) ∧ fx10_ k_ = 0) (.slice Ax10_1 x10_1.length cx10_1) x10_1) ∧ A_ (Kd.S (Kd.slice 3 (Kd.int .i64)) 32 w' w.heap.size (fun k_ => (w.heap.size ≤ k_ ∧ k_ < w'.heap.size) ∧ fx10_ k_ = 1) (.slice Ax10_4 x10_4.length cx10_4) x10_4) ∧ A_ (Kd.S (Kd.slice 3 (Kd.int .i64)) 32 w' w.heap.size (fun k_ => (w.heap.size ≤ k_ ∧ k_ < w'.heap.size) ∧ fx10_ k_ = 2) (.slice Ax10_5 x10_5.length cx10_5) x10_5) ∧ A_ (Kd.R (Kd.int .i64) 3 w' w.heap.size (fun k_ => (w.heap.size ≤ k_ ∧ k_ < w'.heap.size) ∧ fx10_ k_ = 3) (.slice Ax10_6 x10_6.length cx10_6) x10_6) ∧ A_ (w'.heap[gb1_]? = some (.cells #[.int .i64 a0_0, .slice A0_1 l0_1.length c0_1, .int .i64 a0_2, .int .i64 a0_3, .slice A0_4 l0_4.length c0_4, .slice A0_5 l0_5.length c0_5, .slice A0_6 l0_6.length c0_6] 34 (0, 0))) ∧ A_ (w'.heap[gb2_]? = some (.cells #[.int .i64 0, .slice none 0 0, .int .i64 0, .int .i64 0, .slice none 0 0, .slice none 0 0, .slice none 0 0] 34 (0, 0))) ∧ A_ (4 ≤ fx10_ gb4_) ∧ A_ (4 ≤ fx10_ gb1_) ∧ A_ (4 ≤ fx10_ gb2_) ∧ A_ (Below w.heap.size w w') ∧ A_ (w9_.heap.size ≤ w'.heap.size))
   case atStart => exact ⟨fp19_, Ao9_0, Ao9_1, Ao9_2, Ao9_3, co9_0, co9_1, co9_2, co9_3, t10, t11, t12, t13, t14, t15, t16, AL10, ⟨Nat.le_refl _⟩, BK4, ⟨Kd.S_mono HO9_0.out hcp0_⟩, ⟨Kd.S_mono HO9_1.out hcp1_⟩, ⟨Kd.S_mono HO9_2.out hcp2_⟩, ⟨Kd.R_mono HO9_3.out hcp3_⟩, BK1, BK2, ⟨Nat.le_of_eq hfb4_.symm⟩, ⟨Nat.le_of_eq hfb1_.symm⟩, ⟨Nat.le_of_eq hfb2_.symm⟩, HB, ⟨Nat.le_refl _⟩⟩
   case round =>
    clear AL10 HB BK1 BK2 BK4 HO9_0 HO9_1 HO9_2 HO9_3 Q1 Q2 Q4 hfp_ hcp0_ hcp1_ hcp2_ hcp3_ hfb1_ hfb2_ hfb4_
    obtain ⟨fx10_, Ax10_1, Ax10_4, Ax10_5, Ax10_6, cx10_1, cx10_4, cx10_5, cx10_6, x10_0, x10_1, x10_2, x10_3, x10_4, x10_5, x10_6, HA, HKL10, BK4, HOx10_1, HOx10_4, HOx10_5, HOx10_6, BK1, BK2, HG4_, HG1_, HG2_, HB, HSL_⟩ := hrel
    rename World => wq10_
    replace HS := aHs HS HSL_.out
    clear HSL_
    replace HS := aHs HS HG4_.out
    clear HG4_
    replace HS := aHs HS HG1_.out
    clear HG1_
    replace HS := aHs HS HG2_.out
    clear HG2_
    cases gk with
    | zero => exact absurd HA.out (by simp [impl_DrainLink.l10])
    | succ kq10_ =>
     have H := HA.out
     clear HA
     simp only [impl_DrainLink.l10] at H
     have Q1 := blk7_ BK1.out
     have Q2 := blk7_ BK2.out
     have Q4 := blk7_ BK4.out
     replace H := oa_ H
     obtain ⟨⟨t17, t18, t19, t20, t21, t22, t23, t24⟩, A11, H⟩ := H
     try dsimp only at H
     replace H := A_.mk H
     go_wp2_with (fail)
     obtain ⟨fp11_, hfp_⟩ : ∃ f_ : Nat → Nat, ∀ k_, f_ k_ = (if ((w.heap.size ≤ k_ ∧ k_ < wq10_.heap.size) ∧ fx10_ k_ = 0) then 0 else (if ((w.heap.size ≤ k_ ∧ k_ < wq10_.heap.size) ∧ fx10_ k_ = 1) then 1 else (if ((w.heap.size ≤ k_ ∧ k_ < wq10_.heap.size) ∧ fx10_ k_ = 2) then 2 else (if ((w.heap.size ≤ k_ ∧ k_ < wq10_.heap.size) ∧ fx10_ k_ = 3) then 3 else 4)))) := ⟨fun k_ => (if ((w.heap.size ≤ k_ ∧ k_ < wq10_.heap.size) ∧ fx10_ k_ = 0) then 0 else (if ((w.heap.size ≤ k_ ∧ k_ < wq10_.heap.size) ∧ fx10_ k_ = 1) then 1 else (if ((w.heap.size ≤ k_ ∧ k_ < wq10_.heap.size) ∧ fx10_ k_ = 2) then 2 else (if ((w.heap.size ≤ k_ ∧ k_ < wq10_.heap.size) ∧ fx10_ k_ = 3) then 3 else 4)))), fun _ => rfl⟩
     have hcp1_ : ∀ k_, (((w.heap.size ≤ k_ ∧ k_ < wq10_.heap.size) ∧ fx10_ k_ = 0)) → ((w.heap.size ≤ k_ ∧ k_ < wq10_.heap.size) ∧ k_ ≠ gb4_ ∧ fp11_ k_ = 0) := fun k_ hk_ => ⟨by have := HS.out; omega, by have := HS.out; first | omega | (intro he_; subst he_; omega), by rw [hfp_]; have := HS.out; repeat' (first | omega | split)⟩
     have hcp4_ : ∀ k_, (((w.heap.size ≤ k_ ∧ k_ < wq10_.heap.size) ∧ fx10_ k_ = 1)) → ((w.heap.size ≤ k_ ∧ k_ < wq10_.heap.size) ∧ k_ ≠ gb4_ ∧ fp11_ k_ = 1) := fun k_ hk_ => ⟨by have := HS.out; omega, by have := HS.out; first | omega | (intro he_; subst he_; omega), by rw [hfp_]; have := HS.out; repeat' (first | omega | split)⟩
     have hcp5_ : ∀ k_, (((w.heap.size ≤ k_ ∧ k_ < wq10_.heap.size) ∧ fx10_ k_ = 2)) → ((w.heap.size ≤ k_ ∧ k_ < wq10_.heap.size) ∧ k_ ≠ gb4_ ∧ fp11_ k_ = 2) := fun k_ hk_ => ⟨by have := HS.out; omega, by have := HS.out; first | omega | (intro he_; subst he_; omega), by rw [hfp_]; have := HS.out; repeat' (first | omega | split)⟩
     have hcp6_ : ∀ k_, (((w.heap.size ≤ k_ ∧ k_ < wq10_.heap.size) ∧ fx10_ k_ = 3)) → ((w.heap.size ≤ k_ ∧ k_ < wq10_.heap.size) ∧ k_ ≠ gb4_ ∧ fp11_ k_ = 3) := fun k_ hk_ => ⟨by have := HS.out; omega, by have := HS.out; first | omega | (intro he_; subst he_; omega), by rw [hfp_]; have := HS.out; repeat' (first | omega | split)⟩
     have hfb1_ : fp11_ gb1_ = 4 := by rw [hfp_]; have := HS.out; repeat' (first | omega | split)
     have hfb2_ : fp11_ gb2_ = 4 := by rw [hfp_]; have := HS.out; repeat' (first | omega | split)
     refine (impl_Link_send.calls kq10_ gb4_ fp11_ x10_0 _ _ x10_1 x10_2 x10_3 _ _ x10_4 _ _ x10_5 _ _ x10_6 t17 t18 t19 t20 t21 t22 t23 t24 w _ HB.out (by have := HS.out; omega) BK4.out (Kd.S_mono HOx10_1.out hcp1_) (Kd.S_mono HOx10_4.out hcp4_) (Kd.S_mono HOx10_5.out hcp5_) (Kd.R_mono HOx10_6.out hcp6_) A11.out).mono ?_
     rintro e w11_ ⟨f11_, v0_, v1_, v2_, v3_, rfl, hbx_, ho1_, ho2_, ho3_, ho4_, hfk_, hbb, hkp⟩
     have hge1_ : 4 ≤ f11_ gb1_ := by have h1_ := hfk_ gb1_ (blk_lt BK1.out); have := hfb1_; have := HS.out; omega
     have hge2_ : 4 ≤ f11_ gb2_ := by have h1_ := hfk_ gb2_ (blk_lt BK2.out); have := hfb2_; have := HS.out; omega
     replace BK1 := A_.mk ((hkp.2 _ (blk_lt BK1.out) (fun _ => by have := hfb1_; have := HS.out; omega)).trans BK1.out)
     replace BK2 := A_.mk ((hkp.2 _ (blk_lt BK2.out) (fun _ => by have := hfb2_; have := HS.out; omega)).trans BK2.out)
     replace BK4 := A_.mk hbx_
     replace HB := A_.mk hbb
     replace HS := aHs HS hkp.1
     replace HS := aHs HS hge1_
     replace HS := aHs HS hge2_
     clear hfk_ hge1_ hge2_
     obtain ⟨Ao11_0, co11_0, ev_⟩ := Kd.S_slice ho1_
     subst ev_
     have HO11_0 := A_.mk ho1_
     obtain ⟨Ao11_1, co11_1, ev_⟩ := Kd.S_slice ho2_
     subst ev_
     have HO11_1 := A_.mk ho2_
     obtain ⟨Ao11_2, co11_2, ev_⟩ := Kd.S_slice ho3_
     subst ev_
     have HO11_2 := A_.mk ho3_
     obtain ⟨Ao11_3, co11_3, ev_⟩ := Kd.R_slice ho4_
     subst ev_
     have HO11_3 := A_.mk ho4_
     clear hkp hbx_ hbb hfp_ hcp1_ hcp4_ hcp5_ hcp6_ ho1_ ho2_ ho3_ ho4_ hfb1_ hfb2_ Q1 Q2 Q4
     have Q1 := blk7_ BK1.out
     have Q2 := blk7_ BK2.out
     have Q4 := blk7_ BK4.out
     replace H := H.out
     by_cases hc7_ : t17 = true
     case pos =>
      rw [if_pos hc7_] at H
      subst hc7_
      have HA := A_.mk H
      clear H
      go_wp2
      obtain ⟨fp20_, hfp_⟩ : ∃ f_ : Nat → Nat, ∀ k_, f_ k_ = (if ((w.heap.size ≤ k_ ∧ k_ < w11_.heap.size) ∧ k_ ≠ gb4_ ∧ f11_ k_ = 0) then 0 else (if ((w.heap.size ≤ k_ ∧ k_ < w11_.heap.size) ∧ k_ ≠ gb4_ ∧ f11_ k_ = 1) then 1 else (if ((w.heap.size ≤ k_ ∧ k_ < w11_.heap.size) ∧ k_ ≠ gb4_ ∧ f11_ k_ = 2) then 2 else (if ((w.heap.size ≤ k_ ∧ k_ < w11_.heap.size) ∧ k_ ≠ gb4_ ∧ f11_ k_ = 3) then 3 else 4)))) := ⟨fun k_ => (if ((w.heap.size ≤ k_ ∧ k_ < w11_.heap.size) ∧ k_ ≠ gb4_ ∧ f11_ k_ = 0) then 0 else (if ((w.heap.size ≤ k_ ∧ k_ < w11_.heap.size) ∧ k_ ≠ gb4_ ∧ f11_ k_ = 1) then 1 else (if ((w.heap.size ≤ k_ ∧ k_ < w11_.heap.size) ∧ k_ ≠ gb4_ ∧ f11_ k_ = 2) then 2 else (if ((w.heap.size ≤ k_ ∧ k_ < w11_.heap.size) ∧ k_ ≠ gb4_ ∧ f11_ k_ = 3) then 3 else 4)))), fun _ => rfl⟩
      have hcp0_ : ∀ k_, (((w.heap.size ≤ k_ ∧ k_ < w11_.heap.size) ∧ k_ ≠ gb4_ ∧ f11_ k_ = 0)) → ((w.heap.size ≤ k_ ∧ k_ < w11_.heap.size) ∧ fp20_ k_ = 0) := fun k_ hk_ => ⟨by have := HS.out; omega, by rw [hfp_]; have := HS.out; repeat' (first | omega | split)⟩
      have hcp1_ : ∀ k_, (((w.heap.size ≤ k_ ∧ k_ < w11_.heap.size) ∧ k_ ≠ gb4_ ∧ f11_ k_ = 1)) → ((w.heap.size ≤ k_ ∧ k_ < w11_.heap.size) ∧ fp20_ k_ = 1) := fun k_ hk_ => ⟨by have := HS.out; omega, by rw [hfp_]; have := HS.out; repeat' (first | omega | split)⟩
      have hcp2_ : ∀ k_, (((w.heap.size ≤ k_ ∧ k_ < w11_.heap.size) ∧ k_ ≠ gb4_ ∧ f11_ k_ = 2)) → ((w.heap.size ≤ k_ ∧ k_ < w11_.heap.size) ∧ fp20_ k_ = 2) := fun k_ hk_ => ⟨by have := HS.out; omega, by rw [hfp_]; have := HS.out; repeat' (first | omega | split)⟩
      have hcp3_ : ∀ k_, (((w.heap.size ≤ k_ ∧ k_ < w11_.heap.size) ∧ k_ ≠ gb4_ ∧ f11_ k_ = 3)) → ((w.heap.size ≤ k_ ∧ k_ < w11_.heap.size) ∧ fp20_ k_ = 3) := fun k_ hk_ => ⟨by have := HS.out; omega, by rw [hfp_]; have := HS.out; repeat' (first | omega | split)⟩
      have hfb1_ : fp20_ gb1_ = 4 := by rw [hfp_]; have := HS.out; repeat' (first | omega | split)
      have hfb2_ : fp20_ gb2_ = 4 := by rw [hfp_]; have := HS.out; repeat' (first | omega | split)
      have hfb4_ : fp20_ gb4_ = 4 := by rw [hfp_]; have := HS.out; repeat' (first | omega | split)
      go_roundg kq10_
      case measure => have := HKL10.out; omega
      case rel => exact ⟨fp20_, Ao11_0, Ao11_1, Ao11_2, Ao11_3, co11_0, co11_1, co11_2, co11_3, t18, t19, t20, t21, t22, t23, t24, HA, ⟨by have := HKL10.out; omega⟩, BK4, ⟨Kd.S_mono HO11_0.out hcp0_⟩, ⟨Kd.S_mono HO11_1.out hcp1_⟩, ⟨Kd.S_mono HO11_2.out hcp2_⟩, ⟨Kd.R_mono HO11_3.out hcp3_⟩, BK1, BK2, ⟨Nat.le_of_eq hfb4_.symm⟩, ⟨Nat.le_of_eq hfb1_.symm⟩, ⟨Nat.le_of_eq hfb2_.symm⟩, HB, ⟨(by have := HS.out; omega)⟩⟩
     rw [if_neg hc7_] at H
     replace hc7_ := eq_false_of_ne_true hc7_
     subst hc7_
     simp only [Option.some.injEq, Prod.mk.injEq] at H
     obtain ⟨rfl, rfl, rfl, rfl, rfl, rfl, rfl⟩ := H
     have H := HRL10.out
     clear HRL10
     (try dsimp only at H)
     replace H := ob_ H
     obtain ⟨⟨z12_0, z12_1, z12_2, z12_3, z12_4, z12_5, z12_6⟩, AL_, H⟩ := H
     have HRL12 := A_.mk H
     have AL12 := A_.mk AL_
     clear H AL_
     go_wp2
     obtain ⟨fp21_, hfp_⟩ : ∃ f_ : Nat → Nat, ∀ k_, f_ k_ = (if ((w.heap.size ≤ k_ ∧ k_ < w11_.heap.size) ∧ k_ ≠ gb4_ ∧ f11_ k_ = 0) then 0 else (if ((w.heap.size ≤ k_ ∧ k_ < w11_.heap.size) ∧ k_ ≠ gb4_ ∧ f11_ k_ = 1) then 1 else (if ((w.heap.size ≤ k_ ∧ k_ < w11_.heap.size) ∧ k_ ≠ gb4_ ∧ f11_ k_ = 2) then 2 else (if ((w.heap.size ≤ k_ ∧ k_ < w11_.heap.size) ∧ k_ ≠ gb4_ ∧ f11_ k_ = 3) then 3 else 4)))) := ⟨fun k_ => (if ((w.heap.size ≤ k_ ∧ k_ < w11_.heap.size) ∧ k_ ≠ gb4_ ∧ f11_ k_ = 0) then 0 else (if ((w.heap.size ≤ k_ ∧ k_ < w11_.heap.size) ∧ k_ ≠ gb4_ ∧ f11_ k_ = 1) then 1 else (if ((w.heap.size ≤ k_ ∧ k_ < w11_.heap.size) ∧ k_ ≠ gb4_ ∧ f11_ k_ = 2) then 2 else (if ((w.heap.size ≤ k_ ∧ k_ < w11_.heap.size) ∧ k_ ≠ gb4_ ∧ f11_ k_ = 3) then 3 else 4)))), fun _ => rfl⟩
     have hcp0_ : ∀ k_, (((w.heap.size ≤ k_ ∧ k_ < w11_.heap.size) ∧ k_ ≠ gb4_ ∧ f11_ k_ = 0)) → ((w.heap.size ≤ k_ ∧ k_ < w11_.heap.size) ∧ fp21_ k_ = 0) := fun k_ hk_ => ⟨by have := HS.out; omega, by rw [hfp_]; have := HS.out; repeat' (first | omega | split)⟩
     have hcp1_ : ∀ k_, (((w.heap.size ≤ k_ ∧ k_ < w11_.heap.size) ∧ k_ ≠ gb4_ ∧ f11_ k_ = 1)) → ((w.heap.size ≤ k_ ∧ k_ < w11_.heap.size) ∧ fp21_ k_ = 1) := fun k_ hk_ => ⟨by have := HS.out; omega, by rw [hfp_]; have := HS.out; repeat' (first | omega | split)⟩
     have hcp2_ : ∀ k_, (((w.heap.size ≤ k_ ∧ k_ < w11_.heap.size) ∧ k_ ≠ gb4_ ∧ f11_ k_ = 2)) → ((w.heap.size ≤ k_ ∧ k_ < w11_.heap.size) ∧ fp21_ k_ = 2) := fun k_ hk_ => ⟨by have := HS.out; omega, by rw [hfp_]; have := HS.out; repeat' (first | omega | split)⟩
     have hcp3_ : ∀ k_, (((w.heap.size ≤ k_ ∧ k_ < w11_.heap.size) ∧ k_ ≠ gb4_ ∧ f11_ k_ = 3)) → ((w.heap.size ≤ k_ ∧ k_ < w11_.heap.size) ∧ fp21_ k_ = 3) := fun k_ hk_ => ⟨by have := HS.out; omega, by rw [hfp_]; have := HS.out; repeat' (first | omega | split)⟩
     have hfb1_ : fp21_ gb1_ = 4 := by rw [hfp_]; have := HS.out; repeat' (first | omega | split)
     have hfb2_ : fp21_ gb2_ = 4 := by rw [hfp_]; have := HS.out; repeat' (first | omega | split)
     have hfb4_ : fp21_ gb4_ = 4 := by rw [hfp_]; have := HS.out; repeat' (first | omega | split)
     go_loopg [] kq7_ (fun kq  w' => ∃ (fx12_ : Nat → Nat) (Ax12_1 : Option Addr) (Ax12_4 : Option Addr) (Ax12_5 : Option Addr) (Ax12_6 : Option Addr) (cx12_1 : Nat) (cx12_4 : Nat) (cx12_5 : Nat) (cx12_6 : Nat) (x12_0 : Int) (x12_1 : List S68) (x12_2 : Int) (x12_3 : Int) (x12_4 : List (List Int)) (x12_5 : List (List Int)) (x12_6 : List Int), A_ (impl_DrainLink.l12 kq x12_0 x12_1 x12_2 x12_3 x12_4 x12_5 x12_6 = some (z12_0, z12_1, z12_2, z12_3, z12_4, z12_5, z12_6)) ∧ A_ (kq ≤ kq7_) ∧ A_ (w'.heap[gb4_]? = some (.cells #[.int .i64 x12_0, .slice Ax12_1 x12_1.length cx12_1, .int .i64 x12_2, .int .i64 x12_3, .slice Ax12_4 x12_4.length cx12_4, .slice Ax12_5 x12_5.length cx12_5, .slice Ax12_6 x12_6.length cx12_6] 34 (0, 0))) ∧ A_ (Kd.S k68 68 w' w.heap.size (fun k_ => (w.heap.size ≤ k_ ∧ k_ < w'.heap.size) ∧ fx12_ k_ = 0) (.slice Ax12_1 x12_1.length cx12_1) x12_1) ∧ A_ (Kd.S (Kd.slice 3 (Kd.int .i64)) 32 w' w.heap.size (fun k_ => (w.heap.size ≤ k_ ∧ k_ < w'.heap.size) ∧ fx12_ k_ = 1) (.slice Ax12_4 x12_4.length cx12_4) x12_4) ∧ A_ (Kd.S (Kd.slice 3 (Kd.int .i64)) 32 w' w.heap.size (fun k_ => (w.heap.size ≤ k_ ∧ k_ < w'.heap.size) ∧ fx12_ k_ = 2) (.slice Ax12_5 x12_5.length cx12_5) x12_5) ∧ A_ (Kd.R (Kd.int .i64) 3 w' w.heap.size (fun k_ => (w.heap.size ≤ k_ ∧ k_ < w'.heap.size) ∧ fx12_ k_ = 3) (.slice Ax12_6 x12_6.length cx12_6) x12_6) ∧ A_ (w'.heap[gb1_]? = some (.cells #[.int .i64 a0_0, .slice A0_1 l0_1.length c0_1, .int .i64 a0_2, .int .i64 a0_3, .slice A0_4 l0_4.length c0_4, .slice A0_5 l0_5.length c0_5, .slice A0_6 l0_6.length c0_6] 34 (0, 0))) ∧ A_ (w'.heap[gb2_]? = some (.cells #[.int .i64 0, .slice none 0 0, .int .i64 0, .int .i64 0, .slice none 0 0, .slice none 0 0, .slice none 0 0] 34 (0, 0))) ∧ A_ (4 ≤ fx12_ gb4_) ∧ A_ (4 ≤ fx12_ gb1_) ∧ A_ (4 ≤ fx12_ gb2_) ∧ A_ (Below w.heap.size w w') ∧ A_ (w11_.heap.size ≤ w'.heap.size))
     case atStart => exact ⟨fp21_, Ao11_0, Ao11_1, Ao11_2, Ao11_3, co11_0, co11_1, co11_2, co11_3, t18, t19, t20, t21, t22, t23, t24, AL12, ⟨Nat.le_refl _⟩, BK4, ⟨Kd.S_mono HO11_0.out hcp0_⟩, ⟨Kd.S_mono HO11_1.out hcp1_⟩, ⟨Kd.S_mono HO11_2.out hcp2_⟩, ⟨Kd.R_mono HO11_3.out hcp3_⟩, BK1, BK2, ⟨Nat.le_of_eq hfb4_.symm⟩, ⟨Nat.le_of_eq hfb1_.symm⟩, ⟨Nat.le_of_eq hfb2_.symm⟩, HB, ⟨Nat.le_refl _⟩⟩
     case round =>
      clear AL12 HB BK1 BK2 BK4 HO11_0 HO11_1 HO11_2 HO11_3 Q1 Q2 Q4 hfp_ hcp0_ hcp1_ hcp2_ hcp3_ hfb1_ hfb2_ hfb4_
      obtain ⟨fx12_, Ax12_1, Ax12_4, Ax12_5, Ax12_6, cx12_1, cx12_4, cx12_5, cx12_6, x12_0, x12_1, x12_2, x12_3, x12_4, x12_5, x12_6, HA, HKL12, BK4, HOx12_1, HOx12_4, HOx12_5, HOx12_6, BK1, BK2, HG4_, HG1_, HG2_, HB, HSL_⟩ := hrel
      rename World => wq12_
      replace HS := aHs HS HSL_.out
      clear HSL_
      replace HS := aHs HS HG4_.out
      clear HG4_
      replace HS := aHs HS HG1_.out
      clear HG1_
      replace HS := aHs HS HG2_.out
      clear HG2_
      cases gk with
      | zero => exact absurd HA.out (by simp [impl_DrainLink.l12])
      | succ kq12_ =>
       have H := HA.out
       clear HA
       simp only [impl_DrainLink.l12] at H
       have Q1 := blk7_ BK1.out
       have Q2 := blk7_ BK2.out
       have Q4 := blk7_ BK4.out
       replace H := oa_ H
       obtain ⟨⟨t25, t26, t27, t28, t29, t30, t31, t32⟩, A13, H⟩ := H
       try dsimp only at H
       replace H := A_.mk H
       go_wp2_with (fail)
       obtain ⟨fp13_, hfp_⟩ : ∃ f_ : Nat → Nat, ∀ k_, f_ k_ = (if ((w.heap.size ≤ k_ ∧ k_ < wq12_.heap.size) ∧ fx12_ k_ = 0) then 0 else (if ((w.heap.size ≤ k_ ∧ k_ < wq12_.heap.size) ∧ fx12_ k_ = 1) then 1 else (if ((w.heap.size ≤ k_ ∧ k_ < wq12_.heap.size) ∧ fx12_ k_ = 2) then 2 else (if ((w.heap.size ≤ k_ ∧ k_ < wq12_.heap.size) ∧ fx12_ k_ = 3) then 3 else 4)))) := ⟨fun k_ => (if ((w.heap.size ≤ k_ ∧ k_ < wq12_.heap.size) ∧ fx12_ k_ = 0) then 0 else (if ((w.heap.size ≤ k_ ∧ k_ < wq12_.heap.size) ∧ fx12_ k_ = 1) then 1 else (if ((w.heap.size ≤ k_ ∧ k_ < wq12_.heap.size) ∧ fx12_ k_ = 2) then 2 else (if ((w.heap.size ≤ k_ ∧ k_ < wq12_.heap.size) ∧ fx12_ k_ = 3) then 3 else 4)))), fun _ => rfl⟩
       have hcp1_ : ∀ k_, (((w.heap.size ≤ k_ ∧ k_ < wq12_.heap.size) ∧ fx12_ k_ = 0)) → ((w.heap.size ≤ k_ ∧ k_ < wq12_.heap.size) ∧ k_ ≠ gb4_ ∧ fp13_ k_ = 0) := fun k_ hk_ => ⟨by have := HS.out; omega, by have := HS.out; first | omega | (intro he_; subst he_; omega), by rw [hfp_]; have := HS.out; repeat' (first | omega | split)⟩
       have hcp4_ : ∀ k_, (((w.heap.size ≤ k_ ∧ k_ < wq12_.heap.size) ∧ fx12_ k_ = 1)) → ((w.heap.size ≤ k_ ∧ k_ < wq12_.heap.size) ∧ k_ ≠ gb4_ ∧ fp13_ k_ = 1) := fun k_ hk_ => ⟨by have := HS.out; omega, by have := HS.out; first | omega | (intro he_; subst he_; omega), by rw [hfp_]; have := HS.out; repeat' (first | omega | split)⟩
       have hcp5_ : ∀ k_, (((w.heap.size ≤ k_ ∧ k_ < wq12_.heap.size) ∧ fx12_ k_ = 2)) → ((w.heap.size ≤ k_ ∧ k_ < wq12_.heap.size) ∧ k_ ≠ gb4_ ∧ fp13_ k_ = 2) := fun k_ hk_ => ⟨by have := HS.out; omega, by have := HS.out; first | omega | (intro he_; subst he_; omega), by rw [hfp_]; have := HS.out; repeat' (first | omega | split)⟩
       have hcp6_ : ∀ k_, (((w.heap.size ≤ k_ ∧ k_ < wq12_.heap.size) ∧ fx12_ k_ = 3)) → ((w.heap.size ≤ k_ ∧ k_ < wq12_.heap.size) ∧ k_ ≠ gb4_ ∧ fp13_ k_ = 3) := fun k_ hk_ => ⟨by have := HS.out; omega, by have := HS.out; first | omega | (intro he_; subst he_; omega), by rw [hfp_]; have := HS.out; repeat' (first | omega | split)⟩
       have hfb1_ : fp13_ gb1_ = 4 := by rw [hfp_]; have := HS.out; repeat' (first | omega | split)
       have hfb2_ : fp13_ gb2_ = 4 := by rw [hfp_]; have := HS.out; repeat' (first | omega | split)
       refine (impl_Link_deliver.calls kq12_ gb4_ fp13_ x12_0 _ _ x12_1 x12_2 x12_3 _ _ x12_4 _ _ x12_5 _ _ x12_6 t25 t26 t27 t28 t29 t30 t31 t32 w _ HB.out (by have := HS.out; omega) BK4.out (Kd.S_mono HOx12_1.out hcp1_) (Kd.S_mono HOx12_4.out hcp4_) (Kd.S_mono HOx12_5.out hcp5_) (Kd.R_mono HOx12_6.out hcp6_) A13.out).mono ?_
       rintro e w13_ ⟨f13_, v0_, v1_, v2_, v3_, rfl, hbx_, ho1_, ho2_, ho3_, ho4_, hfk_, hbb, hkp⟩
       have hge1_ : 4 ≤ f13_ gb1_ := by have h1_ := hfk_ gb1_ (blk_lt BK1.out); have := hfb1_; have := HS.out; omega
       have hge2_ : 4 ≤ f13_ gb2_ := by have h1_ := hfk_ gb2_ (blk_lt BK2.out); have := hfb2_; have := HS.out; omega
       replace BK1 := A_.mk ((hkp.2 _ (blk_lt BK1.out) (fun _ => by have := hfb1_; have := HS.out; omega)).trans BK1.out)
       replace BK2 := A_.mk ((hkp.2 _ (blk_lt BK2.out) (fun _ => by have := hfb2_; have := HS.out; omega)).trans BK2.out)
       replace BK4 := A_.mk hbx_
       replace HB := A_.mk hbb
       replace HS := aHs HS hkp.1
       replace HS := aHs HS hge1_
       replace HS := aHs HS hge2_
       clear hfk_ hge1_ hge2_
       obtain ⟨Ao13_0, co13_0, ev_⟩ := Kd.S_slice ho1_
       subst ev_
       have HO13_0 := A_.mk ho1_
       obtain ⟨Ao13_1, co13_1, ev_⟩ := Kd.S_slice ho2_
       subst ev_
       have HO13_1 := A_.mk ho2_
       obtain ⟨Ao13_2, co13_2, ev_⟩ := Kd.S_slice ho3_
       subst ev_
       have HO13_2 := A_.mk ho3_
       obtain ⟨Ao13_3, co13_3, ev_⟩ := Kd.R_slice ho4_
       subst ev_
       have HO13_3 := A_.mk ho4_
       clear hkp hbx_ hbb hfp_ hcp1_ hcp4_ hcp5_ hcp6_ ho1_ ho2_ ho3_ ho4_ hfb1_ hfb2_ Q1 Q2 Q4
       have Q1 := blk7_ BK1.out
       have Q2 := blk7_ BK2.out
       have Q4 := blk7_ BK4.out
       replace H := H.out
       by_cases hc8_ : t25 = true
       case pos =>
        rw [if_pos hc8_] at H
        subst hc8_
        have HA := A_.mk H
        clear H
        go_wp2
        obtain ⟨fp22_, hfp_⟩ : ∃ f_ : Nat → Nat, ∀ k_, f_ k_ = (if ((w.heap.size ≤ k_ ∧ k_ < w13_.heap.size) ∧ k_ ≠ gb4_ ∧ f13_ k_ = 0) then 0 else (if ((w.heap.size ≤ k_ ∧ k_ < w13_.heap.size) ∧ k_ ≠ gb4_ ∧ f13_ k_ = 1) then 1 else (if ((w.heap.size ≤ k_ ∧ k_ < w13_.heap.size) ∧ k_ ≠ gb4_ ∧ f13_ k_ = 2) then 2 else (if ((w.heap.size ≤ k_ ∧ k_ < w13_.heap.size) ∧ k_ ≠ gb4_ ∧ f13_ k_ = 3) then 3 else 4)))) := ⟨fun k_ => (if ((w.heap.size ≤ k_ ∧ k_ < w13_.heap.size) ∧ k_ ≠ gb4_ ∧ f13_ k_ = 0) then 0 else (if ((w.heap.size ≤ k_ ∧ k_ < w13_.heap.size) ∧ k_ ≠ gb4_ ∧ f13_ k_ = 1) then 1 else (if ((w.heap.size ≤ k_ ∧ k_ < w13_.heap.size) ∧ k_ ≠ gb4_ ∧ f13_ k_ = 2) then 2 else (if ((w.heap.size ≤ k_ ∧ k_ < w13_.heap.size) ∧ k_ ≠ gb4_ ∧ f13_ k_ = 3) then 3 else 4)))), fun _ => rfl⟩
        have hcp0_ : ∀ k_, (((w.heap.size ≤ k_ ∧ k_ < w13_.heap.size) ∧ k_ ≠ gb4_ ∧ f13_ k_ = 0)) → ((w.heap.size ≤ k_ ∧ k_ < w13_.heap.size) ∧ fp22_ k_ = 0) := fun k_ hk_ => ⟨by have := HS.out; omega, by rw [hfp_]; have := HS.out; repeat' (first | omega | split)⟩
        have hcp1_ : ∀ k_, (((w.heap.size ≤ k_ ∧ k_ < w13_.heap.size) ∧ k_ ≠ gb4_ ∧ f13_ k_ = 1)) → ((w.heap.size ≤ k_ ∧ k_ < w13_.heap.size) ∧ fp22_ k_ = 1) := fun k_ hk_ => ⟨by have := HS.out; omega, by rw [hfp_]; have := HS.out; repeat' (first | omega | split)⟩
        have hcp2_ : ∀ k_, (((w.heap.size ≤ k_ ∧ k_ < w13_.heap.size) ∧ k_ ≠ gb4_ ∧ f13_ k_ = 2)) → ((w.heap.size ≤ k_ ∧ k_ < w13_.heap.size) ∧ fp22_ k_ = 2) := fun k_ hk_ => ⟨by have := HS.out; omega, by rw [hfp_]; have := HS.out; repeat' (first | omega | split)⟩
        have hcp3_ : ∀ k_, (((w.heap.size ≤ k_ ∧ k_ < w13_.heap.size) ∧ k_ ≠ gb4_ ∧ f13_ k_ = 3)) → ((w.heap.size ≤ k_ ∧ k_ < w13_.heap.size) ∧ fp22_ k_ = 3) := fun k_ hk_ => ⟨by have := HS.out; omega, by rw [hfp_]; have := HS.out; repeat' (first | omega | split)⟩
        have hfb1_ : fp22_ gb1_ = 4 := by rw [hfp_]; have := HS.out; repeat' (first | omega | split)
        have hfb2_ : fp22_ gb2_ = 4 := by rw [hfp_]; have := HS.out; repeat' (first | omega | split)
        have hfb4_ : fp22_ gb4_ = 4 := by rw [hfp_]; have := HS.out; repeat' (first | omega | split)
        go_roundg kq12_
        case measure => have := HKL12.out; omega
        case rel => exact ⟨fp22_, Ao13_0, Ao13_1, Ao13_2, Ao13_3, co13_0, co13_1, co13_2, co13_3, t26, t27, t28, t29, t30, t31, t32, HA, ⟨by have := HKL12.out; omega⟩, BK4, ⟨Kd.S_mono HO13_0.out hcp0_⟩, ⟨Kd.S_mono HO13_1.out hcp1_⟩, ⟨Kd.S_mono HO13_2.out hcp2_⟩, ⟨Kd.R_mono HO13_3.out hcp3_⟩, BK1, BK2, ⟨Nat.le_of_eq hfb4_.symm⟩, ⟨Nat.le_of_eq hfb1_.symm⟩, ⟨Nat.le_of_eq hfb2_.symm⟩, HB, ⟨(by have := HS.out; omega)⟩⟩
       rw [if_neg hc8_] at H
       replace hc8_ := eq_false_of_ne_true hc8_
       subst hc8_
       simp only [Option.some.injEq, Prod.mk.injEq] at H
       obtain ⟨rfl, rfl, rfl, rfl, rfl, rfl, rfl⟩ := H
       have H := HRL12.out
       clear HRL12
       (try dsimp only at H)
       replace H := ob_ H
       obtain ⟨⟨z14_0, z14_1, z14_2, z14_3, z14_4, z14_5, z14_6⟩, AL_, H⟩ := H
       have HRL14 := A_.mk H
       have AL14 := A_.mk AL_
       clear H AL_
       go_wp2
       obtain ⟨fp23_, hfp_⟩ : ∃ f_ : Nat → Nat, ∀ k_, f_ k_ = (if ((w.heap.size ≤ k_ ∧ k_ < w13_.heap.size) ∧ k_ ≠ gb4_ ∧ f13_ k_ = 0) then 0 else (if ((w.heap.size ≤ k_ ∧ k_ < w13_.heap.size) ∧ k_ ≠ gb4_ ∧ f13_ k_ = 1) then 1 else (if ((w.heap.size ≤ k_ ∧ k_ < w13_.heap.size) ∧ k_ ≠ gb4_ ∧ f13_ k_ = 2) then 2 else (if ((w.heap.size ≤ k_ ∧ k_ < w13_.heap.size) ∧ k_ ≠ gb4_ ∧ f13_ k_ = 3) then 3 else 4)))) := ⟨fun k_ => (if ((w.heap.size ≤ k_ ∧ k_ < w13_.heap.size) ∧ k_ ≠ gb4_ ∧ f13_ k_ = 0) then 0 else (if ((w.heap.size ≤ k_ ∧ k_ < w13_.heap.size) ∧ k_ ≠ gb4_ ∧ f13_ k_ = 1) then 1 else (if ((w.heap.size ≤ k_ ∧ k_ < w13_.heap.size) ∧ k_ ≠ gb4_ ∧ f13_ k_ = 2) then 2 else (if ((w.heap.size ≤ k_ ∧ k_ < w13_.heap.size) ∧ k_ ≠ gb4_ ∧ f13_ k_ = 3) then 3 else 4)))), fun _ => rfl⟩
       have hcp0_ : ∀ k_, (((w.heap.size ≤ k_ ∧ k_ < w13_.heap.size) ∧ k_ ≠ gb4_ ∧ f13_ k_ = 0)) → ((w.heap.size ≤ k_ ∧ k_ < w13_.heap.size) ∧ fp23_ k_ = 0) := fun k_ hk_ => ⟨by have := HS.out; omega, by rw [hfp_]; have := HS.out; repeat' (first | omega | split)⟩
       have hcp1_ : ∀ k_, (((w.heap.size ≤ k_ ∧ k_ < w13_.heap.size) ∧ k_ ≠ gb4_ ∧ f13_ k_ = 1)) → ((w.heap.size ≤ k_ ∧ k_ < w13_.heap.size) ∧ fp23_ k_ = 1) := fun k_ hk_ => ⟨by have := HS.out; omega, by rw [hfp_]; have := HS.out; repeat' (first | omega | split)⟩
       have hcp2_ : ∀ k_, (((w.heap.size ≤ k_ ∧ k_ < w13_.heap.size) ∧ k_ ≠ gb4_ ∧ f13_ k_ = 2)) → ((w.heap.size ≤ k_ ∧ k_ < w13_.heap.size) ∧ fp23_ k_ = 2) := fun k_ hk_ => ⟨by have := HS.out; omega, by rw [hfp_]; have := HS.out; repeat' (first | omega | split)⟩
       have hcp3_ : ∀ k_, (((w.heap.size ≤ k_ ∧ k_ < w13_.heap.size) ∧ k_ ≠ gb4_ ∧ f13_ k_ = 3)) → ((w.heap.size ≤ k_ ∧ k_ < w13_.heap.size) ∧ fp23_ k_ = 3) := fun k_ hk_ => ⟨by have := HS.out; omega, by rw [hfp_]; have := HS.out; repeat' (first | omega | split)⟩
       have hfb1_ : fp23_ gb1_ = 4 := by rw [hfp_]; have := HS.out; repeat' (first | omega | split)
       have hfb2_ : fp23_ gb2_ = 4 := by rw [hfp_]; have := HS.out; repeat' (first | omega | split)
       have hfb4_ : fp23_ gb4_ = 4 := by rw [hfp_]; have := HS.out; repeat' (first | omega | split)
       go_loopg [] kq7_ (fun kq  w' => ∃ (fx14_ : Nat → Nat) (Ax14_1 : Option Addr) (Ax14_4 : Option Addr) (Ax14_5 : Option Addr) (Ax14_6 : Option Addr) (cx14_1 : Nat) (cx14_4 : Nat) (cx14_5 : Nat) (cx14_6 : Nat) (x14_0 : Int) (x14_1 : List S68) (x14_2 : Int) (x14_3 : Int) (x14_4 : List (List Int)) (x14_5 : List (List Int)) (x14_6 : List Int), A_ (impl_DrainLink.l14 kq x14_0 x14_1 x14_2 x14_3 x14_4 x14_5 x14_6 = some (z14_0, z14_1, z14_2, z14_3, z14_4, z14_5, z14_6)) ∧ A_ (kq ≤ kq7_) ∧ A_ (w'.heap[gb4_]? = some (.cells #[.int .i64 x14_0, .slice Ax14_1 x14_1.length cx14_1, .int .i64 x14_2, .int .i64 x14_3, .slice Ax14_4 x14_4.length cx14_4, .slice Ax14_5 x14_5.length cx14_5, .slice Ax14_6 x14_6.length cx14_6] 34 (0, 0))) ∧ A_ (Kd.S k68 68 w' w.heap.size (fun k_ => (w.heap.size ≤ k_ ∧ k_ < w'.heap.size) ∧ fx14_ k_ = 0) (.slice Ax14_1 x14_1.length cx14_1) x14_1) ∧ A_ (Kd.S (Kd.slice 3 (Kd.int .i64)) 32 w' w.heap.size (fun k_ => (w.heap.size ≤ k_ ∧ k_ < w'.heap.size) ∧ fx14_ k_ = 1) (.slice Ax14_4 x14_4.length cx14_4) x14_4) ∧ A_ (Kd.S (Kd.slice 3 (Kd.int .i64)) 32 w' w.heap.size (fun k_ => (w.heap.size ≤ k_ ∧ k_ < w'.heap.size) ∧ fx14_ k_ = 2) (.slice Ax14_5 x14_5.length cx14_5) x14_5) ∧ A_ (Kd.R (Kd.int .i64) 3 w' w.heap.size (fun k_ => (w.heap.size ≤ k_ ∧ k_ < w'.heap.size) ∧ fx14_ k_ = 3) (.slice Ax14_6 x14_6.length cx14_6) x14_6) ∧ A_ (w'.heap[gb1_]? = some (.cells #[.int .i64 a0_0, .slice A0_1 l0_1.length c0_1, .int .i64 a0_2, .int .i64 a0_3, .slice A0_4 l0_4.length c0_4, .slice A0_5 l0_5.length c0_5, .slice A0_6 l0_6.length c0_6] 34 (0, 0))) ∧ A_ (w'.heap[gb2_]? = some (.cells #[.int .i64 0, .slice none 0 0, .int .i64 0, .int .i64 0, .slice none 0 0, .slice none 0 0, .slice none 0 0] 34 (0, 0))) ∧ A_ (4 ≤ fx14_ gb4_) ∧ A_ (4 ≤ fx14_ gb1_) ∧ A_ (4 ≤ fx14_ gb2_) ∧ A_ (Below w.heap.size w w') ∧ A_ (w13_.heap.size ≤ w'.heap.size))
       case atStart => exact ⟨fp23_, Ao13_0, Ao13_1, Ao13_2, Ao13_3, co13_0, co13_1, co13_2, co13_3, t26, t27, t28, t29, t30, t31, t32, AL14, ⟨Nat.le_refl _⟩, BK4, ⟨Kd.S_mono HO13_0.out hcp0_⟩, ⟨Kd.S_mono HO13_1.out hcp1_⟩, ⟨Kd.S_mono HO13_2.out hcp2_⟩, ⟨Kd.R_mono HO13_3.out hcp3_⟩, BK1, BK2, ⟨Nat.le_of_eq hfb4_.symm⟩, ⟨Nat.le_of_eq hfb1_.symm⟩, ⟨Nat.le_of_eq hfb2_.symm⟩, HB, ⟨Nat.le_refl _⟩⟩
       case round =>
        clear AL14 HB BK1 BK2 BK4 HO13_0 HO13_1 HO13_2 HO13_3 Q1 Q2 Q4 hfp_ hcp0_ hcp1_ hcp2_ hcp3_ hfb1_ hfb2_ hfb4_
        obtain ⟨fx14_, Ax14_1, Ax14_4, Ax14_5, Ax14_6, cx14_1, cx14_4, cx14_5, cx14_6, x14_0, x14_1, x14_2, x14_3, x14_4, x14_5, x14_6, HA, HKL14, BK4, HOx14_1, HOx14_4, HOx14_5, HOx14_6, BK1, BK2, HG4_, HG1_, HG2_, HB, HSL_⟩ := hrel
        rename World => wq14_
        replace HS := aHs HS HSL_.out
        clear HSL_
        replace HS := aHs HS HG4_.out
        clear HG4_
        replace HS := aHs HS HG1_.out
        clear HG1_
        replace HS := aHs HS HG2_.out
        clear HG2_
        cases gk with
        | zero => exact absurd HA.out (by simp [impl_DrainLink.l14])
        | succ kq14_ =>
         have H := HA.out
         clear HA
         simp only [impl_DrainLink.l14] at H
         have Q1 := blk7_ BK1.out
         have Q2 := blk7_ BK2.out
         have Q4 := blk7_ BK4.out
         replace H := oa_ H
         obtain ⟨⟨t33, t34, t35, t36, t37, t38, t39, t40⟩, A15, H⟩ := H
         try dsimp only at H
         replace H := A_.mk H
         go_wp2_with (fail)
         obtain ⟨fp15_, hfp_⟩ : ∃ f_ : Nat → Nat, ∀ k_, f_ k_ = (if ((w.heap.size ≤ k_ ∧ k_ < wq14_.heap.size) ∧ fx14_ k_ = 0) then 0 else (if ((w.heap.size ≤ k_ ∧ k_ < wq14_.heap.size) ∧ fx14_ k_ = 1) then 1 else (if ((w.heap.size ≤ k_ ∧ k_ < wq14_.heap.size) ∧ fx14_ k_ = 2) then 2 else (if ((w.heap.size ≤ k_ ∧ k_ < wq14_.heap.size) ∧ fx14_ k_ = 3) then 3 else 4)))) := ⟨fun k_ => (if ((w.heap.size ≤ k_ ∧ k_ < wq14_.heap.size) ∧ fx14_ k_ = 0) then 0 else (if ((w.heap.size ≤ k_ ∧ k_ < wq14_.heap.size) ∧ fx14_ k_ = 1) then 1 else (if ((w.heap.size ≤ k_ ∧ k_ < wq14_.heap.size) ∧ fx14_ k_ = 2) then 2 else (if ((w.heap.size ≤ k_ ∧ k_ < wq14_.heap.size) ∧ fx14_ k_ = 3) then 3 else 4)))), fun _ => rfl⟩
         have hcp1_ : ∀ k_, (((w.heap.size ≤ k_ ∧ k_ < wq14_.heap.size) ∧ fx14_ k_ = 0)) → ((w.heap.size ≤ k_ ∧ k_ < wq14_.heap.size) ∧ k_ ≠ gb4_ ∧ fp15_ k_ = 0) := fun k_ hk_ => ⟨by have := HS.out; omega, by have := HS.out; first | omega | (intro he_; subst he_; omega), by rw [hfp_]; have := HS.out; repeat' (first | omega | split)⟩
         have hcp4_ : ∀ k_, (((w.heap.size ≤ k_ ∧ k_ < wq14_.heap.size) ∧ fx14_ k_ = 1)) → ((w.heap.size ≤ k_ ∧ k_ < wq14_.heap.size) ∧ k_ ≠ gb4_ ∧ fp15_ k_ = 1) := fun k_ hk_ => ⟨by have := HS.out; omega, by have := HS.out; first | omega | (intro he_; subst he_; omega), by rw [hfp_]; have := HS.out; repeat' (first | omega | split)⟩
         have hcp5_ : ∀ k_, (((w.heap.size ≤ k_ ∧ k_ < wq14_.heap.size) ∧ fx14_ k_ = 2)) → ((w.heap.size ≤ k_ ∧ k_ < wq14_.heap.size) ∧ k_ ≠ gb4_ ∧ fp15_ k_ = 2) := fun k_ hk_ => ⟨by have := HS.out; omega, by have := HS.out; first | omega | (intro he_; subst he_; omega), by rw [hfp_]; have := HS.out; repeat' (first | omega | split)⟩
         have hcp6_ : ∀ k_, (((w.heap.size ≤ k_ ∧ k_ < wq14_.heap.size) ∧ fx14_ k_ = 3)) → ((w.heap.size ≤ k_ ∧ k_ < wq14_.heap.size) ∧ k_ ≠ gb4_ ∧ fp15_ k_ = 3) := fun k_ hk_ => ⟨by have := HS.out; omega, by have := HS.out; first | omega | (intro he_; subst he_; omega), by rw [hfp_]; have := HS.out; repeat' (first | omega | split)⟩
         have hfb1_ : fp15_ gb1_ = 4 := by rw [hfp_]; have := HS.out; repeat' (first | omega | split)
         have hfb2_ : fp15_ gb2_ = 4 := by rw [hfp_]; have := HS.out; repeat' (first | omega | split)
         refine (impl_Link_answer.calls kq14_ gb4_ fp15_ x14_0 _ _ x14_1 x14_2 x14_3 _ _ x14_4 _ _ x14_5 _ _ x14_6 t33 t34 t35 t36 t37 t38 t39 t40 w _ HB.out (by have := HS.out; omega) BK4.out (Kd.S_mono HOx14_1.out hcp1_) (Kd.S_mono HOx14_4.out hcp4_) (Kd.S_mono HOx14_5.out hcp5_) (Kd.R_mono HOx14_6.out hcp6_) A15.out).mono ?_
         rintro e w15_ ⟨f15_, v0_, v1_, v2_, v3_, rfl, hbx_, ho1_, ho2_, ho3_, ho4_, hfk_, hbb, hkp⟩
         have hge1_ : 4 ≤ f15_ gb1_ := by have h1_ := hfk_ gb1_ (blk_lt BK1.out); have := hfb1_; have := HS.out; omega
         have hge2_ : 4 ≤ f15_ gb2_ := by have h1_ := hfk_ gb2_ (blk_lt BK2.out); have := hfb2_; have := HS.out; omega
         replace BK1 := A_.mk ((hkp.2 _ (blk_lt BK1.out) (fun _ => by have := hfb1_; have := HS.out; omega)).trans BK1.out)
         replace BK2 := A_.mk ((hkp.2 _ (blk_lt BK2.out) (fun _ => by have := hfb2_; have := HS.out; omega)).trans BK2.out)
         replace BK4 := A_.mk hbx_
         replace HB := A_.mk hbb
         replace HS := aHs HS hkp.1
         replace HS := aHs HS hge1_
         replace HS := aHs HS hge2_
         clear hfk_ hge1_ hge2_
         obtain ⟨Ao15_0, co15_0, ev_⟩ := Kd.S_slice ho1_
         subst ev_
         have HO15_0 := A_.mk ho1_
         obtain ⟨Ao15_1, co15_1, ev_⟩ := Kd.S_slice ho2_
         subst ev_
         have HO15_1 := A_.mk ho2_
         obtain ⟨Ao15_2, co15_2, ev_⟩ := Kd.S_slice ho3_
         subst ev_
         have HO15_2 := A_.mk ho3_
         obtain ⟨Ao15_3, co15_3, ev_⟩ := Kd.R_slice ho4_
         subst ev_
         have HO15_3 := A_.mk ho4_
         clear hkp hbx_ hbb hfp_ hcp1_ hcp4_ hcp5_ hcp6_ ho1_ ho2_ ho3_ ho4_ hfb1_ hfb2_ Q1 Q2 Q4
         have Q1 := blk7_ BK1.out
         have Q2 := blk7_ BK2.out
         have Q4 := blk7_ BK4.out
         replace H := H.out
         by_cases hc9_ : t33 = true
         case pos =>
          rw [if_pos hc9_] at H
          subst hc9_
          have HA := A_.mk H
          clear H
          go_wp2
          obtain ⟨fp24_, hfp_⟩ : ∃ f_ : Nat → Nat, ∀ k_, f_ k_ = (if ((w.heap.size ≤ k_ ∧ k_ < w15_.heap.size) ∧ k_ ≠ gb4_ ∧ f15_ k_ = 0) then 0 else (if ((w.heap.size ≤ k_ ∧ k_ < w15_.heap.size) ∧ k_ ≠ gb4_ ∧ f15_ k_ = 1) then 1 else (if ((w.heap.size ≤ k_ ∧ k_ < w15_.heap.size) ∧ k_ ≠ gb4_ ∧ f15_ k_ = 2) then 2 else (if ((w.heap.size ≤ k_ ∧ k_ < w15_.heap.size) ∧ k_ ≠ gb4_ ∧ f15_ k_ = 3) then 3 else 4)))) := ⟨fun k_ => (if ((w.heap.size ≤ k_ ∧ k_ < w15_.heap.size) ∧ k_ ≠ gb4_ ∧ f15_ k_ = 0) then 0 else (if ((w.heap.size ≤ k_ ∧ k_ < w15_.heap.size) ∧ k_ ≠ gb4_ ∧ f15_ k_ = 1) then 1 else (if ((w.heap.size ≤ k_ ∧ k_ < w15_.heap.size) ∧ k_ ≠ gb4_ ∧ f15_ k_ = 2) then 2 else (if ((w.heap.size ≤ k_ ∧ k_ < w15_.heap.size) ∧ k_ ≠ gb4_ ∧ f15_ k_ = 3) then 3 else 4)))), fun _ => rfl⟩
          have hcp0_ : ∀ k_, (((w.heap.size ≤ k_ ∧ k_ < w15_.heap.size) ∧ k_ ≠ gb4_ ∧ f15_ k_ = 0)) → ((w.heap.size ≤ k_ ∧ k_ < w15_.heap.size) ∧ fp24_ k_ = 0) := fun k_ hk_ => ⟨by have := HS.out; omega, by rw [hfp_]; have := HS.out; repeat' (first | omega | split)⟩
          have hcp1_ : ∀ k_, (((w.heap.size ≤ k_ ∧ k_ < w15_.heap.size) ∧ k_ ≠ gb4_ ∧ f15_ k_ = 1)) → ((w.heap.size ≤ k_ ∧ k_ < w15_.heap.size) ∧ fp24_ k_ = 1) := fun k_ hk_ => ⟨by have := HS.out; omega, by rw [hfp_]; have := HS.out; repeat' (first | omega | split)⟩
          have hcp2_ : ∀ k_, (((w.heap.size ≤ k_ ∧ k_ < w15_.heap.size) ∧ k_ ≠ gb4_ ∧ f15_ k_ = 2)) → ((w.heap.size ≤ k_ ∧ k_ < w15_.heap.size) ∧ fp24_ k_ = 2) := fun k_ hk_ => ⟨by have := HS.out; omega, by rw [hfp_]; have := HS.out; repeat' (first | omega | split)⟩
          have hcp3_ : ∀ k_, (((w.heap.size ≤ k_ ∧ k_ < w15_.heap.size) ∧ k_ ≠ gb4_ ∧ f15_ k_ = 3)) → ((w.heap.size ≤ k_ ∧ k_ < w15_.heap.size) ∧ fp24_ k_ = 3) := fun k_ hk_ => ⟨by have := HS.out; omega, by rw [hfp_]; have := HS.out; repeat' (first | omega | split)⟩
          have hfb1_ : fp24_ gb1_ = 4 := by rw [hfp_]; have := HS.out; repeat' (first | omega | split)
          have hfb2_ : fp24_ gb2_ = 4 := by rw [hfp_]; have := HS.out; repeat' (first | omega | split)
          have hfb4_ : fp24_ gb4_ = 4 := by rw [hfp_]; have := HS.out; repeat' (first | omega | split)
          go_roundg kq14_
          case measure => have := HKL14.out; omega
          case rel => exact ⟨fp24_, Ao15_0, Ao15_1, Ao15_2, Ao15_3, co15_0, co15_1, co15_2, co15_3, t34, t35, t36, t37, t38, t39, t40, HA, ⟨by have := HKL14.out; omega⟩, BK4, ⟨Kd.S_mono HO15_0.out hcp0_⟩, ⟨Kd.S_mono HO15_1.out hcp1_⟩, ⟨Kd.S_mono HO15_2.out hcp2_⟩, ⟨Kd.R_mono HO15_3.out hcp3_⟩, BK1, BK2, ⟨Nat.le_of_eq hfb4_.symm⟩, ⟨Nat.le_of_eq hfb1_.symm⟩, ⟨Nat.le_of_eq hfb2_.symm⟩, HB, ⟨(by have := HS.out; omega)⟩⟩
         rw [if_neg hc9_] at H
         replace hc9_ := eq_false_of_ne_true hc9_
         subst hc9_
         simp only [Option.some.injEq, Prod.mk.injEq] at H
         obtain ⟨rfl, rfl, rfl, rfl, rfl, rfl, rfl⟩ := H
         have H := HRL14.out
         clear HRL14
         (try dsimp only at H)
         have HA := A_.mk H
         clear H
         go_wp2
         obtain ⟨fp25_, hfp_⟩ : ∃ f_ : Nat → Nat, ∀ k_, f_ k_ = (if ((w.heap.size ≤ k_ ∧ k_ < w15_.heap.size) ∧ k_ ≠ gb4_ ∧ f15_ k_ = 0) then 0 else (if ((w.heap.size ≤ k_ ∧ k_ < w15_.heap.size) ∧ k_ ≠ gb4_ ∧ f15_ k_ = 1) then 1 else (if ((w.heap.size ≤ k_ ∧ k_ < w15_.heap.size) ∧ k_ ≠ gb4_ ∧ f15_ k_ = 2) then 2 else (if ((w.heap.size ≤ k_ ∧ k_ < w15_.heap.size) ∧ k_ ≠ gb4_ ∧ f15_ k_ = 3) then 3 else 4)))) := ⟨fun k_ => (if ((w.heap.size ≤ k_ ∧ k_ < w15_.heap.size) ∧ k_ ≠ gb4_ ∧ f15_ k_ = 0) then 0 else (if ((w.heap.size ≤ k_ ∧ k_ < w15_.heap.size) ∧ k_ ≠ gb4_ ∧ f15_ k_ = 1) then 1 else (if ((w.heap.size ≤ k_ ∧ k_ < w15_.heap.size) ∧ k_ ≠ gb4_ ∧ f15_ k_ = 2) then 2 else (if ((w.heap.size ≤ k_ ∧ k_ < w15_.heap.size) ∧ k_ ≠ gb4_ ∧ f15_ k_ = 3) then 3 else 4)))), fun _ => rfl⟩
         have hcp0_ : ∀ k_, (((w.heap.size ≤ k_ ∧ k_ < w15_.heap.size) ∧ k_ ≠ gb4_ ∧ f15_ k_ = 0)) → ((w.heap.size ≤ k_ ∧ k_ < w15_.heap.size) ∧ fp25_ k_ = 0) := fun k_ hk_ => ⟨by have := HS.out; omega, by rw [hfp_]; have := HS.out; repeat' (first | omega | split)⟩
         have hcp1_ : ∀ k_, (((w.heap.size ≤ k_ ∧ k_ < w15_.heap.size) ∧ k_ ≠ gb4_ ∧ f15_ k_ = 1)) → ((w.heap.size ≤ k_ ∧ k_ < w15_.heap.size) ∧ fp25_ k_ = 1) := fun k_ hk_ => ⟨by have := HS.out; omega, by rw [hfp_]; have := HS.out; repeat' (first | omega | split)⟩
         have hcp2_ : ∀ k_, (((w.heap.size ≤ k_ ∧ k_ < w15_.heap.size) ∧ k_ ≠ gb4_ ∧ f15_ k_ = 2)) → ((w.heap.size ≤ k_ ∧ k_ < w15_.heap.size) ∧ fp25_ k_ = 2) := fun k_ hk_ => ⟨by have := HS.out; omega, by rw [hfp_]; have := HS.out; repeat' (first | omega | split)⟩
         have hcp3_ : ∀ k_, (((w.heap.size ≤ k_ ∧ k_ < w15_.heap.size) ∧ k_ ≠ gb4_ ∧ f15_ k_ = 3)) → ((w.heap.size ≤ k_ ∧ k_ < w15_.heap.size) ∧ fp25_ k_ = 3) := fun k_ hk_ => ⟨by have := HS.out; omega, by rw [hfp_]; have := HS.out; repeat' (first | omega | split)⟩
         have hfb1_ : fp25_ gb1_ = 4 := by rw [hfp_]; have := HS.out; repeat' (first | omega | split)
         have hfb2_ : fp25_ gb2_ = 4 := by rw [hfp_]; have := HS.out; repeat' (first | omega | split)
         have hfb4_ : fp25_ gb4_ = 4 := by rw [hfp_]; have := HS.out; repeat' (first | omega | split)
         go_roundg kq7_
         case measure => have := HKL7.out; omega
         case rel => exact ⟨fp25_, Ao15_0, Ao15_1, Ao15_2, Ao15_3, co15_0, co15_1, co15_2, co15_3, (wrap64 (x7_s10 + 1)), t34, t35, t36, t37, t38, t39, t40, (by first | rfl | (simp; done) | (simp [*]; done)), HA, ⟨by have := HKL7.out; omega⟩, BK4, ⟨Kd.S_mono HO15_0.out hcp0_⟩, ⟨Kd.S_mono HO15_1.out hcp1_⟩, ⟨Kd.S_mono HO15_2.out hcp2_⟩, ⟨Kd.R_mono HO15_3.out hcp3_⟩, BK1, BK2, ⟨Nat.le_of_eq hfb4_.symm⟩, ⟨Nat.le_of_eq hfb1_.symm⟩, ⟨Nat.le_of_eq hfb2_.symm⟩, HB, ⟨(by have := HS.out; omega)⟩⟩
end Go.Proofs.Ytflopendlbciaaa.PFnLinkOnce
