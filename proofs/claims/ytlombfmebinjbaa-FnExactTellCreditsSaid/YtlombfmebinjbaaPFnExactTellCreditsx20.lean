-- Written by a program of this session (wip/xp): not trusted, Lean checks it.
import Derived.Test.YtlombfmebinjbaaPFnExactTellCreditsx0
import Derived.Test.YtlombfmebinjbaaPFnExactTellCreditsx1
import Derived.Test.YtlombfmebinjbaaPFnExactTellCreditsx12
import Derived.Test.YtlombfmebinjbaaPFnExactTellCreditsx13
import Derived.Test.YtlombfmebinjbaaPFnExactTellCreditsx14
import Derived.Test.YtlombfmebinjbaaPFnExactTellCreditsx16
import Derived.Test.YtlombfmebinjbaaPFnExactTellCreditsx17
import Derived.Test.YtlombfmebinjbaaPFnExactTellCreditsx18
import Derived.Test.YtlombfmebinjbaaPFnExactTellCreditsx19
namespace Go.Proofs.Ytlombfmebinjbaa.PFnExactTellCredits
open Go.RowKit Go.Proofs.YtlombfmebinjbaaW.PrintWords Go.Proofs.YtlombfmebinjbaaW.PrintLast Go.Proofs.YtlombfmebinjbaaW.PrintMore
attribute [local go_sem] max2_int min2_int max_two min_two max_three min_three max_four min_four   -- for this text's walks alone
set_option linter.unusedVariables false
set_option linter.unusedSimpArgs false

/-! ### impl_ReturnCredits: function 63, its calls in a row -/
def impl_ReturnCredits.f (k : Nat) (l0_0 : List Int) (l0_1 : List Int) (a1_0 : Int) (a1_1 : Int) (a1_2 : Int) (a1_3 : Int) (a1_4 : Int) (a1_5 : Int) (a1_6 : Int) (l1_7 : List Int) : Option ((List Int) × (List Int) × (Bool)) := ((impl_copyCredits.f l0_0 l0_1).bind fun ⟨t1, t2⟩ => ((impl_CreditsOk.f k l0_0 l0_1).bind fun t3 => (if t3 = true then ((impl_IsPacket.f k a1_0 a1_1 a1_2 a1_3 a1_4 a1_5 a1_6 l1_7).bind fun t4 => (if t4 = true then ((impl_ClassOf.f k a1_0 a1_1 a1_2 a1_3 a1_4 a1_5 a1_6 l1_7).bind fun t5 => (if 0 ≤ t5 then (if t5 < (t1.length : Int) then (if 0 ≤ t5 then (if t5 < (t2.length : Int) then ((impl_PacketUnits.f k a1_0 a1_1 a1_2 a1_3 a1_4 a1_5 a1_6 l1_7).bind fun t7 => ((impl_CreditsOk.f k (t1.set (t5).toNat (wrap64 ((rd t1 t5) + 1))) (t2.set (t5).toNat (wrap64 ((rd t2 t5) + t7)))).bind fun t9 => (if t9 = true then (some ((t1.set (t5).toNat (wrap64 ((rd t1 t5) + 1))), (t2.set (t5).toNat (wrap64 ((rd t2 t5) + t7))), true)) else ((impl_copyCredits.f l0_0 l0_1).bind fun ⟨t10, t11⟩ => (some (t10, t11, false)))))) else none) else none) else none) else none)) else (some (t1, t2, false)))) else (some (t1, t2, false)))))
set_option maxHeartbeats 8000000 in
set_option maxRecDepth 100000 in
theorem impl_ReturnCredits.calls (k : Nat) (A0_0 : Option Addr) (c0_0 : Nat) (l0_0 : List Int) (A0_1 : Option Addr) (c0_1 : Nat) (l0_1 : List Int) (a1_0 : Int) (a1_1 : Int) (a1_2 : Int) (a1_3 : Int) (a1_4 : Int) (a1_5 : Int) (a1_6 : Int) (A1_7 : Option Addr) (c1_7 : Nat) (l1_7 : List Int) (r1 : List Int) (r2 : List Int) (r3 : Bool) (w : World) (hr0_0 : Kd.C (Kd.int .i64) w A0_0 l0_0.length l0_0) (hc0_0 : l0_0.length ≤ c0_0) (hr0_1 : Kd.C (Kd.int .i64) w A0_1 l0_1.length l0_1) (hc0_1 : l0_1.length ≤ c0_1) (hr1_7 : Kd.C (Kd.int .i64) w A1_7 l1_7.length l1_7) (hc1_7 : l1_7.length ≤ c1_7) (h : impl_ReturnCredits.f k l0_0 l0_1 a1_0 a1_1 a1_2 a1_3 a1_4 a1_5 a1_6 l1_7 = some (r1, r2, r3)) :
  Calls Try.prog 63 #[.agg #[.slice A0_0 l0_0.length c0_0, .slice A0_1 l0_1.length c0_1], .agg #[.int .i64 a1_0, .int .i64 a1_1, .int .i64 a1_2, .int .i64 a1_3, .int .i64 a1_4, .int .i64 a1_5, .int .i64 a1_6, .slice A1_7 l1_7.length c1_7]] w fun e w' => ∃ f_ : Nat → Nat, ∃ v0_ v1_ : Value, e = .returned (.tuple #[.agg #[v0_, v1_], .bool r3]) ∧ Kd.R (Kd.int .i64) 3 w' w.heap.size (fun k_ => f_ k_ = 0) v0_ r1 ∧ Kd.R (Kd.int .i64) 3 w' w.heap.size (fun k_ => f_ k_ = 1) v1_ r2 ∧ Below w.heap.size w w' := by
 have HR0_0 := A_.mk hr0_0
 have HC0_0 := A_.mk hc0_0
 clear hr0_0 hc0_0
 have HR0_1 := A_.mk hr0_1
 have HC0_1 := A_.mk hc0_1
 clear hr0_1 hc0_1
 have HR1_7 := A_.mk hr1_7
 have HC1_7 := A_.mk hc1_7
 clear hr1_7 hc1_7
 have HB := A_.mk (Below.refl w.heap.size w)
 unfold impl_ReturnCredits.f at h
 have H := h
 clear h
 replace H := oa_ H
 obtain ⟨⟨t1, t2⟩, A4, H⟩ := H
 try dsimp only at H
 replace H := oa_ H
 obtain ⟨t3, A7, H⟩ := H
 replace H := A_.mk H
 have hu30 := Try.underlying30
 have hu38 := Try.underlying38
 go_enter Try.func63, Try.ntmps63
 have HS := A_.mk (Nat.le_refl w.heap.size)
 go_wp2_with (first | ((with_reducible refine gd_ (N := 2) rfl ?_); refine by_ 2 (cs := #[.slice A0_0 l0_0.length c0_0, .slice A0_1 l0_1.length c0_1]) (t := 30) ?_; intro gb1_ hg w1_ hbox hb; replace HS := A_.mk (And.intro HS.out (show gb1_ = w.heap.size ∧ gb1_ < w1_.heap.size from ⟨hg, blk_lt hbox⟩)); replace HB := aHB HB hb; have BK1 := A_.mk hbox; clear hbox hb hg; have Q1 := blk2_ BK1.out) | ((with_reducible refine gd_ (N := 3) rfl ?_); refine by_ 3 (cs := #[.int .i64 a1_0, .int .i64 a1_1, .int .i64 a1_2, .int .i64 a1_3, .int .i64 a1_4, .int .i64 a1_5, .int .i64 a1_6, .slice A1_7 l1_7.length c1_7]) (t := 38) ?_; intro gb2_ hg w2_ hbox hb; replace HS := A_.mk (And.intro HS.out (show gb2_ = w1_.heap.size ∧ gb2_ < w2_.heap.size from ⟨hg, blk_lt hbox⟩)); replace BK1 := aBb BK1 hb; replace HB := aHB HB hb; have BK2 := A_.mk hbox; clear hbox hb hg Q1; have Q1 := blk2_ BK1.out; have Q2 := blk8_ BK2.out) | ((with_reducible refine gd_ (N := 4) rfl ?_); refine by_ 4 (cs := #[.slice none 0 0, .slice none 0 0]) (t := 30) ?_; intro gb3_ hg w3_ hbox hb; replace HS := A_.mk (And.intro HS.out (show gb3_ = w2_.heap.size ∧ gb3_ < w3_.heap.size from ⟨hg, blk_lt hbox⟩)); replace BK1 := aBb BK1 hb; replace BK2 := aBb BK2 hb; replace HB := aHB HB hb; have BK3 := A_.mk hbox; clear hbox hb hg Q1 Q2; have Q1 := blk2_ BK1.out; have Q2 := blk8_ BK2.out; have Q3 := blk2_ BK3.out) | ((with_reducible refine gc_ (f := 41) rfl ?_); refine gl_ (some 9) Try.func41 #[.agg #[.slice A0_0 l0_0.length c0_0, .slice A0_1 l0_1.length c0_1]] ?_; (with_reducible refine (impl_copyCredits.calls _ _ l0_0 _ _ l0_1 t1 t2 _ (Kd.C_below HR0_0.out HB.out) HC0_0.out (Kd.C_below HR0_1.out HB.out) HC0_1.out A4.out).mono ?_); rintro e w4_ ⟨v0_, v1_, rfl, ho0_, ho1_, hb⟩; refine ⟨_, rfl, ?_⟩; obtain ⟨f4_, hn0_, hn1_⟩ := two_col ho0_ ho1_; clear ho0_ ho1_; replace HS := aHs HS hb.size; obtain ⟨Ao4_0, co4_0, ev_⟩ := Kd.R_slice hn0_; subst ev_; have HO4_0 := aRn hn0_ HB.out.size; obtain ⟨Ao4_1, co4_1, ev_⟩ := Kd.R_slice hn1_; subst ev_; have HO4_1 := aRn hn1_ HB.out.size; replace BK1 := aBb BK1 hb; replace BK2 := aBb BK2 hb; replace BK3 := aBb BK3 hb; replace HB := aHB HB hb; clear hb hn0_ hn1_ Q1 Q2 Q3; have Q1 := blk2_ BK1.out; have Q2 := blk8_ BK2.out; have Q3 := blk2_ BK3.out) | ((with_reducible refine gd_ (N := 6) rfl ?_); refine by_ 6 (cs := #[.slice none 0 0, .slice none 0 0]) (t := 30) ?_; intro gb5_ hg w5_ hbox hb; replace HS := A_.mk (And.intro HS.out (show gb5_ = w4_.heap.size ∧ gb5_ < w5_.heap.size from ⟨hg, blk_lt hbox⟩)); replace HO4_0 := aRb HO4_0 hb; replace HO4_1 := aRb HO4_1 hb; replace BK1 := aBb BK1 hb; replace BK2 := aBb BK2 hb; replace BK3 := aBb BK3 hb; replace HB := aHB HB hb; have BK5 := A_.mk hbox; clear hbox hb hg Q1 Q2 Q3; have Q1 := blk2_ BK1.out; have Q2 := blk8_ BK2.out; have Q3 := blk2_ BK3.out; have Q5 := blk2_ BK5.out) | ((with_reducible refine gs_ (t := 30) (p := 6) rfl ?_); have qf0 := bf_ BK5.out 0; have qf1 := bf_ BK5.out 1; refine se_ (t := 30) (p := 6) (v := ?vo_6) (w1 := (ch2_ w5_ gb5_ (.slice Ao4_0 t1.length co4_0) (.slice Ao4_1 t2.length co4_1))) ?hg ?ho ?hn ?hr ?_; (case ho => rfl); (case hg => rfl); (case hn => rfl); (case hr => first | (go_simp; done) | (go_simp; rfl)); intro w6_ hw; clear qf0 qf1; obtain ⟨hbx, hkp, hbb⟩ := st2_ hw BK5 HB (by have := HS.out; omega); clear hw; replace HO4_0 := aRk HO4_0 hkp HS; replace HO4_1 := aRk HO4_1 hkp HS; replace BK1 := aBk BK1 hkp HS; replace BK2 := aBk BK2 hkp HS; replace BK3 := aBk BK3 hkp HS; replace BK5 := A_.mk hbx; replace HB := A_.mk hbb; replace HS := aHs HS hkp.1; clear hkp hbb hbx Q1 Q2 Q3 Q5; have Q1 := blk2_ BK1.out; have Q2 := blk8_ BK2.out; have Q3 := blk2_ BK3.out; have Q5 := blk2_ BK5.out))
 (with_reducible refine (impl_CreditsOk.calls k _ _ l0_0 _ _ l0_1 t3 _ (Kd.C_below HR0_0.out HB.out) HC0_0.out (Kd.C_below HR0_1.out HB.out) HC0_1.out A7.out).mono ?_)
 rintro e w7_ ⟨rfl, hb⟩
 replace HS := aHs HS hb.size
 replace HO4_0 := aRb HO4_0 hb
 replace HO4_1 := aRb HO4_1 hb
 replace BK1 := aBb BK1 hb
 replace BK2 := aBb BK2 hb
 replace BK3 := aBb BK3 hb
 replace BK5 := aBb BK5 hb
 replace HB := aHB HB hb
 clear hb  Q1 Q2 Q3 Q5
 have Q1 := blk2_ BK1.out
 have Q2 := blk8_ BK2.out
 have Q3 := blk2_ BK3.out
 have Q5 := blk2_ BK5.out
 replace H := H.out
 by_cases hc1_ : t3 = true
 case neg =>
  rw [if_neg hc1_] at H
  replace hc1_ := eq_false_of_ne_true hc1_
  subst hc1_
  simp only [Option.some.injEq, Prod.mk.injEq] at H
  obtain ⟨rfl, rfl, rfl⟩ := H
  go_wp2_with (first | ((with_reducible refine gs_ (t := 30) (p := 4) rfl ?_); have qf0 := bf_ BK3.out 0; have qf1 := bf_ BK3.out 1; refine se_ (t := 30) (p := 4) (v := ?vo_20) (w1 := (ch2_ w7_ gb3_ (.slice Ao4_0 t1.length co4_0) (.slice Ao4_1 t2.length co4_1))) ?hg ?ho ?hn ?hr ?_; (case ho => rfl); (case hg => rfl); (case hn => rfl); (case hr => first | (go_simp; done) | (go_simp; rfl)); intro w20_ hw; clear qf0 qf1; obtain ⟨hbx, hkp, hbb⟩ := st2_ hw BK3 HB (by have := HS.out; omega); clear hw; replace HO4_0 := aRk HO4_0 hkp HS; replace HO4_1 := aRk HO4_1 hkp HS; replace BK1 := aBk BK1 hkp HS; replace BK2 := aBk BK2 hkp HS; replace BK5 := aBk BK5 hkp HS; replace BK3 := A_.mk hbx; replace HB := A_.mk hbb; replace HS := aHs HS hkp.1; clear hkp hbb hbx Q1 Q2 Q3 Q5; have Q1 := blk2_ BK1.out; have Q2 := blk8_ BK2.out; have Q3 := blk2_ BK3.out; have Q5 := blk2_ BK5.out))
  refine bodyPost_ret (results_ct rfl _ _ gb3_ 30 #[.slice Ao4_0 t1.length co4_0, .slice Ao4_1 t2.length co4_1] (0, 0) _ rfl BK3.out Try.underlying30 rfl (by kernel_rfl)) rfl ?_
  obtain ⟨f_, hf_⟩ : ∃ f_ : Nat → Nat, ∀ k_, f_ k_ = (if ((w3_.heap.size ≤ k_ ∧ k_ < w4_.heap.size) ∧ f4_ k_ = 0) then 0 else (if ((w3_.heap.size ≤ k_ ∧ k_ < w4_.heap.size) ∧ f4_ k_ = 1) then 1 else 0)) := ⟨fun k_ => (if ((w3_.heap.size ≤ k_ ∧ k_ < w4_.heap.size) ∧ f4_ k_ = 0) then 0 else (if ((w3_.heap.size ≤ k_ ∧ k_ < w4_.heap.size) ∧ f4_ k_ = 1) then 1 else 0)), fun _ => rfl⟩
  have hcol0_ : ∀ k_, (((w3_.heap.size ≤ k_ ∧ k_ < w4_.heap.size) ∧ f4_ k_ = 0)) → f_ k_ = 0 := fun k_ hk_ => by rw [hf_]; have := HS.out; repeat' (first | omega | split)
  have hcol1_ : ∀ k_, (((w3_.heap.size ≤ k_ ∧ k_ < w4_.heap.size) ∧ f4_ k_ = 1)) → f_ k_ = 1 := fun k_ hk_ => by rw [hf_]; have := HS.out; repeat' (first | omega | split)
  exact ⟨f_, _, _, rfl, Kd.R_mono HO4_0.out hcol0_, Kd.R_mono HO4_1.out hcol1_, HB.out⟩
 rw [if_pos hc1_] at H
 subst hc1_
 replace H := oa_ H
 obtain ⟨t4, A8, H⟩ := H
 replace H := A_.mk H
 go_wp2_with (fail)
 (with_reducible refine (impl_IsPacket.calls k a1_0 a1_1 a1_2 a1_3 a1_4 a1_5 a1_6 _ _ l1_7 t4 _ (Kd.C_below HR1_7.out HB.out) HC1_7.out A8.out).mono ?_)
 rintro e w8_ ⟨rfl, hb⟩
 replace HS := aHs HS hb.size
 replace HO4_0 := aRb HO4_0 hb
 replace HO4_1 := aRb HO4_1 hb
 replace BK1 := aBb BK1 hb
 replace BK2 := aBb BK2 hb
 replace BK3 := aBb BK3 hb
 replace BK5 := aBb BK5 hb
 replace HB := aHB HB hb
 clear hb  Q1 Q2 Q3 Q5
 have Q1 := blk2_ BK1.out
 have Q2 := blk8_ BK2.out
 have Q3 := blk2_ BK3.out
 have Q5 := blk2_ BK5.out
 replace H := H.out
 by_cases hc2_ : t4 = true
 case neg =>
  rw [if_neg hc2_] at H
  replace hc2_ := eq_false_of_ne_true hc2_
  subst hc2_
  simp only [Option.some.injEq, Prod.mk.injEq] at H
  obtain ⟨rfl, rfl, rfl⟩ := H
  go_wp2_with (first | ((with_reducible refine gs_ (t := 30) (p := 4) rfl ?_); have qf0 := bf_ BK3.out 0; have qf1 := bf_ BK3.out 1; refine se_ (t := 30) (p := 4) (v := ?vo_19) (w1 := (ch2_ w8_ gb3_ (.slice Ao4_0 t1.length co4_0) (.slice Ao4_1 t2.length co4_1))) ?hg ?ho ?hn ?hr ?_; (case ho => rfl); (case hg => rfl); (case hn => rfl); (case hr => first | (go_simp; done) | (go_simp; rfl)); intro w19_ hw; clear qf0 qf1; obtain ⟨hbx, hkp, hbb⟩ := st2_ hw BK3 HB (by have := HS.out; omega); clear hw; replace HO4_0 := aRk HO4_0 hkp HS; replace HO4_1 := aRk HO4_1 hkp HS; replace BK1 := aBk BK1 hkp HS; replace BK2 := aBk BK2 hkp HS; replace BK5 := aBk BK5 hkp HS; replace BK3 := A_.mk hbx; replace HB := A_.mk hbb; replace HS := aHs HS hkp.1; clear hkp hbb hbx Q1 Q2 Q3 Q5; have Q1 := blk2_ BK1.out; have Q2 := blk8_ BK2.out; have Q3 := blk2_ BK3.out; have Q5 := blk2_ BK5.out))
  refine bodyPost_ret (results_ct rfl _ _ gb3_ 30 #[.slice Ao4_0 t1.length co4_0, .slice Ao4_1 t2.length co4_1] (0, 0) _ rfl BK3.out Try.underlying30 rfl (by kernel_rfl)) rfl ?_
  obtain ⟨f_, hf_⟩ : ∃ f_ : Nat → Nat, ∀ k_, f_ k_ = (if ((w3_.heap.size ≤ k_ ∧ k_ < w4_.heap.size) ∧ f4_ k_ = 0) then 0 else (if ((w3_.heap.size ≤ k_ ∧ k_ < w4_.heap.size) ∧ f4_ k_ = 1) then 1 else 0)) := ⟨fun k_ => (if ((w3_.heap.size ≤ k_ ∧ k_ < w4_.heap.size) ∧ f4_ k_ = 0) then 0 else (if ((w3_.heap.size ≤ k_ ∧ k_ < w4_.heap.size) ∧ f4_ k_ = 1) then 1 else 0)), fun _ => rfl⟩
  have hcol0_ : ∀ k_, (((w3_.heap.size ≤ k_ ∧ k_ < w4_.heap.size) ∧ f4_ k_ = 0)) → f_ k_ = 0 := fun k_ hk_ => by rw [hf_]; have := HS.out; repeat' (first | omega | split)
  have hcol1_ : ∀ k_, (((w3_.heap.size ≤ k_ ∧ k_ < w4_.heap.size) ∧ f4_ k_ = 1)) → f_ k_ = 1 := fun k_ hk_ => by rw [hf_]; have := HS.out; repeat' (first | omega | split)
  exact ⟨f_, _, _, rfl, Kd.R_mono HO4_0.out hcol0_, Kd.R_mono HO4_1.out hcol1_, HB.out⟩
 rw [if_pos hc2_] at H
 subst hc2_
 replace H := oa_ H
 obtain ⟨t5, A9, H⟩ := H
 by_cases hp10_ : 0 ≤ t5
 case neg => rw [if_neg hp10_] at H; cases H
 rw [if_pos hp10_] at H
 by_cases hq10_ : t5 < (t1.length : Int)
 case neg => rw [if_neg hq10_] at H; cases H
 rw [if_pos hq10_] at H
 have EB10 := A_.mk (And.intro hp10_ hq10_)
 replace hp10_ := eq_true hp10_
 replace hq10_ := eq_true hq10_
 obtain ⟨y6, Ny6⟩ : ∃ q_, q_ = (t1.set (t5).toNat (wrap64 ((rd t1 t5) + 1))) := ⟨_, rfl⟩
 rw [← Ny6] at H
 replace Ny6 := A_.mk Ny6
 by_cases hp12_ : 0 ≤ t5
 case neg => rw [if_neg hp12_] at H; cases H
 rw [if_pos hp12_] at H
 by_cases hq12_ : t5 < (t2.length : Int)
 case neg => rw [if_neg hq12_] at H; cases H
 rw [if_pos hq12_] at H
 have EB12 := A_.mk (And.intro hp12_ hq12_)
 replace hp12_ := eq_true hp12_
 replace hq12_ := eq_true hq12_
 replace H := oa_ H
 obtain ⟨t7, A13, H⟩ := H
 obtain ⟨y8, Ny8⟩ : ∃ q_, q_ = (t2.set (t5).toNat (wrap64 ((rd t2 t5) + t7))) := ⟨_, rfl⟩
 rw [← Ny8] at H
 replace Ny8 := A_.mk Ny8
 replace H := oa_ H
 obtain ⟨t9, A15, H⟩ := H
 replace H := A_.mk H
 go_wp2_with (fail)
 (with_reducible refine (impl_ClassOf.calls k a1_0 a1_1 a1_2 a1_3 a1_4 a1_5 a1_6 _ _ l1_7 t5 _ (Kd.C_below HR1_7.out HB.out) HC1_7.out A9.out).mono ?_)
 rintro e w9_ ⟨rfl, hb⟩
 replace HS := aHs HS hb.size
 replace HO4_0 := aRb HO4_0 hb
 replace HO4_1 := aRb HO4_1 hb
 replace BK1 := aBb BK1 hb
 replace BK2 := aBb BK2 hb
 replace BK3 := aBb BK3 hb
 replace BK5 := aBb BK5 hb
 replace HB := aHB HB hb
 clear hb  Q1 Q2 Q3 Q5
 have Q1 := blk2_ BK1.out
 have Q2 := blk8_ BK2.out
 have Q3 := blk2_ BK3.out
 have Q5 := blk2_ BK5.out
 obtain ⟨gHO4_0_, ed_⟩ := R_at0 HO4_0.out (by have := EB10.out; omega)
 subst ed_
 have QE10 := rcl_ HO4_0.out EB10.out
 have QF10 := rcf_ HO4_0.out EB10.out
 go_wp2_with (first | ((with_reducible refine gs_ (t := 3) (p := 27) rfl ?_); refine se_ (t := 3) (p := 27) (v := ?vo_11) (w1 := w9_.setCell ⟨gHO4_0_, (t5).toNat, none⟩ (.int .i64 (wrap64 ((rd t1 t5) + 1)))) ?hg ?ho ?hn ?hr ?_; (case ho => rfl); (case hg => rfl); (case hn => rfl); (case hr => first | (go_simp; done) | (go_simp; rfl)); intro w11_ hw; obtain ⟨ho, hkp, hbb⟩ := ost_ hw HO4_0 HB; clear hw; rw [← Ny6.out] at ho; replace HO4_1 := aRk HO4_1 hkp HS; replace BK1 := aBk BK1 hkp HS; replace BK2 := aBk BK2 hkp HS; replace BK3 := aBk BK3 hkp HS; replace BK5 := aBk BK5 hkp HS; replace HS := aHs HS hkp.1; have HO11 := A_.mk ho; have LQHO11 := A_.mk (Kd.R_reads' ho).1.symm; replace HB := A_.mk hbb; clear hkp hbb ho HO4_0 Q1 Q2 Q3 Q5 QE10 QF10; have Q1 := blk2_ BK1.out; have Q2 := blk8_ BK2.out; have Q3 := blk2_ BK3.out; have Q5 := blk2_ BK5.out))
 obtain ⟨gHO4_1_, ed_⟩ := R_at0 HO4_1.out (by have := EB12.out; omega)
 subst ed_
 refine start_ (n := 10) (S := fun w' => (w'.cell? ⟨gb2_, 0, none⟩ = some (.int .i64 a1_0) ∧ w'.cell? ⟨gb2_, 1, none⟩ = some (.int .i64 a1_1) ∧ w'.cell? ⟨gb2_, 2, none⟩ = some (.int .i64 a1_2) ∧ w'.cell? ⟨gb2_, 3, none⟩ = some (.int .i64 a1_3) ∧ w'.cell? ⟨gb2_, 4, none⟩ = some (.int .i64 a1_4) ∧ w'.cell? ⟨gb2_, 5, none⟩ = some (.int .i64 a1_5) ∧ w'.cell? ⟨gb2_, 6, none⟩ = some (.int .i64 a1_6) ∧ w'.cell? ⟨gb2_, 7, none⟩ = some (.slice A1_7 l1_7.length c1_7)) ∧ (w'.cell? ⟨gb5_, 0, none⟩ = some (.slice (some ⟨gHO4_0_, 0, none⟩) t1.length co4_0) ∧ w'.cell? ⟨gb5_, 1, none⟩ = some (.slice (some ⟨gHO4_1_, 0, none⟩) t2.length co4_1)) ∧ (w'.cell? ⟨gHO4_1_, (t5).toNat, none⟩ = some (.int .i64 (rd t2 t5)))) (ds := [9]) #[F, F, F, F, F, F, F, F, F, F] (by kernel_rfl) rfl rfl ⟨blk8_ BK2.out, blk2_ BK5.out, rcl_ HO4_1.out EB12.out⟩ (fun hHeld => ?_)
 clear Q1 Q2 Q3 Q5
 have hb := below_drew (Below.refl w11_.heap.size w11_)
 replace HS := aHs HS hb.size
 replace HO4_1 := aRb HO4_1 hb
 replace HO11 := aRb HO11 hb
 replace BK1 := aBb BK1 hb
 replace BK2 := aBb BK2 hb
 replace BK3 := aBb BK3 hb
 replace BK5 := aBb BK5 hb
 replace HB := aHB HB hb
 clear hb
 generalize w11_.drew = w21d_ at HO4_1 HO11 BK1 BK2 BK3 BK5 HB HS hHeld ⊢
 refine pd_ (i := 0) (N := some 28) #[T, F, F, F, F, F, F, F, F, F] rfl ?_
 refine tl_ (i := 1) (N := some 29) #[T, T, F, F, F, F, F, F, F, F] rfl hHeld ?_
 refine pd_ (i := 2) (N := some 30) #[T, T, T, F, F, F, F, F, F, F] rfl ?_
 refine pd_ (i := 3) (N := some 31) #[T, T, T, T, F, F, F, F, F, F] rfl ?_
 refine tl_ (i := 4) (N := some 32) #[T, T, T, T, T, F, F, F, F, F] rfl hHeld ?_
 refine tl_ (i := 5) (N := some 33) #[T, T, T, T, T, T, F, F, F, F] rfl hHeld ?_
 refine on_ (i := 6) (N := some 34) #[T, T, T, T, T, T, T, F, F, F] rfl (fun K hK => ?_)
 refine gz_ Try.func45 #[.agg #[.int .i64 a1_0, .int .i64 a1_1, .int .i64 a1_2, .int .i64 a1_3, .int .i64 a1_4, .int .i64 a1_5, .int .i64 a1_6, .slice A1_7 l1_7.length c1_7]] ?_
 with_reducible refine (impl_PacketUnits.calls k a1_0 a1_1 a1_2 a1_3 a1_4 a1_5 a1_6 _ _ l1_7 t7 _ (Kd.C_below HR1_7.out HB.out) HC1_7.out A13.out).mono ?_
 rintro e w13_ ⟨rfl, hb⟩
 refine ⟨_, rfl, ?_⟩
 replace HS := aHs HS hb.size
 replace HO4_1 := aRb HO4_1 hb
 replace HO11 := aRb HO11 hb
 replace BK1 := aBb BK1 hb
 replace BK2 := aBb BK2 hb
 replace BK3 := aBb BK3 hb
 replace BK5 := aBb BK5 hb
 replace HB := aHB HB hb
 clear hb 
 refine hK.out _ _ ⟨blk8_ BK2.out, blk2_ BK5.out, rcl_ HO4_1.out EB12.out⟩ (fun hHeld => ?_)
 clear hK K
 refine nm_ ?_
 refine pd_ (i := 7) (N := some 35) #[T, T, T, T, T, T, T, T, F, F] rfl ?_
 refine pd_ (i := 8) (N := some 36) #[T, T, T, T, T, T, T, T, T, F] rfl ?_
 refine last_ (i := 9) (N := none) #[T, T, T, T, T, T, T, T, T, T] rfl rfl (by kernel_rfl) (by decide) (fun K hK => ?_)
 have Q1 := blk2_ BK1.out
 have Q2 := blk8_ BK2.out
 have Q3 := blk2_ BK3.out
 have Q5 := blk2_ BK5.out
 have QE12 := rcl_ HO4_1.out EB12.out
 have QF12 := rcf_ HO4_1.out EB12.out
 obtain ⟨w14_, hw⟩ : ∃ q_ : World, q_ = w13_.setCell ⟨gHO4_1_, (t5).toNat, none⟩ (.int .i64 (wrap64 ((rd t2 t5) + t7))) := ⟨_, rfl⟩
 refine skip_ (w1 := w14_) (by rfl) rfl ?_ ?_
 ·rw [hw]; go_simp; try rfl
 refine hK.out _ _ ?_
 clear hK K Q1 Q2 Q3 Q5 QE12 QF12
 obtain ⟨ho, hkp, hbb⟩ := ost_ hw HO4_1 HB
 clear hw
 rw [← Ny8.out] at ho
 replace HO11 := aRk HO11 hkp HS
 replace BK1 := aBk BK1 hkp HS
 replace BK2 := aBk BK2 hkp HS
 replace BK3 := aBk BK3 hkp HS
 replace BK5 := aBk BK5 hkp HS
 replace HS := aHs HS hkp.1
 have HO14 := A_.mk ho
 have LQHO14 := A_.mk (Kd.R_reads' ho).1.symm
 replace HB := A_.mk hbb
 clear hkp hbb ho HO4_1
 refine done_ (by kernel_rfl) ?_
 have Q1 := blk2_ BK1.out
 have Q2 := blk8_ BK2.out
 have Q3 := blk2_ BK3.out
 have Q5 := blk2_ BK5.out
 go_wp2_with (fail)
 refine (calls_cast (by rw [LQHO11.out, LQHO14.out]) (impl_CreditsOk.calls k _ _ y6 _ _ y8 t9 _ (Kd.R_reads' HO11.out).2.2 (by rw [LQHO11.out]; exact (Kd.R_reads' HO11.out).2.1) (Kd.R_reads' HO14.out).2.2 (by rw [LQHO14.out]; exact (Kd.R_reads' HO14.out).2.1) A15.out)).mono ?_
 rintro e w15_ ⟨rfl, hb⟩
 replace HS := aHs HS hb.size
 replace HO11 := aRb HO11 hb
 replace HO14 := aRb HO14 hb
 replace BK1 := aBb BK1 hb
 replace BK2 := aBb BK2 hb
 replace BK3 := aBb BK3 hb
 replace BK5 := aBb BK5 hb
 replace HB := aHB HB hb
 clear hb  Q1 Q2 Q3 Q5
 have Q1 := blk2_ BK1.out
 have Q2 := blk8_ BK2.out
 have Q3 := blk2_ BK3.out
 have Q5 := blk2_ BK5.out
 replace H := H.out
 by_cases hc3_ : t9 = true
 case pos =>
  rw [if_pos hc3_] at H
  subst hc3_
  simp only [Option.some.injEq, Prod.mk.injEq] at H
  obtain ⟨rfl, rfl, rfl⟩ := H
  go_wp2_with (first | ((with_reducible refine gs_ (t := 30) (p := 4) rfl ?_); have qf0 := bf_ BK3.out 0; have qf1 := bf_ BK3.out 1; refine se_ (t := 30) (p := 4) (v := ?vo_16) (w1 := (ch2_ w15_ gb3_ (.slice (some ⟨gHO4_0_, 0, none⟩) t1.length co4_0) (.slice (some ⟨gHO4_1_, 0, none⟩) t2.length co4_1))) ?hg ?ho ?hn ?hr ?_; (case ho => rfl); (case hg => rfl); (case hn => rfl); (case hr => first | (go_simp; done) | (go_simp; rfl)); intro w16_ hw; clear qf0 qf1; obtain ⟨hbx, hkp, hbb⟩ := st2_ hw BK3 HB (by have := HS.out; omega); clear hw; replace HO11 := aRk HO11 hkp HS; replace HO14 := aRk HO14 hkp HS; replace BK1 := aBk BK1 hkp HS; replace BK2 := aBk BK2 hkp HS; replace BK5 := aBk BK5 hkp HS; replace BK3 := A_.mk hbx; replace HB := A_.mk hbb; replace HS := aHs HS hkp.1; clear hkp hbb hbx Q1 Q2 Q3 Q5; have Q1 := blk2_ BK1.out; have Q2 := blk8_ BK2.out; have Q3 := blk2_ BK3.out; have Q5 := blk2_ BK5.out))
  refine bodyPost_ret (results_ct rfl _ _ gb3_ 30 #[.slice (some ⟨gHO4_0_, 0, none⟩) t1.length co4_0, .slice (some ⟨gHO4_1_, 0, none⟩) t2.length co4_1] (0, 0) _ rfl BK3.out Try.underlying30 rfl (by kernel_rfl)) rfl ?_
  obtain ⟨f_, hf_⟩ : ∃ f_ : Nat → Nat, ∀ k_, f_ k_ = (if ((w3_.heap.size ≤ k_ ∧ k_ < w4_.heap.size) ∧ f4_ k_ = 0) then 0 else (if ((w3_.heap.size ≤ k_ ∧ k_ < w4_.heap.size) ∧ f4_ k_ = 1) then 1 else 0)) := ⟨fun k_ => (if ((w3_.heap.size ≤ k_ ∧ k_ < w4_.heap.size) ∧ f4_ k_ = 0) then 0 else (if ((w3_.heap.size ≤ k_ ∧ k_ < w4_.heap.size) ∧ f4_ k_ = 1) then 1 else 0)), fun _ => rfl⟩
  have hcol0_ : ∀ k_, (((w3_.heap.size ≤ k_ ∧ k_ < w4_.heap.size) ∧ f4_ k_ = 0)) → f_ k_ = 0 := fun k_ hk_ => by rw [hf_]; have := HS.out; repeat' (first | omega | split)
  have hcol1_ : ∀ k_, (((w3_.heap.size ≤ k_ ∧ k_ < w4_.heap.size) ∧ f4_ k_ = 1)) → f_ k_ = 1 := fun k_ hk_ => by rw [hf_]; have := HS.out; repeat' (first | omega | split)
  exact ⟨f_, _, _, rfl, Kd.R_mono HO11.out hcol0_, Kd.R_mono HO14.out hcol1_, HB.out⟩
 rw [if_neg hc3_] at H
 replace hc3_ := eq_false_of_ne_true hc3_
 subst hc3_
 replace H := oa_ H
 obtain ⟨⟨t10, t11⟩, A17, H⟩ := H
 try dsimp only at H
 simp only [Option.some.injEq, Prod.mk.injEq] at H
 obtain ⟨rfl, rfl, rfl⟩ := H
 go_wp2_with (first | ((with_reducible refine gc_ (f := 41) rfl ?_); refine gl_ (some 41) Try.func41 #[.agg #[.slice A0_0 l0_0.length c0_0, .slice A0_1 l0_1.length c0_1]] ?_; (with_reducible refine (impl_copyCredits.calls _ _ l0_0 _ _ l0_1 t10 t11 _ (Kd.C_below HR0_0.out HB.out) HC0_0.out (Kd.C_below HR0_1.out HB.out) HC0_1.out A17.out).mono ?_); rintro e w17_ ⟨v0_, v1_, rfl, ho0_, ho1_, hb⟩; refine ⟨_, rfl, ?_⟩; obtain ⟨f17_, hn0_, hn1_⟩ := two_col ho0_ ho1_; clear ho0_ ho1_; replace HS := aHs HS hb.size; obtain ⟨Ao17_0, co17_0, ev_⟩ := Kd.R_slice hn0_; subst ev_; have HO17_0 := aRn hn0_ HB.out.size; obtain ⟨Ao17_1, co17_1, ev_⟩ := Kd.R_slice hn1_; subst ev_; have HO17_1 := aRn hn1_ HB.out.size; replace BK1 := aBb BK1 hb; replace BK2 := aBb BK2 hb; replace BK3 := aBb BK3 hb; replace BK5 := aBb BK5 hb; replace HB := aHB HB hb; clear hb hn0_ hn1_ Q1 Q2 Q3 Q5; have Q1 := blk2_ BK1.out; have Q2 := blk8_ BK2.out; have Q3 := blk2_ BK3.out; have Q5 := blk2_ BK5.out) | ((with_reducible refine gs_ (t := 30) (p := 4) rfl ?_); have qf0 := bf_ BK3.out 0; have qf1 := bf_ BK3.out 1; refine se_ (t := 30) (p := 4) (v := ?vo_18) (w1 := (ch2_ w17_ gb3_ (.slice Ao17_0 t10.length co17_0) (.slice Ao17_1 t11.length co17_1))) ?hg ?ho ?hn ?hr ?_; (case ho => rfl); (case hg => rfl); (case hn => rfl); (case hr => first | (go_simp; done) | (go_simp; rfl)); intro w18_ hw; clear qf0 qf1; obtain ⟨hbx, hkp, hbb⟩ := st2_ hw BK3 HB (by have := HS.out; omega); clear hw; replace HO17_0 := aRk HO17_0 hkp HS; replace HO17_1 := aRk HO17_1 hkp HS; replace BK1 := aBk BK1 hkp HS; replace BK2 := aBk BK2 hkp HS; replace BK5 := aBk BK5 hkp HS; replace BK3 := A_.mk hbx; replace HB := A_.mk hbb; replace HS := aHs HS hkp.1; clear hkp hbb hbx Q1 Q2 Q3 Q5; have Q1 := blk2_ BK1.out; have Q2 := blk8_ BK2.out; have Q3 := blk2_ BK3.out; have Q5 := blk2_ BK5.out))
 refine bodyPost_ret (results_ct rfl _ _ gb3_ 30 #[.slice Ao17_0 t10.length co17_0, .slice Ao17_1 t11.length co17_1] (0, 0) _ rfl BK3.out Try.underlying30 rfl (by kernel_rfl)) rfl ?_
 obtain ⟨f_, hf_⟩ : ∃ f_ : Nat → Nat, ∀ k_, f_ k_ = (if ((w15_.heap.size ≤ k_ ∧ k_ < w17_.heap.size) ∧ f17_ k_ = 0) then 0 else (if ((w15_.heap.size ≤ k_ ∧ k_ < w17_.heap.size) ∧ f17_ k_ = 1) then 1 else 0)) := ⟨fun k_ => (if ((w15_.heap.size ≤ k_ ∧ k_ < w17_.heap.size) ∧ f17_ k_ = 0) then 0 else (if ((w15_.heap.size ≤ k_ ∧ k_ < w17_.heap.size) ∧ f17_ k_ = 1) then 1 else 0)), fun _ => rfl⟩
 have hcol0_ : ∀ k_, (((w15_.heap.size ≤ k_ ∧ k_ < w17_.heap.size) ∧ f17_ k_ = 0)) → f_ k_ = 0 := fun k_ hk_ => by rw [hf_]; have := HS.out; repeat' (first | omega | split)
 have hcol1_ : ∀ k_, (((w15_.heap.size ≤ k_ ∧ k_ < w17_.heap.size) ∧ f17_ k_ = 1)) → f_ k_ = 1 := fun k_ hk_ => by rw [hf_]; have := HS.out; repeat' (first | omega | split)
 exact ⟨f_, _, _, rfl, Kd.R_mono HO17_0.out hcol0_, Kd.R_mono HO17_1.out hcol1_, HB.out⟩
/-! ### impl_TellCredits: function 21, its calls in a row -/
def impl_TellCredits.f (k : Nat) (l0_0 : List Int) (l0_1 : List Int) (l0_2 : List Int) (l0_3 : List Int) (l0_4 : List (S38)) (l0_5 : List (S38)) : Option ((List Int) × (List Int) × (List Int) × (List Int) × (List (S38)) × (List (S38)) × (Bool)) := ((impl_copyChannel.f k l0_0 l0_1 l0_2 l0_3 l0_4 l0_5).bind fun ⟨t1, t2, t3, t4, t5, t6⟩ => ((impl_ChannelOk.f k l0_0 l0_1 l0_2 l0_3 l0_4 l0_5).bind fun t7 => (if t7 = true then (if (l0_5.length : Int) = 0 then (some (t1, t2, t3, t4, t5, t6, false)) else (if 0 ≤ (0 : Int) then (if (0 : Int) < (l0_5.length : Int) then ((impl_ReturnCredits.f k l0_2 l0_3 ((rd_T38 l0_5 (0 : Int)).f0) ((rd_T38 l0_5 (0 : Int)).f1) ((rd_T38 l0_5 (0 : Int)).f2) ((rd_T38 l0_5 (0 : Int)).f3) ((rd_T38 l0_5 (0 : Int)).f4) ((rd_T38 l0_5 (0 : Int)).f5) ((rd_T38 l0_5 (0 : Int)).f6) ((rd_T38 l0_5 (0 : Int)).f7)).bind fun ⟨t8, t9, t10⟩ => (if 0 ≤ (0 : Int) then (if (0 : Int) < (t6.length : Int) then (some (t1, t2, t8, t9, t5, (t6.eraseIdx ((0 : Int)).toNat), true)) else none) else none)) else none) else none)) else (some (t1, t2, t3, t4, t5, t6, false)))))
set_option maxHeartbeats 8000000 in
set_option maxRecDepth 100000 in
theorem impl_TellCredits.calls (k : Nat) (A0_0 : Option Addr) (c0_0 : Nat) (l0_0 : List Int) (A0_1 : Option Addr) (c0_1 : Nat) (l0_1 : List Int) (A0_2 : Option Addr) (c0_2 : Nat) (l0_2 : List Int) (A0_3 : Option Addr) (c0_3 : Nat) (l0_3 : List Int) (P0_4_ : Nat → Prop) (A0_4 : Option Addr) (c0_4 : Nat) (l0_4 : List (S38)) (P0_5_ : Nat → Prop) (A0_5 : Option Addr) (c0_5 : Nat) (l0_5 : List (S38)) (r1 : List Int) (r2 : List Int) (r3 : List Int) (r4 : List Int) (r5 : List (S38)) (r6 : List (S38)) (r7 : Bool) (w : World) (hr0_0 : Kd.C (Kd.int .i64) w A0_0 l0_0.length l0_0) (hc0_0 : l0_0.length ≤ c0_0) (hr0_1 : Kd.C (Kd.int .i64) w A0_1 l0_1.length l0_1) (hc0_1 : l0_1.length ≤ c0_1) (hr0_2 : Kd.C (Kd.int .i64) w A0_2 l0_2.length l0_2) (hc0_2 : l0_2.length ≤ c0_2) (hr0_3 : Kd.C (Kd.int .i64) w A0_3 l0_3.length l0_3) (hc0_3 : l0_3.length ≤ c0_3) (hs0_4 : Kd.V k38 38 w w.heap.size (fun k_ => P0_4_ k_) (.slice A0_4 l0_4.length c0_4) l0_4) (hs0_5 : Kd.V k38 38 w w.heap.size (fun k_ => P0_5_ k_) (.slice A0_5 l0_5.length c0_5) l0_5) (h : impl_TellCredits.f k l0_0 l0_1 l0_2 l0_3 l0_4 l0_5 = some (r1, r2, r3, r4, r5, r6, r7)) :
  Calls Try.prog 21 #[.agg #[.slice A0_0 l0_0.length c0_0, .slice A0_1 l0_1.length c0_1, .slice A0_2 l0_2.length c0_2, .slice A0_3 l0_3.length c0_3, .slice A0_4 l0_4.length c0_4, .slice A0_5 l0_5.length c0_5]] w fun e w' => ∃ f_ : Nat → Nat, ∃ v0_ v1_ v2_ v3_ v4_ v5_ : Value, e = .returned (.tuple #[.agg #[v0_, v1_, v2_, v3_, v4_, v5_], .bool r7]) ∧ Kd.R (Kd.int .i64) 3 w' w.heap.size (fun k_ => f_ k_ = 0) v0_ r1 ∧ Kd.R (Kd.int .i64) 3 w' w.heap.size (fun k_ => f_ k_ = 1) v1_ r2 ∧ Kd.R (Kd.int .i64) 3 w' w.heap.size (fun k_ => f_ k_ = 2) v2_ r3 ∧ Kd.R (Kd.int .i64) 3 w' w.heap.size (fun k_ => f_ k_ = 3) v3_ r4 ∧ Kd.S k38 38 w' w.heap.size (fun k_ => f_ k_ = 4) v4_ r5 ∧ Kd.S k38 38 w' w.heap.size (fun k_ => f_ k_ = 5) v5_ r6 ∧ Below w.heap.size w w' := by
 have HR0_0 := A_.mk hr0_0
 have HC0_0 := A_.mk hc0_0
 clear hr0_0 hc0_0
 have HR0_1 := A_.mk hr0_1
 have HC0_1 := A_.mk hc0_1
 clear hr0_1 hc0_1
 have HR0_2 := A_.mk hr0_2
 have HC0_2 := A_.mk hc0_2
 clear hr0_2 hc0_2
 have HR0_3 := A_.mk hr0_3
 have HC0_3 := A_.mk hc0_3
 clear hr0_3 hc0_3
 have HV0_4 := A_.mk (Kd.V_mono (ok' := fun k_ => k_ < w.heap.size) (Kd.V_bound hs0_4) (fun k_ hk_ => hk_.2))
 clear hs0_4
 have HV0_5 := A_.mk (Kd.V_mono (ok' := fun k_ => k_ < w.heap.size) (Kd.V_bound hs0_5) (fun k_ hk_ => hk_.2))
 have HW0_5 := A_.mk ((Kd.V_reads' hs0_5).2.2)
 clear hs0_5
 have HB := A_.mk (Below.refl w.heap.size w)
 unfold impl_TellCredits.f at h
 have H := h
 clear h
 replace H := oa_ H
 obtain ⟨⟨t1, t2, t3, t4, t5, t6⟩, A3, H⟩ := H
 try dsimp only at H
 replace H := oa_ H
 obtain ⟨t7, A6, H⟩ := H
 replace H := A_.mk H
 have hu33 := Try.underlying33
 go_enter Try.func21, Try.ntmps21
 have HS := A_.mk (Nat.le_refl w.heap.size)
 go_wp2_with (first | ((with_reducible refine gd_ (N := 1) rfl ?_); refine by_ 1 (cs := #[.slice A0_0 l0_0.length c0_0, .slice A0_1 l0_1.length c0_1, .slice A0_2 l0_2.length c0_2, .slice A0_3 l0_3.length c0_3, .slice A0_4 l0_4.length c0_4, .slice A0_5 l0_5.length c0_5]) (t := 33) ?_; intro gb1_ hg w1_ hbox hb; replace HS := A_.mk (And.intro HS.out (show gb1_ = w.heap.size ∧ gb1_ < w1_.heap.size from ⟨hg, blk_lt hbox⟩)); replace HV0_4 := aVb HV0_4 hb; replace HV0_5 := aVb HV0_5 hb; replace HB := aHB HB hb; have BK1 := A_.mk hbox; clear hbox hb hg; have Q1 := blk6_ BK1.out) | ((with_reducible refine gd_ (N := 2) rfl ?_); refine by_ 2 (cs := #[.slice none 0 0, .slice none 0 0, .slice none 0 0, .slice none 0 0, .slice none 0 0, .slice none 0 0]) (t := 33) ?_; intro gb2_ hg w2_ hbox hb; replace HS := A_.mk (And.intro HS.out (show gb2_ = w1_.heap.size ∧ gb2_ < w2_.heap.size from ⟨hg, blk_lt hbox⟩)); replace HV0_4 := aVb HV0_4 hb; replace HV0_5 := aVb HV0_5 hb; replace BK1 := aBb BK1 hb; replace HB := aHB HB hb; have BK2 := A_.mk hbox; clear hbox hb hg Q1; have Q1 := blk6_ BK1.out; have Q2 := blk6_ BK2.out) | ((with_reducible refine gc_ (f := 51) rfl ?_); refine gl_ (some 6) Try.func51 #[.agg #[.slice A0_0 l0_0.length c0_0, .slice A0_1 l0_1.length c0_1, .slice A0_2 l0_2.length c0_2, .slice A0_3 l0_3.length c0_3, .slice A0_4 l0_4.length c0_4, .slice A0_5 l0_5.length c0_5]] ?_; (with_reducible refine (impl_copyChannel.calls k _ _ l0_0 _ _ l0_1 _ _ l0_2 _ _ l0_3 _ _ l0_4 _ _ l0_5 t1 t2 t3 t4 t5 t6 _ (Kd.C_below HR0_0.out HB.out) HC0_0.out (Kd.C_below HR0_1.out HB.out) HC0_1.out (Kd.C_below HR0_2.out HB.out) HC0_2.out (Kd.C_below HR0_3.out HB.out) HC0_3.out (Kd.V_reads' HV0_4.out).2.2 (Kd.V_reads' HV0_4.out).2.1 (Kd.V_reads' HV0_5.out).2.2 (Kd.V_reads' HV0_5.out).2.1 A3.out).mono ?_); rintro e w3_ ⟨f3_, v0_, v1_, v2_, v3_, v4_, v5_, rfl, ho0_, ho1_, ho2_, ho3_, ho4_, ho5_, hb⟩; refine ⟨_, rfl, ?_⟩; replace HS := aHs HS hb.size; obtain ⟨Ao3_0, co3_0, ev_⟩ := Kd.R_slice ho0_; subst ev_; have HO3_0 := aRn ho0_ HB.out.size; obtain ⟨Ao3_1, co3_1, ev_⟩ := Kd.R_slice ho1_; subst ev_; have HO3_1 := aRn ho1_ HB.out.size; obtain ⟨Ao3_2, co3_2, ev_⟩ := Kd.R_slice ho2_; subst ev_; have HO3_2 := aRn ho2_ HB.out.size; obtain ⟨Ao3_3, co3_3, ev_⟩ := Kd.R_slice ho3_; subst ev_; have HO3_3 := aRn ho3_ HB.out.size; obtain ⟨Ao3_4, co3_4, ev_⟩ := Kd.S_slice ho4_; subst ev_; have HO3_4 := aSn ho4_ HB.out.size; obtain ⟨Ao3_5, co3_5, ev_⟩ := Kd.S_slice ho5_; subst ev_; have HO3_5 := aSn ho5_ HB.out.size; replace HV0_4 := aVb HV0_4 hb; replace HV0_5 := aVb HV0_5 hb; replace BK1 := aBb BK1 hb; replace BK2 := aBb BK2 hb; replace HB := aHB HB hb; clear hb ho0_ ho1_ ho2_ ho3_ ho4_ ho5_ Q1 Q2; have Q1 := blk6_ BK1.out; have Q2 := blk6_ BK2.out) | ((with_reducible refine gd_ (N := 4) rfl ?_); refine by_ 4 (cs := #[.slice none 0 0, .slice none 0 0, .slice none 0 0, .slice none 0 0, .slice none 0 0, .slice none 0 0]) (t := 33) ?_; intro gb4_ hg w4_ hbox hb; replace HS := A_.mk (And.intro HS.out (show gb4_ = w3_.heap.size ∧ gb4_ < w4_.heap.size from ⟨hg, blk_lt hbox⟩)); replace HV0_4 := aVb HV0_4 hb; replace HV0_5 := aVb HV0_5 hb; replace HO3_0 := aRb HO3_0 hb; replace HO3_1 := aRb HO3_1 hb; replace HO3_2 := aRb HO3_2 hb; replace HO3_3 := aRb HO3_3 hb; replace HO3_4 := aSb HO3_4 hb; replace HO3_5 := aSb HO3_5 hb; replace BK1 := aBb BK1 hb; replace BK2 := aBb BK2 hb; replace HB := aHB HB hb; have BK4 := A_.mk hbox; clear hbox hb hg Q1 Q2; have Q1 := blk6_ BK1.out; have Q2 := blk6_ BK2.out; have Q4 := blk6_ BK4.out) | ((with_reducible refine gs_ (t := 33) (p := 4) rfl ?_); have qf0 := bf_ BK4.out 0; have qf1 := bf_ BK4.out 1; have qf2 := bf_ BK4.out 2; have qf3 := bf_ BK4.out 3; have qf4 := bf_ BK4.out 4; have qf5 := bf_ BK4.out 5; refine se_ (t := 33) (p := 4) (v := ?vo_5) (w1 := (ch6_ w4_ gb4_ (.slice Ao3_0 t1.length co3_0) (.slice Ao3_1 t2.length co3_1) (.slice Ao3_2 t3.length co3_2) (.slice Ao3_3 t4.length co3_3) (.slice Ao3_4 t5.length co3_4) (.slice Ao3_5 t6.length co3_5))) ?hg ?ho ?hn ?hr ?_; (case ho => rfl); (case hg => rfl); (case hn => rfl); (case hr => first | (go_simp; done) | (go_simp; rfl)); intro w5_ hw; clear qf0 qf1 qf2 qf3 qf4 qf5; obtain ⟨hbx, hkp, hbb⟩ := st6_ hw BK4 HB (by have := HS.out; omega); clear hw; replace HV0_4 := aVk HV0_4 hkp HS; replace HV0_5 := aVk HV0_5 hkp HS; replace HO3_0 := aRk HO3_0 hkp HS; replace HO3_1 := aRk HO3_1 hkp HS; replace HO3_2 := aRk HO3_2 hkp HS; replace HO3_3 := aRk HO3_3 hkp HS; replace HO3_4 := aSk HO3_4 hkp HS; replace HO3_5 := aSk HO3_5 hkp HS; replace BK1 := aBk BK1 hkp HS; replace BK2 := aBk BK2 hkp HS; replace BK4 := A_.mk hbx; replace HB := A_.mk hbb; replace HS := aHs HS hkp.1; clear hkp hbb hbx Q1 Q2 Q4; have Q1 := blk6_ BK1.out; have Q2 := blk6_ BK2.out; have Q4 := blk6_ BK4.out))
 (with_reducible refine (impl_ChannelOk.calls k _ _ l0_0 _ _ l0_1 _ _ l0_2 _ _ l0_3 (fun k_ => k_ < w.heap.size) _ _ l0_4 (fun k_ => k_ < w.heap.size) _ _ l0_5 t7 _ (Kd.C_below HR0_0.out HB.out) HC0_0.out (Kd.C_below HR0_1.out HB.out) HC0_1.out (Kd.C_below HR0_2.out HB.out) HC0_2.out (Kd.C_below HR0_3.out HB.out) HC0_3.out (V_any HV0_4.out) (V_any HV0_5.out) A6.out).mono ?_)
 rintro e w6_ ⟨rfl, hb⟩
 replace HS := aHs HS hb.size
 replace HV0_4 := aVb HV0_4 hb
 replace HV0_5 := aVb HV0_5 hb
 replace HO3_0 := aRb HO3_0 hb
 replace HO3_1 := aRb HO3_1 hb
 replace HO3_2 := aRb HO3_2 hb
 replace HO3_3 := aRb HO3_3 hb
 replace HO3_4 := aSb HO3_4 hb
 replace HO3_5 := aSb HO3_5 hb
 replace BK1 := aBb BK1 hb
 replace BK2 := aBb BK2 hb
 replace BK4 := aBb BK4 hb
 replace HB := aHB HB hb
 clear hb  Q1 Q2 Q4
 have Q1 := blk6_ BK1.out
 have Q2 := blk6_ BK2.out
 have Q4 := blk6_ BK4.out
 replace H := H.out
 by_cases hc1_ : t7 = true
 case neg =>
  rw [if_neg hc1_] at H
  replace hc1_ := eq_false_of_ne_true hc1_
  subst hc1_
  simp only [Option.some.injEq, Prod.mk.injEq] at H
  obtain ⟨rfl, rfl, rfl, rfl, rfl, rfl, rfl⟩ := H
  go_wp2_with (first | ((with_reducible refine gs_ (t := 33) (p := 2) rfl ?_); have qf0 := bf_ BK2.out 0; have qf1 := bf_ BK2.out 1; have qf2 := bf_ BK2.out 2; have qf3 := bf_ BK2.out 3; have qf4 := bf_ BK2.out 4; have qf5 := bf_ BK2.out 5; refine se_ (t := 33) (p := 2) (v := ?vo_14) (w1 := (ch6_ w6_ gb2_ (.slice Ao3_0 t1.length co3_0) (.slice Ao3_1 t2.length co3_1) (.slice Ao3_2 t3.length co3_2) (.slice Ao3_3 t4.length co3_3) (.slice Ao3_4 t5.length co3_4) (.slice Ao3_5 t6.length co3_5))) ?hg ?ho ?hn ?hr ?_; (case ho => rfl); (case hg => rfl); (case hn => rfl); (case hr => first | (go_simp; done) | (go_simp; rfl)); intro w14_ hw; clear qf0 qf1 qf2 qf3 qf4 qf5; obtain ⟨hbx, hkp, hbb⟩ := st6_ hw BK2 HB (by have := HS.out; omega); clear hw; replace HO3_0 := aRk HO3_0 hkp HS; replace HO3_1 := aRk HO3_1 hkp HS; replace HO3_2 := aRk HO3_2 hkp HS; replace HO3_3 := aRk HO3_3 hkp HS; replace HO3_4 := aSk HO3_4 hkp HS; replace HO3_5 := aSk HO3_5 hkp HS; replace BK1 := aBk BK1 hkp HS; replace BK4 := aBk BK4 hkp HS; replace BK2 := A_.mk hbx; replace HB := A_.mk hbb; replace HS := aHs HS hkp.1; clear hkp hbb hbx Q1 Q2 Q4; have Q1 := blk6_ BK1.out; have Q2 := blk6_ BK2.out; have Q4 := blk6_ BK4.out))
  refine bodyPost_ret (results_ct rfl _ _ gb2_ 33 #[.slice Ao3_0 t1.length co3_0, .slice Ao3_1 t2.length co3_1, .slice Ao3_2 t3.length co3_2, .slice Ao3_3 t4.length co3_3, .slice Ao3_4 t5.length co3_4, .slice Ao3_5 t6.length co3_5] (0, 0) _ rfl BK2.out Try.underlying33 rfl (by kernel_rfl)) rfl ?_
  obtain ⟨f_, hf_⟩ : ∃ f_ : Nat → Nat, ∀ k_, f_ k_ = (if ((w2_.heap.size ≤ k_ ∧ k_ < w3_.heap.size) ∧ f3_ k_ = 0) then 0 else (if ((w2_.heap.size ≤ k_ ∧ k_ < w3_.heap.size) ∧ f3_ k_ = 1) then 1 else (if ((w2_.heap.size ≤ k_ ∧ k_ < w3_.heap.size) ∧ f3_ k_ = 2) then 2 else (if ((w2_.heap.size ≤ k_ ∧ k_ < w3_.heap.size) ∧ f3_ k_ = 3) then 3 else (if ((w2_.heap.size ≤ k_ ∧ k_ < w3_.heap.size) ∧ f3_ k_ = 4) then 4 else (if ((w2_.heap.size ≤ k_ ∧ k_ < w3_.heap.size) ∧ f3_ k_ = 5) then 5 else 0)))))) := ⟨fun k_ => (if ((w2_.heap.size ≤ k_ ∧ k_ < w3_.heap.size) ∧ f3_ k_ = 0) then 0 else (if ((w2_.heap.size ≤ k_ ∧ k_ < w3_.heap.size) ∧ f3_ k_ = 1) then 1 else (if ((w2_.heap.size ≤ k_ ∧ k_ < w3_.heap.size) ∧ f3_ k_ = 2) then 2 else (if ((w2_.heap.size ≤ k_ ∧ k_ < w3_.heap.size) ∧ f3_ k_ = 3) then 3 else (if ((w2_.heap.size ≤ k_ ∧ k_ < w3_.heap.size) ∧ f3_ k_ = 4) then 4 else (if ((w2_.heap.size ≤ k_ ∧ k_ < w3_.heap.size) ∧ f3_ k_ = 5) then 5 else 0)))))), fun _ => rfl⟩
  have hcol0_ : ∀ k_, (((w2_.heap.size ≤ k_ ∧ k_ < w3_.heap.size) ∧ f3_ k_ = 0)) → f_ k_ = 0 := fun k_ hk_ => by rw [hf_]; have := HS.out; repeat' (first | omega | split)
  have hcol1_ : ∀ k_, (((w2_.heap.size ≤ k_ ∧ k_ < w3_.heap.size) ∧ f3_ k_ = 1)) → f_ k_ = 1 := fun k_ hk_ => by rw [hf_]; have := HS.out; repeat' (first | omega | split)
  have hcol2_ : ∀ k_, (((w2_.heap.size ≤ k_ ∧ k_ < w3_.heap.size) ∧ f3_ k_ = 2)) → f_ k_ = 2 := fun k_ hk_ => by rw [hf_]; have := HS.out; repeat' (first | omega | split)
  have hcol3_ : ∀ k_, (((w2_.heap.size ≤ k_ ∧ k_ < w3_.heap.size) ∧ f3_ k_ = 3)) → f_ k_ = 3 := fun k_ hk_ => by rw [hf_]; have := HS.out; repeat' (first | omega | split)
  have hcol4_ : ∀ k_, (((w2_.heap.size ≤ k_ ∧ k_ < w3_.heap.size) ∧ f3_ k_ = 4)) → f_ k_ = 4 := fun k_ hk_ => by rw [hf_]; have := HS.out; repeat' (first | omega | split)
  have hcol5_ : ∀ k_, (((w2_.heap.size ≤ k_ ∧ k_ < w3_.heap.size) ∧ f3_ k_ = 5)) → f_ k_ = 5 := fun k_ hk_ => by rw [hf_]; have := HS.out; repeat' (first | omega | split)
  exact ⟨f_, _, _, _, _, _, _, rfl, Kd.R_mono HO3_0.out hcol0_, Kd.R_mono HO3_1.out hcol1_, Kd.R_mono HO3_2.out hcol2_, Kd.R_mono HO3_3.out hcol3_, Kd.S_mono HO3_4.out hcol4_, Kd.S_mono HO3_5.out hcol5_, HB.out⟩
 rw [if_pos hc1_] at H
 subst hc1_
 by_cases hc2_ : (l0_5.length : Int) = 0
 case pos =>
  rw [if_pos hc2_] at H
  have hc2_b0 : ((l0_5.length : Int) == 0) = true := beq_iff_eq.mpr hc2_
  have hc2_bn : ((l0_5.length : Int) != 0) = false := bne_eq_false_iff_eq.mpr hc2_
  have hc2_b1 : (l0_5.length == 0) = true := by first | simpa using hc2_ | (simp at hc2_ ⊢; omega)
  replace hc2_ := A_.mk hc2_
  simp only [Option.some.injEq, Prod.mk.injEq] at H
  obtain ⟨rfl, rfl, rfl, rfl, rfl, rfl, rfl⟩ := H
  go_wp2_with (first | ((with_reducible refine gs_ (t := 33) (p := 2) rfl ?_); have qf0 := bf_ BK2.out 0; have qf1 := bf_ BK2.out 1; have qf2 := bf_ BK2.out 2; have qf3 := bf_ BK2.out 3; have qf4 := bf_ BK2.out 4; have qf5 := bf_ BK2.out 5; refine se_ (t := 33) (p := 2) (v := ?vo_7) (w1 := (ch6_ w6_ gb2_ (.slice Ao3_0 t1.length co3_0) (.slice Ao3_1 t2.length co3_1) (.slice Ao3_2 t3.length co3_2) (.slice Ao3_3 t4.length co3_3) (.slice Ao3_4 t5.length co3_4) (.slice Ao3_5 t6.length co3_5))) ?hg ?ho ?hn ?hr ?_; (case ho => rfl); (case hg => rfl); (case hn => rfl); (case hr => first | (go_simp; done) | (go_simp; rfl)); intro w7_ hw; clear qf0 qf1 qf2 qf3 qf4 qf5; obtain ⟨hbx, hkp, hbb⟩ := st6_ hw BK2 HB (by have := HS.out; omega); clear hw; replace HO3_0 := aRk HO3_0 hkp HS; replace HO3_1 := aRk HO3_1 hkp HS; replace HO3_2 := aRk HO3_2 hkp HS; replace HO3_3 := aRk HO3_3 hkp HS; replace HO3_4 := aSk HO3_4 hkp HS; replace HO3_5 := aSk HO3_5 hkp HS; replace BK1 := aBk BK1 hkp HS; replace BK4 := aBk BK4 hkp HS; replace BK2 := A_.mk hbx; replace HB := A_.mk hbb; replace HS := aHs HS hkp.1; clear hkp hbb hbx Q1 Q2 Q4; have Q1 := blk6_ BK1.out; have Q2 := blk6_ BK2.out; have Q4 := blk6_ BK4.out))
  refine bodyPost_ret (results_ct rfl _ _ gb2_ 33 #[.slice Ao3_0 t1.length co3_0, .slice Ao3_1 t2.length co3_1, .slice Ao3_2 t3.length co3_2, .slice Ao3_3 t4.length co3_3, .slice Ao3_4 t5.length co3_4, .slice Ao3_5 t6.length co3_5] (0, 0) _ rfl BK2.out Try.underlying33 rfl (by kernel_rfl)) rfl ?_
  obtain ⟨f_, hf_⟩ : ∃ f_ : Nat → Nat, ∀ k_, f_ k_ = (if ((w2_.heap.size ≤ k_ ∧ k_ < w3_.heap.size) ∧ f3_ k_ = 0) then 0 else (if ((w2_.heap.size ≤ k_ ∧ k_ < w3_.heap.size) ∧ f3_ k_ = 1) then 1 else (if ((w2_.heap.size ≤ k_ ∧ k_ < w3_.heap.size) ∧ f3_ k_ = 2) then 2 else (if ((w2_.heap.size ≤ k_ ∧ k_ < w3_.heap.size) ∧ f3_ k_ = 3) then 3 else (if ((w2_.heap.size ≤ k_ ∧ k_ < w3_.heap.size) ∧ f3_ k_ = 4) then 4 else (if ((w2_.heap.size ≤ k_ ∧ k_ < w3_.heap.size) ∧ f3_ k_ = 5) then 5 else 0)))))) := ⟨fun k_ => (if ((w2_.heap.size ≤ k_ ∧ k_ < w3_.heap.size) ∧ f3_ k_ = 0) then 0 else (if ((w2_.heap.size ≤ k_ ∧ k_ < w3_.heap.size) ∧ f3_ k_ = 1) then 1 else (if ((w2_.heap.size ≤ k_ ∧ k_ < w3_.heap.size) ∧ f3_ k_ = 2) then 2 else (if ((w2_.heap.size ≤ k_ ∧ k_ < w3_.heap.size) ∧ f3_ k_ = 3) then 3 else (if ((w2_.heap.size ≤ k_ ∧ k_ < w3_.heap.size) ∧ f3_ k_ = 4) then 4 else (if ((w2_.heap.size ≤ k_ ∧ k_ < w3_.heap.size) ∧ f3_ k_ = 5) then 5 else 0)))))), fun _ => rfl⟩
  have hcol0_ : ∀ k_, (((w2_.heap.size ≤ k_ ∧ k_ < w3_.heap.size) ∧ f3_ k_ = 0)) → f_ k_ = 0 := fun k_ hk_ => by rw [hf_]; have := HS.out; repeat' (first | omega | split)
  have hcol1_ : ∀ k_, (((w2_.heap.size ≤ k_ ∧ k_ < w3_.heap.size) ∧ f3_ k_ = 1)) → f_ k_ = 1 := fun k_ hk_ => by rw [hf_]; have := HS.out; repeat' (first | omega | split)
  have hcol2_ : ∀ k_, (((w2_.heap.size ≤ k_ ∧ k_ < w3_.heap.size) ∧ f3_ k_ = 2)) → f_ k_ = 2 := fun k_ hk_ => by rw [hf_]; have := HS.out; repeat' (first | omega | split)
  have hcol3_ : ∀ k_, (((w2_.heap.size ≤ k_ ∧ k_ < w3_.heap.size) ∧ f3_ k_ = 3)) → f_ k_ = 3 := fun k_ hk_ => by rw [hf_]; have := HS.out; repeat' (first | omega | split)
  have hcol4_ : ∀ k_, (((w2_.heap.size ≤ k_ ∧ k_ < w3_.heap.size) ∧ f3_ k_ = 4)) → f_ k_ = 4 := fun k_ hk_ => by rw [hf_]; have := HS.out; repeat' (first | omega | split)
  have hcol5_ : ∀ k_, (((w2_.heap.size ≤ k_ ∧ k_ < w3_.heap.size) ∧ f3_ k_ = 5)) → f_ k_ = 5 := fun k_ hk_ => by rw [hf_]; have := HS.out; repeat' (first | omega | split)
  exact ⟨f_, _, _, _, _, _, _, rfl, Kd.R_mono HO3_0.out hcol0_, Kd.R_mono HO3_1.out hcol1_, Kd.R_mono HO3_2.out hcol2_, Kd.R_mono HO3_3.out hcol3_, Kd.S_mono HO3_4.out hcol4_, Kd.S_mono HO3_5.out hcol5_, HB.out⟩
 rw [if_neg hc2_] at H
 have hc2_b0 : ((l0_5.length : Int) == 0) = false := beq_eq_false_iff_ne.mpr hc2_
 have hc2_bn : ((l0_5.length : Int) != 0) = true := bne_iff_ne.mpr hc2_
 have hc2_b1 : (l0_5.length == 0) = false := by first | simpa using hc2_ | (simp at hc2_ ⊢; omega)
 by_cases hp8_ : 0 ≤ (0 : Int)
 case neg => rw [if_neg hp8_] at H; cases H
 rw [if_pos hp8_] at H
 by_cases hq8_ : (0 : Int) < (l0_5.length : Int)
 case neg => rw [if_neg hq8_] at H; cases H
 rw [if_pos hq8_] at H
 have EB8 := A_.mk (And.intro hp8_ hq8_)
 obtain ⟨ad8_, A8_7, c8_7, eA_, hx0_, hx1_, hx2_, hx3_, hx4_, hx5_, hx6_, hx7_, hl7_, hi7_⟩ := at_T38 HW0_5.out (0 : Int) hp8_ hq8_
 simp only [show ((0 : Int)).toNat = 0 from rfl, Nat.zero_mul, Addr.add_zero'] at hx0_ hx1_ hx2_ hx3_ hx4_ hx5_ hx6_ hx7_
 have hn8_ : (0 < l0_5.length) = True := eq_true (by omega)
 subst eA_
 have HX8 := A_.mk (And.intro hx0_ (And.intro hx1_ (And.intro hx2_ (And.intro hx3_ (And.intro hx4_ (And.intro hx5_ (And.intro hx6_ hx7_)))))))
 have HE8_7 := A_.mk hi7_
 have HD8_7 := A_.mk hl7_
 clear hx0_ hx1_ hx2_ hx3_ hx4_ hx5_ hx6_ hx7_ hl7_ hi7_
 replace hp8_ := eq_true hp8_
 replace hq8_ := eq_true hq8_
 replace H := oa_ H
 obtain ⟨⟨t8, t9, t10⟩, A9, H⟩ := H
 try dsimp only at H
 by_cases hp11_ : 0 ≤ (0 : Int)
 case neg => rw [if_neg hp11_] at H; cases H
 rw [if_pos hp11_] at H
 by_cases hq11_ : (0 : Int) < (t6.length : Int)
 case neg => rw [if_neg hq11_] at H; cases H
 rw [if_pos hq11_] at H
 have EB11 := A_.mk (And.intro hp11_ hq11_)
 clear hp11_ hq11_
 obtain ⟨y11, Ny11⟩ : ∃ q_, q_ = (t6.eraseIdx ((0 : Int)).toNat) := ⟨_, rfl⟩
 rw [← Ny11] at H
 replace Ny11 := A_.mk Ny11
 simp only [Option.some.injEq, Prod.mk.injEq] at H
 obtain ⟨rfl, rfl, rfl, rfl, rfl, rfl, rfl⟩ := H
 go_wp2_with (fail)
 refine start_ (n := 12) (S := fun w' => (w'.cell? ⟨gb1_, 0, none⟩ = some (.slice A0_0 l0_0.length c0_0) ∧ w'.cell? ⟨gb1_, 1, none⟩ = some (.slice A0_1 l0_1.length c0_1) ∧ w'.cell? ⟨gb1_, 2, none⟩ = some (.slice A0_2 l0_2.length c0_2) ∧ w'.cell? ⟨gb1_, 3, none⟩ = some (.slice A0_3 l0_3.length c0_3) ∧ w'.cell? ⟨gb1_, 4, none⟩ = some (.slice A0_4 l0_4.length c0_4) ∧ w'.cell? ⟨gb1_, 5, none⟩ = some (.slice (some ad8_) l0_5.length c0_5)) ∧ (w'.cell? ad8_ = some (.int .i64 ((rd_T38 l0_5 (0 : Int)).f0)) ∧ w'.cell? ⟨ad8_.block, ad8_.off + 1, none⟩ = some (.int .i64 ((rd_T38 l0_5 (0 : Int)).f1)) ∧ w'.cell? ⟨ad8_.block, ad8_.off + 2, none⟩ = some (.int .i64 ((rd_T38 l0_5 (0 : Int)).f2)) ∧ w'.cell? ⟨ad8_.block, ad8_.off + 3, none⟩ = some (.int .i64 ((rd_T38 l0_5 (0 : Int)).f3)) ∧ w'.cell? ⟨ad8_.block, ad8_.off + 4, none⟩ = some (.int .i64 ((rd_T38 l0_5 (0 : Int)).f4)) ∧ w'.cell? ⟨ad8_.block, ad8_.off + 5, none⟩ = some (.int .i64 ((rd_T38 l0_5 (0 : Int)).f5)) ∧ w'.cell? ⟨ad8_.block, ad8_.off + 6, none⟩ = some (.int .i64 ((rd_T38 l0_5 (0 : Int)).f6)) ∧ w'.cell? ⟨ad8_.block, ad8_.off + 7, none⟩ = some (.slice A8_7 ((rd_T38 l0_5 (0 : Int)).f7).length c8_7))) (ds := [11]) #[F, F, F, F, F, F, F, F, F, F, F, F] (by kernel_rfl) rfl rfl ⟨blk6_ BK1.out, el8_ (below_drew HB.out) HX8.out⟩ (fun hHeld => ?_)
 clear Q1 Q2 Q4
 have hb := below_drew (Below.refl w6_.heap.size w6_)
 replace HS := aHs HS hb.size
 replace HO3_0 := aRb HO3_0 hb
 replace HO3_1 := aRb HO3_1 hb
 replace HO3_4 := aSb HO3_4 hb
 replace HO3_5 := aSb HO3_5 hb
 replace BK1 := aBb BK1 hb
 replace BK2 := aBb BK2 hb
 replace BK4 := aBb BK4 hb
 replace HB := aHB HB hb
 clear hb
 generalize w6_.drew = w15d_ at HO3_0 HO3_1 HO3_4 HO3_5 BK1 BK2 BK4 HB HS hHeld ⊢
 refine pd_ (i := 0) (N := some 18) #[T, F, F, F, F, F, F, F, F, F, F, F] rfl ?_
 refine tl_ (i := 1) (N := some 19) #[T, T, F, F, F, F, F, F, F, F, F, F] rfl hHeld ?_
 refine pd_ (i := 2) (N := some 20) #[T, T, T, F, F, F, F, F, F, F, F, F] rfl ?_
 refine tl_ (i := 3) (N := some 21) #[T, T, T, T, F, F, F, F, F, F, F, F] rfl hHeld ?_
 refine pd_ (i := 4) (N := some 22) #[T, T, T, T, T, F, F, F, F, F, F, F] rfl ?_
 refine tl_ (i := 5) (N := some 23) #[T, T, T, T, T, T, F, F, F, F, F, F] rfl hHeld ?_
 refine on_ (i := 6) (N := some 24) #[T, T, T, T, T, T, T, F, F, F, F, F] rfl (fun K hK => ?_)
 refine gz_ Try.func63 #[.agg #[.slice A0_2 l0_2.length c0_2, .slice A0_3 l0_3.length c0_3], .agg #[.int .i64 ((rd_T38 l0_5 (0 : Int)).f0), .int .i64 ((rd_T38 l0_5 (0 : Int)).f1), .int .i64 ((rd_T38 l0_5 (0 : Int)).f2), .int .i64 ((rd_T38 l0_5 (0 : Int)).f3), .int .i64 ((rd_T38 l0_5 (0 : Int)).f4), .int .i64 ((rd_T38 l0_5 (0 : Int)).f5), .int .i64 ((rd_T38 l0_5 (0 : Int)).f6), .slice A8_7 ((rd_T38 l0_5 (0 : Int)).f7).length c8_7]] ?_
 with_reducible refine (impl_ReturnCredits.calls k _ _ l0_2 _ _ l0_3 ((rd_T38 l0_5 (0 : Int)).f0) ((rd_T38 l0_5 (0 : Int)).f1) ((rd_T38 l0_5 (0 : Int)).f2) ((rd_T38 l0_5 (0 : Int)).f3) ((rd_T38 l0_5 (0 : Int)).f4) ((rd_T38 l0_5 (0 : Int)).f5) ((rd_T38 l0_5 (0 : Int)).f6) _ _ ((rd_T38 l0_5 (0 : Int)).f7) t8 t9 t10 _ (Kd.C_below HR0_2.out HB.out) HC0_2.out (Kd.C_below HR0_3.out HB.out) HC0_3.out (Kd.C_below HE8_7.out HB.out) HD8_7.out A9.out).mono ?_
 rintro e w9_ ⟨f9_, v0_, v1_, rfl, ho0_, ho1_, hb⟩
 refine ⟨_, rfl, ?_⟩
 replace HS := aHs HS hb.size
 obtain ⟨Ao9_0, co9_0, ev_⟩ := Kd.R_slice ho0_
 subst ev_
 have HO9_0 := aRn ho0_ HB.out.size
 obtain ⟨Ao9_1, co9_1, ev_⟩ := Kd.R_slice ho1_
 subst ev_
 have HO9_1 := aRn ho1_ HB.out.size
 replace HO3_0 := aRb HO3_0 hb
 replace HO3_1 := aRb HO3_1 hb
 replace HO3_4 := aSb HO3_4 hb
 replace HO3_5 := aSb HO3_5 hb
 replace BK1 := aBb BK1 hb
 replace BK2 := aBb BK2 hb
 replace BK4 := aBb BK4 hb
 replace HB := aHB HB hb
 clear hb ho0_ ho1_
 refine hK.out _ _ ⟨blk6_ BK1.out, el8_ HB.out HX8.out⟩ (fun hHeld => ?_)
 clear hK K
 refine nm_ ?_
 refine pd_ (i := 7) (N := some 17) #[T, T, T, T, T, T, T, T, F, F, F, F] rfl ?_
 refine pd_ (i := 8) (N := some 25) #[T, T, T, T, T, T, T, T, T, F, F, F] rfl ?_
 refine pd_ (i := 9) (N := some 26) #[T, T, T, T, T, T, T, T, T, T, F, F] rfl ?_
 refine pd_ (i := 10) (N := some 27) #[T, T, T, T, T, T, T, T, T, T, T, F] rfl ?_
 refine last_ (i := 11) (N := none) #[T, T, T, T, T, T, T, T, T, T, T, T] rfl rfl (by kernel_rfl) (by decide) (fun K hK => ?_)
 have Q1 := blk6_ BK1.out
 have Q2 := blk6_ BK2.out
 have Q4 := blk6_ BK4.out
 have qf0 := bf_ BK4.out 2; have qf1 := bf_ BK4.out 3
 obtain ⟨w10_, hw⟩ : ∃ q_ : World, q_ = ((w9_.setCell ⟨gb4_, 2, none⟩ (.slice Ao9_0 t8.length co9_0)).setCell ⟨gb4_, 3, none⟩ (.slice Ao9_1 t9.length co9_1)) := ⟨_, rfl⟩
 refine skip_ (w1 := w10_) (by rfl) rfl ?_ ?_
 ·rw [hw]; go_simp; try rfl
 refine hK.out _ _ ?_
 clear hK K qf0 qf1 Q1 Q2 Q4
 have hge : w.heap.size ≤ gb4_ := (by have := HS.out; omega)
 have hkp : Kept w9_ w10_ (fun k_ => k_ = gb4_) := (by rw [hw]; exact (Kept.of_set (Kept.of_set (Kept.refl _ _) _ _) _ _))
 have hbb : Below w.heap.size w w10_ := (by rw [hw]; exact (bs_ (bs_ HB.out hge) hge))
 have hbx : w10_.heap[gb4_]? = some (.cells #[.slice Ao3_0 t1.length co3_0, .slice Ao3_1 t2.length co3_1, .slice Ao9_0 t8.length co9_0, .slice Ao9_1 t9.length co9_1, .slice Ao3_4 t5.length co3_4, .slice Ao3_5 t6.length co3_5] 33 (0, 0)) := (by rw [hw]; exact (bp_ (cs := #[.slice Ao3_0 t1.length co3_0, .slice Ao3_1 t2.length co3_1, .slice Ao9_0 t8.length co9_0, .slice Ao3_3 t4.length co3_3, .slice Ao3_4 t5.length co3_4, .slice Ao3_5 t6.length co3_5]) (bp_ (cs := #[.slice Ao3_0 t1.length co3_0, .slice Ao3_1 t2.length co3_1, .slice Ao3_2 t3.length co3_2, .slice Ao3_3 t4.length co3_3, .slice Ao3_4 t5.length co3_4, .slice Ao3_5 t6.length co3_5]) BK4.out 2 _ rfl) 3 _ rfl))
 clear hw
 replace HO3_0 := aRk HO3_0 hkp HS
 replace HO3_1 := aRk HO3_1 hkp HS
 replace HO3_4 := aSk HO3_4 hkp HS
 replace HO3_5 := aSk HO3_5 hkp HS
 replace HO9_0 := aRk HO9_0 hkp HS
 replace HO9_1 := aRk HO9_1 hkp HS
 replace BK1 := aBk BK1 hkp HS
 replace BK2 := aBk BK2 hkp HS
 replace BK4 := A_.mk hbx
 replace HB := A_.mk hbb
 replace HS := aHs HS hkp.1
 clear hkp hbb hbx hge
 refine done_ (by kernel_rfl) ?_
 have Q1 := blk6_ BK1.out
 have Q2 := blk6_ BK2.out
 have Q4 := blk6_ BK4.out
 go_wp2_with (first | ((with_reducible refine gc_ (f := 53) rfl ?_); obtain ⟨gd11_, ed_⟩ := S_at0 HO3_5.out (by have := EB11.out; omega); subst ed_; refine gl_ (some 30) Try.func53 #[.slice (some ⟨gd11_, 0, none⟩) t6.length co3_5, .int .i64 (0 : Int), .int .i64 1] ?_; refine (calls_cast (by rw [show wrap64 ((0 : Int) + 1) = 1 from (by unfold wrap64; omega)]) (slices_Delete_38.calls (fun k_ => ((w2_.heap.size ≤ k_ ∧ k_ < w3_.heap.size) ∧ f3_ k_ = 5)) _ _ _ t6 (0 : Int) w _ HB.out HO3_5.out EB11.out.1 EB11.out.2)).mono ?_; rintro e w11_ ⟨he_, ho, hb2, hkp⟩; rw [← Ny11.out] at ho; have hl_ := (Kd.S_reads' ho).1; rw [hl_] at he_ ho; subst he_; clear hl_; refine ⟨_, rfl, ?_⟩; replace hkp := Kept.mono (S' := fun k_ => ((w2_.heap.size ≤ k_ ∧ k_ < w3_.heap.size) ∧ f3_ k_ = 5)) hkp (fun k_ e_ => by subst e_; exact (Kd.S_R HO3_5.out).1 _ rfl); replace HO3_0 := aRk HO3_0 hkp HS; replace HO3_1 := aRk HO3_1 hkp HS; replace HO3_4 := aSk HO3_4 hkp HS; replace HO9_0 := aRk HO9_0 hkp HS; replace HO9_1 := aRk HO9_1 hkp HS; replace BK1 := aBk BK1 hkp HS; replace BK2 := aBk BK2 hkp HS; replace BK4 := aBk BK4 hkp HS; replace HS := aHs HS hkp.1; have HO11 := A_.mk ho; replace HB := A_.mk hb2; clear hkp hb2 ho HO3_5 Q1 Q2 Q4; have Q1 := blk6_ BK1.out; have Q2 := blk6_ BK2.out; have Q4 := blk6_ BK4.out) | ((with_reducible refine gs_ (t := 31) (p := 31) rfl ?_); have qf0 := bf_ BK4.out 5; refine se_ (t := 31) (p := 31) (v := ?vo_12) (w1 := (w11_.setCell ⟨gb4_, 5, none⟩ (.slice (some ⟨gd11_, 0, none⟩) y11.length co3_5))) ?hg ?ho ?hn ?hr ?_; (case ho => rfl); (case hg => rfl); (case hn => rfl); (case hr => first | (go_simp; done) | (go_simp; rfl)); intro w12_ hw; clear qf0; have hge : w.heap.size ≤ gb4_ := (by have := HS.out; omega); have hkp : Kept w11_ w12_ (fun k_ => k_ = gb4_) := (by rw [hw]; exact (Kept.of_set (Kept.refl _ _) _ _)); have hbb : Below w.heap.size w w12_ := (by rw [hw]; exact (bs_ HB.out hge)); have hbx : w12_.heap[gb4_]? = some (.cells #[.slice Ao3_0 t1.length co3_0, .slice Ao3_1 t2.length co3_1, .slice Ao9_0 t8.length co9_0, .slice Ao9_1 t9.length co9_1, .slice Ao3_4 t5.length co3_4, .slice (some ⟨gd11_, 0, none⟩) y11.length co3_5] 33 (0, 0)) := (by rw [hw]; exact (bp_ (cs := #[.slice Ao3_0 t1.length co3_0, .slice Ao3_1 t2.length co3_1, .slice Ao9_0 t8.length co9_0, .slice Ao9_1 t9.length co9_1, .slice Ao3_4 t5.length co3_4, .slice (some ⟨gd11_, 0, none⟩) t6.length co3_5]) BK4.out 5 _ rfl)); clear hw; replace HO3_0 := aRk HO3_0 hkp HS; replace HO3_1 := aRk HO3_1 hkp HS; replace HO3_4 := aSk HO3_4 hkp HS; replace HO9_0 := aRk HO9_0 hkp HS; replace HO9_1 := aRk HO9_1 hkp HS; replace HO11 := aSk HO11 hkp HS; replace BK1 := aBk BK1 hkp HS; replace BK2 := aBk BK2 hkp HS; replace BK4 := A_.mk hbx; replace HB := A_.mk hbb; replace HS := aHs HS hkp.1; clear hkp hbb hbx hge Q1 Q2 Q4; have Q1 := blk6_ BK1.out; have Q2 := blk6_ BK2.out; have Q4 := blk6_ BK4.out) | ((with_reducible refine gs_ (t := 33) (p := 2) rfl ?_); have qf0 := bf_ BK2.out 0; have qf1 := bf_ BK2.out 1; have qf2 := bf_ BK2.out 2; have qf3 := bf_ BK2.out 3; have qf4 := bf_ BK2.out 4; have qf5 := bf_ BK2.out 5; refine se_ (t := 33) (p := 2) (v := ?vo_13) (w1 := (ch6_ w12_ gb2_ (.slice Ao3_0 t1.length co3_0) (.slice Ao3_1 t2.length co3_1) (.slice Ao9_0 t8.length co9_0) (.slice Ao9_1 t9.length co9_1) (.slice Ao3_4 t5.length co3_4) (.slice (some ⟨gd11_, 0, none⟩) y11.length co3_5))) ?hg ?ho ?hn ?hr ?_; (case ho => rfl); (case hg => rfl); (case hn => rfl); (case hr => first | (go_simp; done) | (go_simp; rfl)); intro w13_ hw; clear qf0 qf1 qf2 qf3 qf4 qf5; obtain ⟨hbx, hkp, hbb⟩ := st6_ hw BK2 HB (by have := HS.out; omega); clear hw; replace HO3_0 := aRk HO3_0 hkp HS; replace HO3_1 := aRk HO3_1 hkp HS; replace HO3_4 := aSk HO3_4 hkp HS; replace HO9_0 := aRk HO9_0 hkp HS; replace HO9_1 := aRk HO9_1 hkp HS; replace HO11 := aSk HO11 hkp HS; replace BK1 := aBk BK1 hkp HS; replace BK4 := aBk BK4 hkp HS; replace BK2 := A_.mk hbx; replace HB := A_.mk hbb; replace HS := aHs HS hkp.1; clear hkp hbb hbx Q1 Q2 Q4; have Q1 := blk6_ BK1.out; have Q2 := blk6_ BK2.out; have Q4 := blk6_ BK4.out))
 refine bodyPost_ret (results_ct rfl _ _ gb2_ 33 #[.slice Ao3_0 t1.length co3_0, .slice Ao3_1 t2.length co3_1, .slice Ao9_0 t8.length co9_0, .slice Ao9_1 t9.length co9_1, .slice Ao3_4 t5.length co3_4, .slice (some ⟨gd11_, 0, none⟩) y11.length co3_5] (0, 0) _ rfl BK2.out Try.underlying33 rfl (by kernel_rfl)) rfl ?_
 obtain ⟨f_, hf_⟩ : ∃ f_ : Nat → Nat, ∀ k_, f_ k_ = (if ((w2_.heap.size ≤ k_ ∧ k_ < w3_.heap.size) ∧ f3_ k_ = 0) then 0 else (if ((w2_.heap.size ≤ k_ ∧ k_ < w3_.heap.size) ∧ f3_ k_ = 1) then 1 else (if ((w15d_.heap.size ≤ k_ ∧ k_ < w9_.heap.size) ∧ f9_ k_ = 0) then 2 else (if ((w15d_.heap.size ≤ k_ ∧ k_ < w9_.heap.size) ∧ f9_ k_ = 1) then 3 else (if ((w2_.heap.size ≤ k_ ∧ k_ < w3_.heap.size) ∧ f3_ k_ = 4) then 4 else (if ((w2_.heap.size ≤ k_ ∧ k_ < w3_.heap.size) ∧ f3_ k_ = 5) then 5 else 0)))))) := ⟨fun k_ => (if ((w2_.heap.size ≤ k_ ∧ k_ < w3_.heap.size) ∧ f3_ k_ = 0) then 0 else (if ((w2_.heap.size ≤ k_ ∧ k_ < w3_.heap.size) ∧ f3_ k_ = 1) then 1 else (if ((w15d_.heap.size ≤ k_ ∧ k_ < w9_.heap.size) ∧ f9_ k_ = 0) then 2 else (if ((w15d_.heap.size ≤ k_ ∧ k_ < w9_.heap.size) ∧ f9_ k_ = 1) then 3 else (if ((w2_.heap.size ≤ k_ ∧ k_ < w3_.heap.size) ∧ f3_ k_ = 4) then 4 else (if ((w2_.heap.size ≤ k_ ∧ k_ < w3_.heap.size) ∧ f3_ k_ = 5) then 5 else 0)))))), fun _ => rfl⟩
 have hcol0_ : ∀ k_, (((w2_.heap.size ≤ k_ ∧ k_ < w3_.heap.size) ∧ f3_ k_ = 0)) → f_ k_ = 0 := fun k_ hk_ => by rw [hf_]; have := HS.out; repeat' (first | omega | split)
 have hcol1_ : ∀ k_, (((w2_.heap.size ≤ k_ ∧ k_ < w3_.heap.size) ∧ f3_ k_ = 1)) → f_ k_ = 1 := fun k_ hk_ => by rw [hf_]; have := HS.out; repeat' (first | omega | split)
 have hcol2_ : ∀ k_, (((w15d_.heap.size ≤ k_ ∧ k_ < w9_.heap.size) ∧ f9_ k_ = 0)) → f_ k_ = 2 := fun k_ hk_ => by rw [hf_]; have := HS.out; repeat' (first | omega | split)
 have hcol3_ : ∀ k_, (((w15d_.heap.size ≤ k_ ∧ k_ < w9_.heap.size) ∧ f9_ k_ = 1)) → f_ k_ = 3 := fun k_ hk_ => by rw [hf_]; have := HS.out; repeat' (first | omega | split)
 have hcol4_ : ∀ k_, (((w2_.heap.size ≤ k_ ∧ k_ < w3_.heap.size) ∧ f3_ k_ = 4)) → f_ k_ = 4 := fun k_ hk_ => by rw [hf_]; have := HS.out; repeat' (first | omega | split)
 have hcol5_ : ∀ k_, (((w2_.heap.size ≤ k_ ∧ k_ < w3_.heap.size) ∧ f3_ k_ = 5)) → f_ k_ = 5 := fun k_ hk_ => by rw [hf_]; have := HS.out; repeat' (first | omega | split)
 exact ⟨f_, _, _, _, _, _, _, rfl, Kd.R_mono HO3_0.out hcol0_, Kd.R_mono HO3_1.out hcol1_, Kd.R_mono HO9_0.out hcol2_, Kd.R_mono HO9_1.out hcol3_, Kd.S_mono HO3_4.out hcol4_, Kd.S_mono HO11.out hcol5_, HB.out⟩
end Go.Proofs.Ytlombfmebinjbaa.PFnExactTellCredits
