-- Written by a program of this session (wip/xp): not trusted, Lean checks it.
import Derived.Test.YtflopendlbciaaaPFnLinkOncex0
import Derived.Test.YtflopendlbciaaaPFnLinkOncex1
import Derived.Test.YtflopendlbciaaaPFnLinkOncex2
import Derived.Test.YtflopendlbciaaaPFnLinkOncex3
import Derived.Test.YtflopendlbciaaaPFnLinkOncex4
import Derived.Test.YtflopendlbciaaaPFnLinkOncex5
import Derived.Test.YtflopendlbciaaaPFnLinkOncex6
import Derived.Test.YtflopendlbciaaaPFnLinkOncex9
namespace Go.Proofs.Ytflopendlbciaaa.PFnLinkOnce
open Go.RowKit Go.Proofs.YtflopendlbciaaaW.PrintWords Go.Proofs.YtflopendlbciaaaW.PrintLast Go.Proofs.YtflopendlbciaaaW.PrintMore
attribute [local go_sem] max2_int min2_int max_two min_two max_three min_three max_four min_four   -- for this text's walks alone
set_option linter.unusedVariables false
set_option linter.unusedSimpArgs false

/-! ### impl_QueueFrame: function 33, its calls in a row -/
def impl_QueueFrame.f (k : Nat) (a0_0 : Int) (l0_1 : List (S68)) (a0_2 : Int) (l1 : List Int) : Option ((Int) × (List (S68)) × (Int) × (Bool)) := ((impl_copySender.f k a0_0 l0_1 a0_2).bind fun ⟨t1, t2, t3⟩ => ((impl_SenderOk.f k a0_0 l0_1 a0_2).bind fun t4 => (if t4 = true then ((impl_AreBytes.f k l1).bind fun t5 => (if t5 = true then (if (l0_1.length : Int) = 7 then (some (t1, t2, t3, false)) else ((slices_Clone_int_int.f l1).bind fun t6 => (if (t2.length + 1) * 32 ≤ 140737488355328 then ((impl_NextSeq.f a0_0).bind fun t8 => (some (t8, (t2 ++ [(⟨a0_0, t6⟩ : S68)]), t3, true))) else none))) else (some (t1, t2, t3, false)))) else (some (t1, t2, t3, false)))))
set_option maxHeartbeats 8000000 in
set_option maxRecDepth 100000 in
theorem impl_QueueFrame.calls (k : Nat) (a0_0 : Int) (A0_1 : Option Addr) (c0_1 : Nat) (l0_1 : List (S68)) (a0_2 : Int) (A1 : Option Addr) (c1 : Nat) (l1 : List Int) (r1 : Int) (r2 : List (S68)) (r3 : Int) (r4 : Bool) (w : World) (hr0_1 : Kd.C k68 w A0_1 l0_1.length l0_1) (hc0_1 : l0_1.length ≤ c0_1) (hr1 : Kd.C (Kd.int .i64) w A1 l1.length l1) (hc1 : l1.length ≤ c1) (h : impl_QueueFrame.f k a0_0 l0_1 a0_2 l1 = some (r1, r2, r3, r4)) :
  Calls Try.prog 33 #[.agg #[.int .i64 a0_0, .slice A0_1 l0_1.length c0_1, .int .i64 a0_2], .slice A1 l1.length c1] w fun e w' => ∃ f_ : Nat → Nat, ∃ v0_ : Value, e = .returned (.tuple #[.agg #[.int .i64 r1, v0_, .int .i64 r3], .bool r4]) ∧ Kd.S k68 68 w' w.heap.size (fun k_ => f_ k_ = 0) v0_ r2 ∧ Below w.heap.size w w' := by
 have HR0_1 := A_.mk hr0_1
 have HC0_1 := A_.mk hc0_1
 clear hr0_1 hc0_1
 have HR1 := A_.mk hr1
 have HC1 := A_.mk hc1
 clear hr1 hc1
 have HB := A_.mk (Below.refl w.heap.size w)
 unfold impl_QueueFrame.f at h
 have H := h
 clear h
 replace H := oa_ H
 obtain ⟨⟨t1, t2, t3⟩, A3, H⟩ := H
 try dsimp only at H
 replace H := oa_ H
 obtain ⟨t4, A6, H⟩ := H
 replace H := A_.mk H
 have hu28 := Try.underlying28
 go_enter Try.func33, Try.ntmps33
 have HS := A_.mk (Nat.le_refl w.heap.size)
 go_wp2_with (first | ((with_reducible refine gd_ (N := 2) rfl ?_); refine by_ 2 (cs := #[.int .i64 a0_0, .slice A0_1 l0_1.length c0_1, .int .i64 a0_2]) (t := 28) ?_; intro gb1_ hg w1_ hbox hb; replace HS := A_.mk (And.intro HS.out (show gb1_ = w.heap.size ∧ gb1_ < w1_.heap.size from ⟨hg, blk_lt hbox⟩)); replace HB := aHB HB hb; have BK1 := A_.mk hbox; clear hbox hb hg; have Q1 := blk3_ BK1.out) | ((with_reducible refine gd_ (N := 4) rfl ?_); refine by_ 4 (cs := #[.int .i64 0, .slice none 0 0, .int .i64 0]) (t := 28) ?_; intro gb2_ hg w2_ hbox hb; replace HS := A_.mk (And.intro HS.out (show gb2_ = w1_.heap.size ∧ gb2_ < w2_.heap.size from ⟨hg, blk_lt hbox⟩)); replace BK1 := aBb BK1 hb; replace HB := aHB HB hb; have BK2 := A_.mk hbox; clear hbox hb hg Q1; have Q1 := blk3_ BK1.out; have Q2 := blk3_ BK2.out) | ((with_reducible refine gc_ (f := 21) rfl ?_); refine gl_ (some 8) Try.func21 #[.agg #[.int .i64 a0_0, .slice A0_1 l0_1.length c0_1, .int .i64 a0_2]] ?_; (with_reducible refine (impl_copySender.calls k a0_0 _ _ l0_1 a0_2 t1 t2 t3 _ (Kd.C_below HR0_1.out HB.out) HC0_1.out A3.out).mono ?_); rintro e w3_ ⟨v1_, rfl, ho0_, hb⟩; refine ⟨_, rfl, ?_⟩; replace HS := aHs HS hb.size; obtain ⟨Ao3_1, co3_1, ev_⟩ := Kd.S_slice ho0_; subst ev_; have HO3_1 := aSm ho0_ HB.out.size; replace BK1 := aBb BK1 hb; replace BK2 := aBb BK2 hb; replace HB := aHB HB hb; clear hb ho0_ Q1 Q2; have Q1 := blk3_ BK1.out; have Q2 := blk3_ BK2.out) | ((with_reducible refine gd_ (N := 6) rfl ?_); refine by_ 6 (cs := #[.int .i64 0, .slice none 0 0, .int .i64 0]) (t := 28) ?_; intro gb4_ hg w4_ hbox hb; replace HS := A_.mk (And.intro HS.out (show gb4_ = w3_.heap.size ∧ gb4_ < w4_.heap.size from ⟨hg, blk_lt hbox⟩)); replace HO3_1 := aSb HO3_1 hb; replace BK1 := aBb BK1 hb; replace BK2 := aBb BK2 hb; replace HB := aHB HB hb; have BK4 := A_.mk hbox; clear hbox hb hg Q1 Q2; have Q1 := blk3_ BK1.out; have Q2 := blk3_ BK2.out; have Q4 := blk3_ BK4.out) | ((with_reducible refine gate_store (t := 28) (p := 6) rfl ?_); have qf0 := bf_ BK4.out 0; have qf1 := bf_ BK4.out 1; have qf2 := bf_ BK4.out 2; refine se_ (t := 28) (p := 6) (v := ?vo_5) (w1 := (ch3_ w4_ gb4_ (.int .i64 t1) (.slice Ao3_1 t2.length co3_1) (.int .i64 t3))) ?hg ?ho ?hn ?hr ?_; (case ho => rfl); (case hg => rfl); (case hn => rfl); (case hr => first | (go_simp; done) | (go_simp; rfl)); intro w5_ hw; clear qf0 qf1 qf2; obtain ⟨hbx, hkp, hbb⟩ := st3_ hw BK4 HB (by have := HS.out; omega); clear hw; replace HO3_1 := aSk HO3_1 hkp HS; replace BK1 := aBk BK1 hkp HS; replace BK2 := aBk BK2 hkp HS; replace BK4 := A_.mk hbx; replace HB := A_.mk hbb; replace HS := aHs HS hkp.1; clear hkp hbb hbx Q1 Q2 Q4; have Q1 := blk3_ BK1.out; have Q2 := blk3_ BK2.out; have Q4 := blk3_ BK4.out))
 (with_reducible refine (impl_SenderOk.calls k a0_0 _ _ l0_1 a0_2 t4 _ (Kd.C_below HR0_1.out HB.out) HC0_1.out A6.out).mono ?_)
 rintro e w6_ ⟨rfl, hb⟩
 replace HS := aHs HS hb.size
 replace HO3_1 := aSb HO3_1 hb
 replace BK1 := aBb BK1 hb
 replace BK2 := aBb BK2 hb
 replace BK4 := aBb BK4 hb
 replace HB := aHB HB hb
 clear hb  Q1 Q2 Q4
 have Q1 := blk3_ BK1.out
 have Q2 := blk3_ BK2.out
 have Q4 := blk3_ BK4.out
 replace H := H.out
 by_cases hc1_ : t4 = true
 case neg =>
  rw [if_neg hc1_] at H
  replace hc1_ := eq_false_of_ne_true hc1_
  subst hc1_
  simp only [Option.some.injEq, Prod.mk.injEq] at H
  obtain ⟨rfl, rfl, rfl, rfl⟩ := H
  go_wp2_with (first | ((with_reducible refine gate_store (t := 28) (p := 4) rfl ?_); have qf0 := bf_ BK2.out 0; have qf1 := bf_ BK2.out 1; have qf2 := bf_ BK2.out 2; refine se_ (t := 28) (p := 4) (v := ?vo_16) (w1 := (ch3_ w6_ gb2_ (.int .i64 t1) (.slice Ao3_1 t2.length co3_1) (.int .i64 t3))) ?hg ?ho ?hn ?hr ?_; (case ho => rfl); (case hg => rfl); (case hn => rfl); (case hr => first | (go_simp; done) | (go_simp; rfl)); intro w16_ hw; clear qf0 qf1 qf2; obtain ⟨hbx, hkp, hbb⟩ := st3_ hw BK2 HB (by have := HS.out; omega); clear hw; replace HO3_1 := aSk HO3_1 hkp HS; replace BK1 := aBk BK1 hkp HS; replace BK4 := aBk BK4 hkp HS; replace BK2 := A_.mk hbx; replace HB := A_.mk hbb; replace HS := aHs HS hkp.1; clear hkp hbb hbx Q1 Q2 Q4; have Q1 := blk3_ BK1.out; have Q2 := blk3_ BK2.out; have Q4 := blk3_ BK4.out))
  refine bodyPost_ret (results_ct rfl _ _ gb2_ 28 #[.int .i64 t1, .slice Ao3_1 t2.length co3_1, .int .i64 t3] (0, 0) _ rfl BK2.out Try.underlying28 rfl (by kernel_rfl)) rfl ?_
  obtain ⟨f_, hf_⟩ : ∃ f_ : Nat → Nat, ∀ k_, f_ k_ = (if ((w2_.heap.size ≤ k_ ∧ k_ < w3_.heap.size)) then 0 else 0) := ⟨fun k_ => (if ((w2_.heap.size ≤ k_ ∧ k_ < w3_.heap.size)) then 0 else 0), fun _ => rfl⟩
  have hcol0_ : ∀ k_, (((w2_.heap.size ≤ k_ ∧ k_ < w3_.heap.size))) → f_ k_ = 0 := fun k_ hk_ => by rw [hf_]; have := HS.out; repeat' (first | omega | split)
  exact ⟨f_, _, rfl, Kd.S_mono HO3_1.out hcol0_, HB.out⟩
 rw [if_pos hc1_] at H
 subst hc1_
 replace H := oa_ H
 obtain ⟨t5, A7, H⟩ := H
 replace H := A_.mk H
 go_wp2_with (fail)
 (with_reducible refine (impl_AreBytes.calls k _ _ l1 t5 _ (Kd.C_below HR1.out HB.out) HC1.out A7.out).mono ?_)
 rintro e w7_ ⟨rfl, hb⟩
 replace hb := Drawn0.below hb
 replace HS := aHs HS hb.size
 replace HO3_1 := aSb HO3_1 hb
 replace BK1 := aBb BK1 hb
 replace BK2 := aBb BK2 hb
 replace BK4 := aBb BK4 hb
 replace HB := aHB HB hb
 clear hb  Q1 Q2 Q4
 have Q1 := blk3_ BK1.out
 have Q2 := blk3_ BK2.out
 have Q4 := blk3_ BK4.out
 replace H := H.out
 by_cases hc2_ : t5 = true
 case neg =>
  rw [if_neg hc2_] at H
  replace hc2_ := eq_false_of_ne_true hc2_
  subst hc2_
  simp only [Option.some.injEq, Prod.mk.injEq] at H
  obtain ⟨rfl, rfl, rfl, rfl⟩ := H
  go_wp2_with (first | ((with_reducible refine gate_store (t := 28) (p := 4) rfl ?_); have qf0 := bf_ BK2.out 0; have qf1 := bf_ BK2.out 1; have qf2 := bf_ BK2.out 2; refine se_ (t := 28) (p := 4) (v := ?vo_15) (w1 := (ch3_ w7_ gb2_ (.int .i64 t1) (.slice Ao3_1 t2.length co3_1) (.int .i64 t3))) ?hg ?ho ?hn ?hr ?_; (case ho => rfl); (case hg => rfl); (case hn => rfl); (case hr => first | (go_simp; done) | (go_simp; rfl)); intro w15_ hw; clear qf0 qf1 qf2; obtain ⟨hbx, hkp, hbb⟩ := st3_ hw BK2 HB (by have := HS.out; omega); clear hw; replace HO3_1 := aSk HO3_1 hkp HS; replace BK1 := aBk BK1 hkp HS; replace BK4 := aBk BK4 hkp HS; replace BK2 := A_.mk hbx; replace HB := A_.mk hbb; replace HS := aHs HS hkp.1; clear hkp hbb hbx Q1 Q2 Q4; have Q1 := blk3_ BK1.out; have Q2 := blk3_ BK2.out; have Q4 := blk3_ BK4.out))
  refine bodyPost_ret (results_ct rfl _ _ gb2_ 28 #[.int .i64 t1, .slice Ao3_1 t2.length co3_1, .int .i64 t3] (0, 0) _ rfl BK2.out Try.underlying28 rfl (by kernel_rfl)) rfl ?_
  obtain ⟨f_, hf_⟩ : ∃ f_ : Nat → Nat, ∀ k_, f_ k_ = (if ((w2_.heap.size ≤ k_ ∧ k_ < w3_.heap.size)) then 0 else 0) := ⟨fun k_ => (if ((w2_.heap.size ≤ k_ ∧ k_ < w3_.heap.size)) then 0 else 0), fun _ => rfl⟩
  have hcol0_ : ∀ k_, (((w2_.heap.size ≤ k_ ∧ k_ < w3_.heap.size))) → f_ k_ = 0 := fun k_ hk_ => by rw [hf_]; have := HS.out; repeat' (first | omega | split)
  exact ⟨f_, _, rfl, Kd.S_mono HO3_1.out hcol0_, HB.out⟩
 rw [if_pos hc2_] at H
 subst hc2_
 by_cases hc3_ : (l0_1.length : Int) = 7
 case pos =>
  rw [if_pos hc3_] at H
  have hc3_b0 : ((l0_1.length : Int) == 7) = true := beq_iff_eq.mpr hc3_
  have hc3_bn : ((l0_1.length : Int) != 7) = false := bne_eq_false_iff_eq.mpr hc3_
  have hc3_b1 : (l0_1.length == 7) = true := by first | simpa using hc3_ | (simp at hc3_ ⊢; omega)
  replace hc3_ := A_.mk hc3_
  simp only [Option.some.injEq, Prod.mk.injEq] at H
  obtain ⟨rfl, rfl, rfl, rfl⟩ := H
  go_wp2_with (first | ((with_reducible refine gate_store (t := 28) (p := 4) rfl ?_); have qf0 := bf_ BK2.out 0; have qf1 := bf_ BK2.out 1; have qf2 := bf_ BK2.out 2; refine se_ (t := 28) (p := 4) (v := ?vo_8) (w1 := (ch3_ w7_ gb2_ (.int .i64 t1) (.slice Ao3_1 t2.length co3_1) (.int .i64 t3))) ?hg ?ho ?hn ?hr ?_; (case ho => rfl); (case hg => rfl); (case hn => rfl); (case hr => first | (go_simp; done) | (go_simp; rfl)); intro w8_ hw; clear qf0 qf1 qf2; obtain ⟨hbx, hkp, hbb⟩ := st3_ hw BK2 HB (by have := HS.out; omega); clear hw; replace HO3_1 := aSk HO3_1 hkp HS; replace BK1 := aBk BK1 hkp HS; replace BK4 := aBk BK4 hkp HS; replace BK2 := A_.mk hbx; replace HB := A_.mk hbb; replace HS := aHs HS hkp.1; clear hkp hbb hbx Q1 Q2 Q4; have Q1 := blk3_ BK1.out; have Q2 := blk3_ BK2.out; have Q4 := blk3_ BK4.out))
  refine bodyPost_ret (results_ct rfl _ _ gb2_ 28 #[.int .i64 t1, .slice Ao3_1 t2.length co3_1, .int .i64 t3] (0, 0) _ rfl BK2.out Try.underlying28 rfl (by kernel_rfl)) rfl ?_
  obtain ⟨f_, hf_⟩ : ∃ f_ : Nat → Nat, ∀ k_, f_ k_ = (if ((w2_.heap.size ≤ k_ ∧ k_ < w3_.heap.size)) then 0 else 0) := ⟨fun k_ => (if ((w2_.heap.size ≤ k_ ∧ k_ < w3_.heap.size)) then 0 else 0), fun _ => rfl⟩
  have hcol0_ : ∀ k_, (((w2_.heap.size ≤ k_ ∧ k_ < w3_.heap.size))) → f_ k_ = 0 := fun k_ hk_ => by rw [hf_]; have := HS.out; repeat' (first | omega | split)
  exact ⟨f_, _, rfl, Kd.S_mono HO3_1.out hcol0_, HB.out⟩
 rw [if_neg hc3_] at H
 have hc3_b0 : ((l0_1.length : Int) == 7) = false := beq_eq_false_iff_ne.mpr hc3_
 have hc3_bn : ((l0_1.length : Int) != 7) = true := bne_iff_ne.mpr hc3_
 have hc3_b1 : (l0_1.length == 7) = false := by first | simpa using hc3_ | (simp at hc3_ ⊢; omega)
 replace H := oa_ H
 obtain ⟨t6, A9, H⟩ := H
 by_cases hl4_ : (t2.length + 1) * 32 ≤ 140737488355328
 case neg => rw [if_neg hl4_] at H; cases H
 rw [if_pos hl4_] at H
 have LM10 := A_.mk hl4_
 clear hl4_
 obtain ⟨y7, Ny7⟩ : ∃ q_, q_ = (t2 ++ [(⟨a0_0, t6⟩ : S68)]) := ⟨_, rfl⟩
 rw [← Ny7] at H
 replace Ny7 := A_.mk Ny7
 replace H := oa_ H
 obtain ⟨t8, A12, H⟩ := H
 simp only [Option.some.injEq, Prod.mk.injEq] at H
 obtain ⟨rfl, rfl, rfl, rfl⟩ := H
 go_wp2_with (fail)
 refine start_ (n := 11) (S := fun w' => (w'.cell? ⟨gb1_, 0, none⟩ = some (.int .i64 a0_0) ∧ w'.cell? ⟨gb1_, 1, none⟩ = some (.slice A0_1 l0_1.length c0_1) ∧ w'.cell? ⟨gb1_, 2, none⟩ = some (.int .i64 a0_2)) ∧ (w'.cell? ⟨gb4_, 0, none⟩ = some (.int .i64 t1) ∧ w'.cell? ⟨gb4_, 1, none⟩ = some (.slice Ao3_1 t2.length co3_1) ∧ w'.cell? ⟨gb4_, 2, none⟩ = some (.int .i64 t3))) (ds := [10]) #[F, F, F, F, F, F, F, F, F, F, F] (by kernel_rfl) rfl rfl ⟨blk3_ BK1.out, blk3_ BK4.out⟩ (fun hHeld => ?_)
 clear Q1 Q2 Q4
 have hb := below_drew (Below.refl w7_.heap.size w7_)
 replace HS := aHs HS hb.size
 replace HO3_1 := aSb HO3_1 hb
 replace BK1 := aBb BK1 hb
 replace BK2 := aBb BK2 hb
 replace BK4 := aBb BK4 hb
 replace HB := aHB HB hb
 clear hb
 generalize w7_.drew = w17d_ at HO3_1 BK1 BK2 BK4 HB HS hHeld ⊢
 refine pd_ (i := 0) (N := some 24) #[T, F, F, F, F, F, F, F, F, F, F] rfl ?_
 refine tl_ (i := 1) (N := some 25) #[T, T, F, F, F, F, F, F, F, F, F] rfl hHeld ?_
 refine pd_ (i := 2) (N := some 26) #[T, T, T, F, F, F, F, F, F, F, F] rfl ?_
 refine tl_ (i := 3) (N := some 27) #[T, T, T, T, F, F, F, F, F, F, F] rfl hHeld ?_
 refine pd_ (i := 4) (N := some 28) #[T, T, T, T, T, F, F, F, F, F, F] rfl ?_
 refine on_ (i := 5) (N := some 29) #[T, T, T, T, T, T, F, F, F, F, F] rfl (fun K hK => ?_)
 refine gz_ Try.func24 #[.slice A1 l1.length c1] ?_
 with_reducible refine (slices_Clone_int_int.calls _ _ l1 t6 _ (Kd.C_below HR1.out HB.out) HC1.out A9.out).mono ?_
 rintro e w9_ ⟨v0_, rfl, ho0_, hb⟩
 refine ⟨_, rfl, ?_⟩
 replace HS := aHs HS hb.size
 obtain ⟨Ao9_0, co9_0, ev_⟩ := Kd.R_slice ho0_
 subst ev_
 have HO9_0 := aRm ho0_ HB.out.size
 replace HO3_1 := aSb HO3_1 hb
 replace BK1 := aBb BK1 hb
 replace BK2 := aBb BK2 hb
 replace BK4 := aBb BK4 hb
 replace HB := aHB HB hb
 clear hb ho0_
 refine hK.out _ _ ⟨blk3_ BK1.out, blk3_ BK4.out⟩ (fun hHeld => ?_)
 clear hK K
 refine nm_ ?_
 refine pd_ (i := 6) (N := some 30) #[T, T, T, T, T, T, T, F, F, F, F] rfl ?_
 refine on_ (i := 7) (N := some 31) #[T, T, T, T, T, T, T, T, F, F, F] rfl (fun K hK => ?_)
 refine value_ (w1 := ?_) (v := ?_) (by rfl) rfl ?_ ?_
 rotate_left 2
 ·go_simp
  constructor
  ·rfl
  ·rfl
 refine hK.out _ _ ⟨blk3_ (bl_ BK1.out _), blk3_ (bl_ BK4.out _)⟩ (fun hHeld => ?_)
 clear hK K
 refine nm_ ?_
 refine on_ (i := 8) (N := some 32) #[T, T, T, T, T, T, T, T, T, F, F] rfl (fun K hK => ?_)
 refine Kd.S_append_step k68 (w0 := w) w.heap.size (by rfl) (.tmp 25) (.tmp 31) 26 68 ((.agg #[(.int .i64 0), (.slice none 0 0)])) 32 rfl Try.underlying26 info68 rfl (by decide) (by omega) (.slice Ao3_1 t2.length co3_1) t2 (⟨a0_0, t6⟩ : S68) [.int .i64 a0_0, .slice Ao9_0 t6.length co9_0] (fun k_ => (((w2_.heap.size ≤ k_ ∧ k_ < w3_.heap.size))) ∨ (((w17d_.heap.size ≤ k_ ∧ k_ < w9_.heap.size))) ∨ w9_.heap.size ≤ k_) (fun k_ => ((w17d_.heap.size ≤ k_ ∧ k_ < w9_.heap.size))) rfl rfl ?aP ?aQ ?aF ?aO HB.out HB.out.size ?aL ?_
 case aP => exact k68_mkM _ _ _ (⟨a0_0, t6⟩ : S68) HO9_0.out
 case aQ => exact fun k_ hk_ => ⟨.inr (.inl hk_), fun e_ => by have := (Kd.S_R HO3_1.out).1 k_ e_.symm; clear e_; have := HS.out; omega⟩
 case aF => exact fun k_ hk_ => .inr (.inr hk_)
 case aO => exact Kd.S_mono HO3_1.out (fun k_ hk_ => ⟨.inl hk_, fun e_ => by have := HS.out; omega⟩)
 case aL => have := LM10.out; omega
 intro v_ w10_ ho hbb hg hat
 clear hat
 rw [← Ny7.out] at ho
 have hkp : Kept w9_ w10_ (fun k_ => ((w2_.heap.size ≤ k_ ∧ k_ < w3_.heap.size))) := Kept.of_grown hg (Kept.refl _ _) (fun k_ e_ => .inl ((Kd.S_R HO3_1.out).1 k_ e_))
 replace BK1 := aBk BK1 hkp HS
 replace BK2 := aBk BK2 hkp HS
 replace BK4 := aBk BK4 hkp HS
 replace HS := aHs HS hkp.1
 obtain ⟨Ao10, co10, ev_⟩ := Kd.S_slice ho
 subst ev_
 have HO10 := A_.mk (Kd.S_mono (ok' := (fun k_ => ((w2_.heap.size ≤ k_ ∧ k_ < w3_.heap.size)) ∨ ((w17d_.heap.size ≤ k_ ∧ k_ < w9_.heap.size)) ∨ ((w9_.heap.size ≤ k_ ∧ k_ < w10_.heap.size)))) (Kd.S_bound ho) (fun k_ hk_ => by have := hk_.1; have := hk_.2.2.1; have := hk_.2.1; clear hk_; have := HS.out; omega))
 replace HB := A_.mk hbb
 clear hkp hbb hg ho HO3_1 HO9_0
 refine hK.out _ _ ⟨blk3_ BK1.out, blk3_ BK4.out⟩ (fun hHeld => ?_)
 clear hK K
 refine nm_ ?_
 refine pd_ (i := 9) (N := some 33) #[T, T, T, T, T, T, T, T, T, T, F] rfl ?_
 refine last_ (i := 10) (N := none) #[T, T, T, T, T, T, T, T, T, T, T] rfl rfl (by kernel_rfl) (by decide) (fun K hK => ?_)
 have Q1 := blk3_ BK1.out
 have Q2 := blk3_ BK2.out
 have Q4 := blk3_ BK4.out
 have qf0 := bf_ BK4.out 1
 obtain ⟨w11_, hw⟩ : ∃ q_ : World, q_ = (w10_.setCell ⟨gb4_, 1, none⟩ (.slice Ao10 y7.length co10)) := ⟨_, rfl⟩
 refine skip_ (w1 := w11_) (by rfl) rfl ?_ ?_
 ·rw [hw]; go_simp; try rfl
 refine hK.out _ _ ?_
 clear hK K qf0 Q1 Q2 Q4
 have hge : w.heap.size ≤ gb4_ := (by have := HS.out; omega)
 have hkp : Kept w10_ w11_ (fun k_ => k_ = gb4_) := (by rw [hw]; exact (Kept.of_set (Kept.refl _ _) _ _))
 have hbb : Below w.heap.size w w11_ := (by rw [hw]; exact (bs_ HB.out hge))
 have hbx : w11_.heap[gb4_]? = some (.cells #[.int .i64 t1, .slice Ao10 y7.length co10, .int .i64 t3] 28 (0, 0)) := (by rw [hw]; exact (bp_ (cs := #[.int .i64 t1, .slice Ao3_1 t2.length co3_1, .int .i64 t3]) BK4.out 1 _ rfl))
 clear hw
 replace HO10 := aSk HO10 hkp HS
 replace BK1 := aBk BK1 hkp HS
 replace BK2 := aBk BK2 hkp HS
 replace BK4 := A_.mk hbx
 replace HB := A_.mk hbb
 replace HS := aHs HS hkp.1
 clear hkp hbb hbx hge
 refine done_ (by kernel_rfl) ?_
 have Q1 := blk3_ BK1.out
 have Q2 := blk3_ BK2.out
 have Q4 := blk3_ BK4.out
 go_wp2_with (first | ((with_reducible refine gc_ (f := 51) rfl ?_); refine gl_ (some 36) Try.func51 #[.int .i64 a0_0] ?_; (with_reducible refine (impl_NextSeq.calls a0_0 t8 _ A12.out).mono ?_); rintro e w12_ ⟨rfl, hb⟩; refine ⟨_, rfl, ?_⟩; replace hb := Drawn0.below hb; replace HS := aHs HS hb.size; replace HO10 := aSb HO10 hb; replace BK1 := aBb BK1 hb; replace BK2 := aBb BK2 hb; replace BK4 := aBb BK4 hb; replace HB := aHB HB hb; clear hb  Q1 Q2 Q4; have Q1 := blk3_ BK1.out; have Q2 := blk3_ BK2.out; have Q4 := blk3_ BK4.out) | ((with_reducible refine gate_store (t := 3) (p := 37) rfl ?_); have qf0 := bf_ BK4.out 0; refine se_ (t := 3) (p := 37) (v := ?vo_13) (w1 := (w12_.setCell ⟨gb4_, 0, none⟩ (.int .i64 t8))) ?hg ?ho ?hn ?hr ?_; (case ho => rfl); (case hg => rfl); (case hn => rfl); (case hr => first | (go_simp; done) | (go_simp; rfl)); intro w13_ hw; clear qf0; have hge : w.heap.size ≤ gb4_ := (by have := HS.out; omega); have hkp : Kept w12_ w13_ (fun k_ => k_ = gb4_) := (by rw [hw]; exact (Kept.of_set (Kept.refl _ _) _ _)); have hbb : Below w.heap.size w w13_ := (by rw [hw]; exact (bs_ HB.out hge)); have hbx : w13_.heap[gb4_]? = some (.cells #[.int .i64 t8, .slice Ao10 y7.length co10, .int .i64 t3] 28 (0, 0)) := (by rw [hw]; exact (bp_ (cs := #[.int .i64 t1, .slice Ao10 y7.length co10, .int .i64 t3]) BK4.out 0 _ rfl)); clear hw; replace HO10 := aSk HO10 hkp HS; replace BK1 := aBk BK1 hkp HS; replace BK2 := aBk BK2 hkp HS; replace BK4 := A_.mk hbx; replace HB := A_.mk hbb; replace HS := aHs HS hkp.1; clear hkp hbb hbx hge Q1 Q2 Q4; have Q1 := blk3_ BK1.out; have Q2 := blk3_ BK2.out; have Q4 := blk3_ BK4.out) | ((with_reducible refine gate_store (t := 28) (p := 4) rfl ?_); have qf0 := bf_ BK2.out 0; have qf1 := bf_ BK2.out 1; have qf2 := bf_ BK2.out 2; refine se_ (t := 28) (p := 4) (v := ?vo_14) (w1 := (ch3_ w13_ gb2_ (.int .i64 t8) (.slice Ao10 y7.length co10) (.int .i64 t3))) ?hg ?ho ?hn ?hr ?_; (case ho => rfl); (case hg => rfl); (case hn => rfl); (case hr => first | (go_simp; done) | (go_simp; rfl)); intro w14_ hw; clear qf0 qf1 qf2; obtain ⟨hbx, hkp, hbb⟩ := st3_ hw BK2 HB (by have := HS.out; omega); clear hw; replace HO10 := aSk HO10 hkp HS; replace BK1 := aBk BK1 hkp HS; replace BK4 := aBk BK4 hkp HS; replace BK2 := A_.mk hbx; replace HB := A_.mk hbb; replace HS := aHs HS hkp.1; clear hkp hbb hbx Q1 Q2 Q4; have Q1 := blk3_ BK1.out; have Q2 := blk3_ BK2.out; have Q4 := blk3_ BK4.out))
 refine bodyPost_ret (results_ct rfl _ _ gb2_ 28 #[.int .i64 t8, .slice Ao10 y7.length co10, .int .i64 t3] (0, 0) _ rfl BK2.out Try.underlying28 rfl (by kernel_rfl)) rfl ?_
 obtain ⟨f_, hf_⟩ : ∃ f_ : Nat → Nat, ∀ k_, f_ k_ = (if ((w2_.heap.size ≤ k_ ∧ k_ < w3_.heap.size)) ∨ ((w17d_.heap.size ≤ k_ ∧ k_ < w9_.heap.size)) ∨ ((w9_.heap.size ≤ k_ ∧ k_ < w10_.heap.size)) then 0 else 0) := ⟨fun k_ => (if ((w2_.heap.size ≤ k_ ∧ k_ < w3_.heap.size)) ∨ ((w17d_.heap.size ≤ k_ ∧ k_ < w9_.heap.size)) ∨ ((w9_.heap.size ≤ k_ ∧ k_ < w10_.heap.size)) then 0 else 0), fun _ => rfl⟩
 have hcol0_ : ∀ k_, (((w2_.heap.size ≤ k_ ∧ k_ < w3_.heap.size)) ∨ ((w17d_.heap.size ≤ k_ ∧ k_ < w9_.heap.size)) ∨ ((w9_.heap.size ≤ k_ ∧ k_ < w10_.heap.size))) → f_ k_ = 0 := fun k_ hk_ => by rw [hf_]; have := HS.out; repeat' (first | omega | split)
 exact ⟨f_, _, rfl, Kd.S_mono HO10.out hcol0_, HB.out⟩
/-! ### impl_FlipBit: function 52 -/
def impl_FlipBit.f (k : Nat) (l0 : List Int) (a1 : Int) : Option (List Int) := (slices_Clone_int_int.f l0).bind fun t324 => ((impl_AreBytes.f k l0).bind fun t327 => (if t327 = true then ((impl_within.f a1 0 (wrap64 ((wrap64 (8 * (l0.length : Int))) - 1))).bind fun t328 => (if t328 = true then (if 0 ≤ (wrap64 (Int.tdiv a1 8)) then (if (wrap64 (Int.tdiv a1 8)) < (t324.length : Int) then (if 0 ≤ (IntKind.u64.wrap (Int.tmod a1 8)) then (some (t324.set ((wrap64 (Int.tdiv a1 8)) : Int).toNat (Go.bits .xor .i64 (rd t324 (wrap64 (Int.tdiv a1 8))) (shl .i64 1 (IntKind.u64.wrap (Int.tmod a1 8)))))) else (none)) else (none)) else (none)) else (some t324))) else (some t324)))
set_option maxHeartbeats 8000000 in
set_option maxRecDepth 100000 in
theorem impl_FlipBit.calls (k : Nat) (A0 : Option Addr) (c0 : Nat) (l0 : List Int) (a1 : Int) (r : List Int) (w : World) (hr0 : Kd.C (Kd.int .i64) w A0 l0.length l0) (hc0 : l0.length ≤ c0) (h : impl_FlipBit.f k l0 a1 = some r) :
  Calls Try.prog 52 #[.slice A0 l0.length c0, .int .i64 a1] w fun e w' => ∃ v0_ : Value, e = .returned (v0_) ∧ Kd.R (Kd.int .i64) 3 w' w.heap.size (fun _ => True) v0_ r ∧ Below w.heap.size w w' := by
 have HR0 := A_.mk hr0
 have HC0 := A_.mk hc0
 clear hr0 hc0
 have HB := A_.mk (Below.refl w.heap.size w)
 have H : ((slices_Clone_int_int.f l0).bind fun t324 => ((impl_AreBytes.f k l0).bind fun t327 => (if t327 = true then ((impl_within.f a1 0 (wrap64 ((wrap64 (8 * (l0.length : Int))) - 1))).bind fun t328 => (if t328 = true then (if 0 ≤ (wrap64 (Int.tdiv a1 8)) then (if (wrap64 (Int.tdiv a1 8)) < (t324.length : Int) then (if 0 ≤ (IntKind.u64.wrap (Int.tmod a1 8)) then (some (t324.set ((wrap64 (Int.tdiv a1 8)) : Int).toNat (Go.bits .xor .i64 (rd t324 (wrap64 (Int.tdiv a1 8))) (shl .i64 1 (IntKind.u64.wrap (Int.tmod a1 8)))))) else (none)) else (none)) else (none)) else (some t324))) else (some t324)))) = some r := h
 clear h
 replace H := ob_ H
 obtain ⟨t324, A30, H⟩ := H
 have A3 := A_.mk A30
 clear A30
 replace H := ob_ H
 obtain ⟨t327, A40, H⟩ := H
 have A4 := A_.mk A40
 clear A40
 by_cases c5 : t327 = true
 rotate_left
 ·replace c5 := Bool.eq_false_iff.mpr c5
  subst c5
  have H1 : (some t324) = some r := by rw [if_neg (show ¬ (false = true) by decide)] at H; exact H
  clear H
  have H := H1
  clear H1
  obtain rfl := Option.some.inj H
  go_enter Try.func52, Try.ntmps52
  go_wp2_with (first | ((with_reducible refine gc_ (f := 24) rfl ?_); refine gl_ (some 7) Try.func24 #[.slice A0 l0.length c0] ?_; (with_reducible refine (slices_Clone_int_int.calls _ _ l0 t324 _ ?side1 ?side2 A3.out).mono ?_); (case side1 => exact cY (HR0.out)); (case side2 => exact HC0.out); rintro e w20 ⟨v325, rfl, ho0, hb⟩; refine ⟨_, rfl, ?_⟩; have n0_ := A_.mk (Kd.R_lower ho0 (bz_ (beY HB.out))); have n1_ := A_.mk (bt_ (beY HB.out) hb); clear HB; have HO326 := n0_; have HB := n1_; clear n0_ n1_; (try clear hb); (try clear hb2); (try clear hk); (try clear hi); (try clear ho0)) | ((with_reducible refine gc_ (f := 47) rfl ?_); refine gl_ (some 9) Try.func47 #[.slice A0 l0.length c0] ?_; (with_reducible refine (impl_AreBytes.calls k _ _ l0 false _ ?side1 ?side2 A4.out).mono ?_); (case side1 => exact cY ((Kd.C_below HR0.out HB.out))); (case side2 => exact HC0.out); rintro e w' ⟨rfl, ⟨nd, rfl⟩⟩; refine ⟨_, rfl, ?_⟩))
  go_ret
  exact ⟨_, by first | rfl | (simp [errW_none, errW_some] <;> rfl) | (simp [*, errW_none, errW_some] <;> rfl), by (repeat apply rX); exact HO326.out, beY HB.out⟩
 subst c5
 have H1 : ((impl_within.f a1 0 (wrap64 ((wrap64 (8 * (l0.length : Int))) - 1))).bind fun t328 => (if t328 = true then (if 0 ≤ (wrap64 (Int.tdiv a1 8)) then (if (wrap64 (Int.tdiv a1 8)) < (t324.length : Int) then (if 0 ≤ (IntKind.u64.wrap (Int.tmod a1 8)) then (some (t324.set ((wrap64 (Int.tdiv a1 8)) : Int).toNat (Go.bits .xor .i64 (rd t324 (wrap64 (Int.tdiv a1 8))) (shl .i64 1 (IntKind.u64.wrap (Int.tmod a1 8)))))) else (none)) else (none)) else (none)) else (some t324))) = some r := by rw [if_pos rfl] at H; exact H
 clear H
 have H := H1
 clear H1
 replace H := ob_ H
 obtain ⟨t328, A60, H⟩ := H
 have A6 := A_.mk A60
 clear A60
 by_cases c7 : t328 = true
 rotate_left
 ·replace c7 := Bool.eq_false_iff.mpr c7
  subst c7
  have H1 : (some t324) = some r := by rw [if_neg (show ¬ (false = true) by decide)] at H; exact H
  clear H
  have H := H1
  clear H1
  obtain rfl := Option.some.inj H
  go_enter Try.func52, Try.ntmps52
  go_wp2_with (first | ((with_reducible refine gc_ (f := 24) rfl ?_); refine gl_ (some 7) Try.func24 #[.slice A0 l0.length c0] ?_; (with_reducible refine (slices_Clone_int_int.calls _ _ l0 t324 _ ?side1 ?side2 A3.out).mono ?_); (case side1 => exact cY (HR0.out)); (case side2 => exact HC0.out); rintro e w19 ⟨v325, rfl, ho0, hb⟩; refine ⟨_, rfl, ?_⟩; have n0_ := A_.mk (Kd.R_lower ho0 (bz_ (beY HB.out))); have n1_ := A_.mk (bt_ (beY HB.out) hb); clear HB; have HO326 := n0_; have HB := n1_; clear n0_ n1_; (try clear hb); (try clear hb2); (try clear hk); (try clear hi); (try clear ho0)) | ((with_reducible refine gc_ (f := 47) rfl ?_); refine gl_ (some 9) Try.func47 #[.slice A0 l0.length c0] ?_; (with_reducible refine (impl_AreBytes.calls k _ _ l0 true _ ?side1 ?side2 A4.out).mono ?_); (case side1 => exact cY ((Kd.C_below HR0.out HB.out))); (case side2 => exact HC0.out); rintro e w' ⟨rfl, ⟨nd, rfl⟩⟩; refine ⟨_, rfl, ?_⟩) | (go_at_call 31; (with_reducible refine (impl_within.calls a1 0 (wrap64 ((wrap64 (8 * (l0.length : Int))) - 1)) false _ A6.out).mono ?_); rintro e w' ⟨rfl, ⟨nd, rfl⟩⟩))
  go_ret
  exact ⟨_, by first | rfl | (simp [errW_none, errW_some] <;> rfl) | (simp [*, errW_none, errW_some] <;> rfl), by (repeat apply rX); exact HO326.out, beY HB.out⟩
 subst c7
 have H1 : (if 0 ≤ (wrap64 (Int.tdiv a1 8)) then (if (wrap64 (Int.tdiv a1 8)) < (t324.length : Int) then (if 0 ≤ (IntKind.u64.wrap (Int.tmod a1 8)) then (some (t324.set ((wrap64 (Int.tdiv a1 8)) : Int).toNat (Go.bits .xor .i64 (rd t324 (wrap64 (Int.tdiv a1 8))) (shl .i64 1 (IntKind.u64.wrap (Int.tmod a1 8)))))) else (none)) else (none)) else (none)) = some r := by rw [if_pos rfl] at H; exact H
 clear H
 have H := H1
 clear H1
 obtain ⟨ji8, hji8⟩ : ∃ j_ : Int, (wrap64 (Int.tdiv a1 8)) = j_ := ⟨_, rfl⟩
 replace H : (if 0 ≤ (ji8) then (if (ji8) < (t324.length : Int) then (if 0 ≤ (IntKind.u64.wrap (Int.tmod a1 8)) then (some (t324.set ((ji8) : Int).toNat (Go.bits .xor .i64 (rd t324 (ji8)) (shl .i64 1 (IntKind.u64.wrap (Int.tmod a1 8)))))) else (none)) else (none)) else (none)) = some r := by first | (rw [hji8] at H; exact H) | (simp only [hji8] at H ⊢; exact H)
 (try rw [hji8] at A3)
 (try rw [hji8] at A4)
 (try rw [hji8] at A6)
 have hji8w : (IntKind.i64.wrap (Int.tdiv a1 8)) = ji8 := (i64_w _).trans hji8
 by_cases c9 : 0 ≤ (ji8)
 rotate_left
 ·rw [if_neg c9] at H
  exact absurd H (by simp)
 rw [if_pos c9] at H
 have c9b0 : decide (0 ≤ (ji8)) = true := decide_eq_true c9
 clear c9
 by_cases c10 : (ji8) < (t324.length : Int)
 rotate_left
 ·rw [if_neg c10] at H
  exact absurd H (by simp)
 rw [if_pos c10] at H
 have c10b0 : decide ((ji8) < (t324.length : Int)) = true := decide_eq_true c10
 clear c10
 obtain ⟨ji11, hji11⟩ : ∃ j_ : Int, (IntKind.u64.wrap (Int.tmod a1 8)) = j_ := ⟨_, rfl⟩
 replace H : (if 0 ≤ (ji11) then (some (t324.set ((ji8) : Int).toNat (Go.bits .xor .i64 (rd t324 (ji8)) (shl .i64 1 (ji11))))) else (none)) = some r := by first | (rw [hji11] at H; exact H) | (simp only [hji11] at H ⊢; exact H)
 (try rw [hji11] at A3)
 (try rw [hji11] at A4)
 (try rw [hji11] at A6)
 by_cases c12 : 0 ≤ (ji11)
 rotate_left
 ·rw [if_neg c12] at H
  exact absurd H (by simp)
 rw [if_pos c12] at H
 have c12b0 := eq_true c12
 have c12b1 : decide (0 ≤ (ji11)) = true := decide_eq_true c12
 clear c12
 obtain ⟨ji13, hji13⟩ : ∃ j_ : Int, (shl .i64 1 (ji11)) = j_ := ⟨_, rfl⟩
 replace H : (some (t324.set ((ji8) : Int).toNat (Go.bits .xor .i64 (rd t324 (ji8)) (ji13)))) = some r := by first | (rw [hji13] at H; exact H) | (simp only [hji13] at H ⊢; exact H)
 (try rw [hji13] at A3)
 (try rw [hji13] at A4)
 (try rw [hji13] at A6)
 have hji13_ : (IntKind.i64.wrap (1 * 2 ^ min (ji11).toNat 64)) = ji13 := hji13
 have hji13z : (ji11) ≤ 64 → (IntKind.i64.wrap (1 * 2 ^ (ji11).toNat)) = ji13 := shl_small hji13
 have hji13u : (IntKind.i64.wrap (2 ^ min (ji11).toNat 64)) = ji13 := by have h_ := hji13_; rw [Int.one_mul] at h_; exact h_
 have hji13v : (ji11) ≤ 64 → (IntKind.i64.wrap (2 ^ (ji11).toNat)) = ji13 := fun hle_ => by have h_ := hji13z hle_; rw [Int.one_mul] at h_; exact h_
 have hji13y : (wrap64 (1 * 2 ^ min (ji11).toNat 64)) = ji13 := (i64_w _).symm.trans hji13_
 have hji13x : (ji11) ≤ 64 → (wrap64 (1 * 2 ^ (ji11).toNat)) = ji13 := fun h_ => (i64_w _).symm.trans (hji13z h_)
 obtain ⟨y330, hy330⟩ : ∃ y_ : List Int, y_ = (t324.set ((ji8) : Int).toNat (Go.bits .xor .i64 (rd t324 (ji8)) (ji13))) := ⟨_, rfl⟩
 replace H : (some y330) = some r := by first | (rw [hy330]; with_reducible exact H) | (have H2_ := (Option.bind_some _ _).symm.trans H; rw [hy330]; with_reducible exact H2_) | (have H2_ := (Option.bind_some _ _).symm.trans H; with_reducible exact H2_) | with_reducible exact H | (rw [hy330]; exact H) | exact H
 have Ny330 := A_.mk hy330
 clear hy330
 obtain rfl := Option.some.inj H
 go_enter Try.func52, Try.ntmps52
 go_wp2_with (first | ((with_reducible refine gc_ (f := 24) rfl ?_); refine gl_ (some 7) Try.func24 #[.slice A0 l0.length c0] ?_; (with_reducible refine (slices_Clone_int_int.calls _ _ l0 t324 _ ?side1 ?side2 A3.out).mono ?_); (case side1 => exact cY (HR0.out)); (case side2 => exact HC0.out); rintro e w15 ⟨v325, rfl, ho0, hb⟩; refine ⟨_, rfl, ?_⟩; have n0_ := A_.mk (Kd.R_lower ho0 (bz_ (beY HB.out))); have n1_ := A_.mk (bt_ (beY HB.out) hb); clear HB; have HO326 := n0_; have HB := n1_; clear n0_ n1_; (try clear hb); (try clear hb2); (try clear hk); (try clear hi); (try clear ho0)) | ((with_reducible refine gc_ (f := 47) rfl ?_); refine gl_ (some 9) Try.func47 #[.slice A0 l0.length c0] ?_; (with_reducible refine (impl_AreBytes.calls k _ _ l0 true _ ?side1 ?side2 A4.out).mono ?_); (case side1 => exact cY ((Kd.C_below HR0.out HB.out))); (case side2 => exact HC0.out); rintro e w' ⟨rfl, ⟨nd, rfl⟩⟩; refine ⟨_, rfl, ?_⟩; (try (rw [drewN_self w15]; generalize hq_ : World.drewN w15 _ = w15; have n0_ : A_ (Kd.R (Kd.int .i64) 3 w15 w.heap.size (fun _ => True) v325 t324) := ⟨by rw [← hq_]; exact (rY HO326.out)⟩; have n1_ : A_ (Below w.heap.size w w15) := ⟨by rw [← hq_]; exact (beY HB.out)⟩; clear HO326 HB hq_; have HO326 := n0_; have HB := n1_; clear n0_ n1_))) | (go_at_call 31; (with_reducible refine (impl_within.calls a1 0 (wrap64 ((wrap64 (8 * (l0.length : Int))) - 1)) true _ A6.out).mono ?_); rintro e w' ⟨rfl, ⟨nd, rfl⟩⟩; (try (rw [drewN_self w15]; generalize hq_ : World.drewN w15 _ = w15; have n0_ : A_ (Kd.R (Kd.int .i64) 3 w15 w.heap.size (fun _ => True) v325 t324) := ⟨by rw [← hq_]; exact (rY HO326.out)⟩; have n1_ : A_ (Below w.heap.size w w15) := ⟨by rw [← hq_]; exact (beY HB.out)⟩; clear HO326 HB hq_; have HO326 := n0_; have HB := n1_; clear n0_ n1_)); obtain ⟨Ao16, co16, eo16⟩ := Kd.R_slice HO326.out; subst eo16; have p329 : 0 ≤ ((ji8) : Int) := od_; have q329 : (ji8) < (t324.length : Int) := od_; obtain ⟨ad329, e329, hx329_0⟩ := Kd.at_int (Kd.R_reads' HO326.out).2.2 (ji8) p329 q329; cases e329; replace p329 := eq_true p329; replace q329 := eq_true q329; have p14 : 0 ≤ ((ji8) : Int) := od_; have q14 : ((ji8) : Int) < ((t324.length : Int) : Int) := od_; obtain ⟨go14, co14, eo14, gb14, gl14, cl14, HG14⟩ := Kd.R_form HO326.out (by omega); (first | cases eo14 | (injection eo14 with ea_ en_ ec_; (first | subst ea_ | (injection ea_ with ea_; subst ea_)); subst ec_; clear en_)); have GB14 := A_.mk gb14; have GG14 := A_.mk HG14; clear gb14 gl14 HG14; (first | simp only [add_plain] at hx329_0 | skip); obtain ⟨hx14_0, hf14_0⟩ := Kd.R_celln 0 HO326.out ((ji8) : Int) p14 q14; replace p14 := eq_true p14; replace q14 := eq_true q14; obtain ⟨hy17_, hz17_⟩ := Kd.R_celln 0 HO326.out ((ji8) : Int) (od_) (od_); have HP17 := Kd.R_putg HO326.out ((ji8) : Int) (Go.bits .xor .i64 (rd t324 (ji8)) (ji13))) | ((with_reducible refine gate_store (t := 3) (p := 28) rfl ?_); refine se_ (t := 3) (p := 28) (v := ?vo_w18) (w1 := (w15.setCell ⟨go14, ((ji8) : Int).toNat, none⟩ (.int .i64 (Go.bits .xor .i64 (rd t324 (ji8)) (ji13))))) ?hg ?ho ?hn ?hr ?_; (case ho => rfl); (case hg => rfl); (case hn => rfl); (case hr => first | (go_simp; done) | (go_simp; rfl)); intro w18 hw; have hg : w15.grownBy w18 (some go14) := (by rw [hw]; exact HP17.2); have hp_ : Kd.R (Kd.int .i64) 3 w18 w.heap.size (fun _ => True) (.slice (some ⟨go14, 0, none⟩) t324.length co16) y330 := (by rw [hw, Ny330.out]; exact HP17.1); clear HP17; have n0_ := A_.mk (hp_); have n1_ := A_.mk ((by rw [hw]; exact bs_ (HB.out) GB14.out : Below w.heap.size w w18)); clear HO326 HB; have HO326 := n0_; have HB := n1_; clear n0_ n1_ hg hw hp_))
 go_ret
 exact ⟨_, by first | rfl | (simp [errW_none, errW_some] <;> rfl) | (simp only [← hji8, ← hji11, ← hji13]; first | rfl | (simp [errW_none, errW_some] <;> rfl)) | (simp [*, errW_none, errW_some] <;> rfl), by (repeat apply rX); exact HO326.out, beY HB.out⟩
/-! ### impl_Link_damage: function 35, its calls in a row -/
def impl_Link_damage.f (k : Nat) (a0_0 : Int) (l0_1 : List (S68)) (a0_2 : Int) (a0_3 : Int) (l0_4 : List (List Int)) (l0_5 : List (List Int)) (l0_6 : List Int) (a1 : Int) : Option ((Bool) × (Int) × (List (S68)) × (Int) × (Int) × (List (List Int)) × (List (List Int)) × (List Int)) := (if a1 < 0 then (some (false, a0_0, l0_1, a0_2, a0_3, l0_4, l0_5, l0_6)) else (if (l0_5.length : Int) ≤ (Int.tmod a1 8) then (some (false, a0_0, l0_1, a0_2, a0_3, l0_4, l0_5, l0_6)) else (if 0 ≤ (Int.tmod a1 8) then (if (Int.tmod a1 8) < (l0_5.length : Int) then (if (wrap64 (8 * ((rdl_ l0_5 (Int.tmod a1 8)).length : Int))) ≤ (wrap64 (Int.tdiv a1 8)) then (some (false, a0_0, l0_1, a0_2, a0_3, l0_4, l0_5, l0_6)) else ((impl_FlipBit.f k (rdl_ l0_5 (Int.tmod a1 8)) (wrap64 (Int.tdiv a1 8))).bind fun t1 => (some (true, a0_0, l0_1, a0_2, a0_3, l0_4, (l0_5.set ((Int.tmod a1 8)).toNat t1), l0_6)))) else none) else none)))
set_option maxHeartbeats 8000000 in
set_option maxRecDepth 100000 in
theorem impl_Link_damage.calls (k : Nat) (gb_ : Nat) (f0_ : Nat → Nat) (a0_0 : Int) (A0_1 : Option Addr) (c0_1 : Nat) (l0_1 : List (S68)) (a0_2 : Int) (a0_3 : Int) (A0_4 : Option Addr) (c0_4 : Nat) (l0_4 : List (List Int)) (A0_5 : Option Addr) (c0_5 : Nat) (l0_5 : List (List Int)) (A0_6 : Option Addr) (c0_6 : Nat) (l0_6 : List Int) (a1 : Int) (r1 : Bool) (r2 : Int) (r3 : List (S68)) (r4 : Int) (r5 : Int) (r6 : List (List Int)) (r7 : List (List Int)) (r8 : List Int) (w w1 : World) (hB : Below w.heap.size w w1) (hg : w.heap.size ≤ gb_) (hbx : w1.heap[gb_]? = some (.cells #[.int .i64 a0_0, .slice A0_1 l0_1.length c0_1, .int .i64 a0_2, .int .i64 a0_3, .slice A0_4 l0_4.length c0_4, .slice A0_5 l0_5.length c0_5, .slice A0_6 l0_6.length c0_6] 34 (0, 0))) (hp0_1 : Kd.S k68 68 w1 w.heap.size (fun k_ => (w.heap.size ≤ k_ ∧ k_ < w1.heap.size) ∧ k_ ≠ gb_ ∧ f0_ k_ = 0) (.slice A0_1 l0_1.length c0_1) l0_1) (hp0_4 : Kd.S (Kd.slice 3 (Kd.int .i64)) 32 w1 w.heap.size (fun k_ => (w.heap.size ≤ k_ ∧ k_ < w1.heap.size) ∧ k_ ≠ gb_ ∧ f0_ k_ = 1) (.slice A0_4 l0_4.length c0_4) l0_4) (hp0_5 : Kd.S (Kd.slice 3 (Kd.int .i64)) 32 w1 w.heap.size (fun k_ => (w.heap.size ≤ k_ ∧ k_ < w1.heap.size) ∧ k_ ≠ gb_ ∧ f0_ k_ = 2) (.slice A0_5 l0_5.length c0_5) l0_5) (hp0_6 : Kd.R (Kd.int .i64) 3 w1 w.heap.size (fun k_ => (w.heap.size ≤ k_ ∧ k_ < w1.heap.size) ∧ k_ ≠ gb_ ∧ f0_ k_ = 3) (.slice A0_6 l0_6.length c0_6) l0_6) (h : impl_Link_damage.f k a0_0 l0_1 a0_2 a0_3 l0_4 l0_5 l0_6 a1 = some (r1, r2, r3, r4, r5, r6, r7, r8)) :
  Calls Try.prog 35 #[.pointer (some ⟨gb_, 0, none⟩), .int .i64 a1] w1 fun e w' => ∃ f_ : Nat → Nat, ∃ v0_ v1_ v2_ v3_ : Value, e = .returned (.bool r1) ∧ w'.heap[gb_]? = some (.cells #[.int .i64 r2, v0_, .int .i64 r4, .int .i64 r5, v1_, v2_, v3_] 34 (0, 0)) ∧ Kd.S k68 68 w' w.heap.size (fun k_ => (w.heap.size ≤ k_ ∧ k_ < w'.heap.size) ∧ k_ ≠ gb_ ∧ f_ k_ = 0) v0_ r3 ∧ Kd.S (Kd.slice 3 (Kd.int .i64)) 32 w' w.heap.size (fun k_ => (w.heap.size ≤ k_ ∧ k_ < w'.heap.size) ∧ k_ ≠ gb_ ∧ f_ k_ = 1) v1_ r6 ∧ Kd.S (Kd.slice 3 (Kd.int .i64)) 32 w' w.heap.size (fun k_ => (w.heap.size ≤ k_ ∧ k_ < w'.heap.size) ∧ k_ ≠ gb_ ∧ f_ k_ = 2) v2_ r7 ∧ Kd.R (Kd.int .i64) 3 w' w.heap.size (fun k_ => (w.heap.size ≤ k_ ∧ k_ < w'.heap.size) ∧ k_ ≠ gb_ ∧ f_ k_ = 3) v3_ r8 ∧ (∀ k_, k_ < w1.heap.size → f_ k_ < 4 → k_ = gb_ ∨ f0_ k_ < 4) ∧ Below w.heap.size w w' ∧ Kept w1 w' (fun k_ => k_ = gb_ ∨ ((w.heap.size ≤ k_ ∧ k_ < w1.heap.size) ∧ k_ ≠ gb_ ∧ f0_ k_ < 4)) := by
 obtain ⟨gb1_, rfl⟩ : ∃ q_, q_ = gb_ := ⟨_, rfl⟩
 have HO0_1 := A_.mk hp0_1
 clear hp0_1
 have HO0_4 := A_.mk hp0_4
 clear hp0_4
 have HO0_5 := A_.mk hp0_5
 clear hp0_5
 have HO0_6 := A_.mk hp0_6
 clear hp0_6
 have BK1 := A_.mk hbx
 have HS := A_.mk (And.intro hB.size (And.intro hg (blk_lt hbx)))
 have HK := A_.mk (Kept.refl w1 (fun k_ => k_ = gb1_ ∨ ((w.heap.size ≤ k_ ∧ k_ < w1.heap.size) ∧ k_ ≠ gb1_ ∧ f0_ k_ < 4)))
 clear hbx hg
 have HB := A_.mk hB
 clear hB
 unfold impl_Link_damage.f at h
 have H := h
 clear h
 by_cases hc1_ : a1 < 0
 case pos =>
  rw [if_pos hc1_] at H
  have hc1_b0 : decide (a1 < 0) = true := decide_eq_true hc1_
  replace hc1_ := A_.mk hc1_
  simp only [Option.some.injEq, Prod.mk.injEq] at H
  obtain ⟨rfl, rfl, rfl, rfl, rfl, rfl, rfl, rfl⟩ := H
  have hu34 := Try.underlying34
  go_enter Try.func35, Try.ntmps35
  have Q1 := blk7_ BK1.out
  go_wp2
  go_ret
  obtain ⟨f_, hf_⟩ : ∃ f_ : Nat → Nat, ∀ k_, f_ k_ = (if ((w.heap.size ≤ k_ ∧ k_ < w1.heap.size) ∧ k_ ≠ gb1_ ∧ f0_ k_ = 0) then 0 else (if ((w.heap.size ≤ k_ ∧ k_ < w1.heap.size) ∧ k_ ≠ gb1_ ∧ f0_ k_ = 1) then 1 else (if ((w.heap.size ≤ k_ ∧ k_ < w1.heap.size) ∧ k_ ≠ gb1_ ∧ f0_ k_ = 2) then 2 else (if ((w.heap.size ≤ k_ ∧ k_ < w1.heap.size) ∧ k_ ≠ gb1_ ∧ f0_ k_ = 3) then 3 else 4)))) := ⟨fun k_ => (if ((w.heap.size ≤ k_ ∧ k_ < w1.heap.size) ∧ k_ ≠ gb1_ ∧ f0_ k_ = 0) then 0 else (if ((w.heap.size ≤ k_ ∧ k_ < w1.heap.size) ∧ k_ ≠ gb1_ ∧ f0_ k_ = 1) then 1 else (if ((w.heap.size ≤ k_ ∧ k_ < w1.heap.size) ∧ k_ ≠ gb1_ ∧ f0_ k_ = 2) then 2 else (if ((w.heap.size ≤ k_ ∧ k_ < w1.heap.size) ∧ k_ ≠ gb1_ ∧ f0_ k_ = 3) then 3 else 4)))), fun _ => rfl⟩
  have hcol0_ : ∀ k_, (((w.heap.size ≤ k_ ∧ k_ < w1.heap.size) ∧ k_ ≠ gb1_ ∧ f0_ k_ = 0)) → ((w.heap.size ≤ k_ ∧ k_ < w1.heap.size) ∧ k_ ≠ gb1_ ∧ f_ k_ = 0) := fun k_ hk_ => ⟨by have := HS.out; omega, by have := HS.out; omega, by rw [hf_]; have := HS.out; repeat' (first | omega | split)⟩
  have hcol1_ : ∀ k_, (((w.heap.size ≤ k_ ∧ k_ < w1.heap.size) ∧ k_ ≠ gb1_ ∧ f0_ k_ = 1)) → ((w.heap.size ≤ k_ ∧ k_ < w1.heap.size) ∧ k_ ≠ gb1_ ∧ f_ k_ = 1) := fun k_ hk_ => ⟨by have := HS.out; omega, by have := HS.out; omega, by rw [hf_]; have := HS.out; repeat' (first | omega | split)⟩
  have hcol2_ : ∀ k_, (((w.heap.size ≤ k_ ∧ k_ < w1.heap.size) ∧ k_ ≠ gb1_ ∧ f0_ k_ = 2)) → ((w.heap.size ≤ k_ ∧ k_ < w1.heap.size) ∧ k_ ≠ gb1_ ∧ f_ k_ = 2) := fun k_ hk_ => ⟨by have := HS.out; omega, by have := HS.out; omega, by rw [hf_]; have := HS.out; repeat' (first | omega | split)⟩
  have hcol3_ : ∀ k_, (((w.heap.size ≤ k_ ∧ k_ < w1.heap.size) ∧ k_ ≠ gb1_ ∧ f0_ k_ = 3)) → ((w.heap.size ≤ k_ ∧ k_ < w1.heap.size) ∧ k_ ≠ gb1_ ∧ f_ k_ = 3) := fun k_ hk_ => ⟨by have := HS.out; omega, by have := HS.out; omega, by rw [hf_]; have := HS.out; repeat' (first | omega | split)⟩
  have hfk_ : ∀ k_, k_ < w1.heap.size → f_ k_ < 4 → k_ = gb1_ ∨ f0_ k_ < 4 := fun k_ h1_ h2_ => by have := HS.out; rw [hf_] at h2_; repeat' (first | omega | split at h2_)
  first | exact ⟨f_, _, _, _, _, rfl, BK1.out, Kd.S_mono HO0_1.out hcol0_, Kd.S_mono HO0_4.out hcol1_, Kd.S_mono HO0_5.out hcol2_, Kd.R_mono HO0_6.out hcol3_, hfk_, HB.out, HK.out⟩ | exact ⟨rfl, f_, _, _, _, _, BK1.out, Kd.S_mono HO0_1.out hcol0_, Kd.S_mono HO0_4.out hcol1_, Kd.S_mono HO0_5.out hcol2_, Kd.R_mono HO0_6.out hcol3_, hfk_, HB.out, HK.out⟩
 rw [if_neg hc1_] at H
 have hc1_b0 : decide (a1 < 0) = false := decide_eq_false hc1_
 replace hc1_ := A_.mk hc1_
 by_cases hc2_ : (l0_5.length : Int) ≤ (Int.tmod a1 8)
 case pos =>
  rw [if_pos hc2_] at H
  have hc2_b0 : decide ((l0_5.length : Int) ≤ (Int.tmod a1 8)) = true := decide_eq_true hc2_
  have hc2_b1 : decide (l0_5.length ≤ (Int.tmod a1 8)) = true := decide_eq_true (by omega)
  simp only [Option.some.injEq, Prod.mk.injEq] at H
  obtain ⟨rfl, rfl, rfl, rfl, rfl, rfl, rfl, rfl⟩ := H
  have hu34 := Try.underlying34
  go_enter Try.func35, Try.ntmps35
  have Q1 := blk7_ BK1.out
  go_wp2
  go_ret
  obtain ⟨f_, hf_⟩ : ∃ f_ : Nat → Nat, ∀ k_, f_ k_ = (if ((w.heap.size ≤ k_ ∧ k_ < w1.heap.size) ∧ k_ ≠ gb1_ ∧ f0_ k_ = 0) then 0 else (if ((w.heap.size ≤ k_ ∧ k_ < w1.heap.size) ∧ k_ ≠ gb1_ ∧ f0_ k_ = 1) then 1 else (if ((w.heap.size ≤ k_ ∧ k_ < w1.heap.size) ∧ k_ ≠ gb1_ ∧ f0_ k_ = 2) then 2 else (if ((w.heap.size ≤ k_ ∧ k_ < w1.heap.size) ∧ k_ ≠ gb1_ ∧ f0_ k_ = 3) then 3 else 4)))) := ⟨fun k_ => (if ((w.heap.size ≤ k_ ∧ k_ < w1.heap.size) ∧ k_ ≠ gb1_ ∧ f0_ k_ = 0) then 0 else (if ((w.heap.size ≤ k_ ∧ k_ < w1.heap.size) ∧ k_ ≠ gb1_ ∧ f0_ k_ = 1) then 1 else (if ((w.heap.size ≤ k_ ∧ k_ < w1.heap.size) ∧ k_ ≠ gb1_ ∧ f0_ k_ = 2) then 2 else (if ((w.heap.size ≤ k_ ∧ k_ < w1.heap.size) ∧ k_ ≠ gb1_ ∧ f0_ k_ = 3) then 3 else 4)))), fun _ => rfl⟩
  have hcol0_ : ∀ k_, (((w.heap.size ≤ k_ ∧ k_ < w1.heap.size) ∧ k_ ≠ gb1_ ∧ f0_ k_ = 0)) → ((w.heap.size ≤ k_ ∧ k_ < w1.heap.size) ∧ k_ ≠ gb1_ ∧ f_ k_ = 0) := fun k_ hk_ => ⟨by have := HS.out; omega, by have := HS.out; omega, by rw [hf_]; have := HS.out; repeat' (first | omega | split)⟩
  have hcol1_ : ∀ k_, (((w.heap.size ≤ k_ ∧ k_ < w1.heap.size) ∧ k_ ≠ gb1_ ∧ f0_ k_ = 1)) → ((w.heap.size ≤ k_ ∧ k_ < w1.heap.size) ∧ k_ ≠ gb1_ ∧ f_ k_ = 1) := fun k_ hk_ => ⟨by have := HS.out; omega, by have := HS.out; omega, by rw [hf_]; have := HS.out; repeat' (first | omega | split)⟩
  have hcol2_ : ∀ k_, (((w.heap.size ≤ k_ ∧ k_ < w1.heap.size) ∧ k_ ≠ gb1_ ∧ f0_ k_ = 2)) → ((w.heap.size ≤ k_ ∧ k_ < w1.heap.size) ∧ k_ ≠ gb1_ ∧ f_ k_ = 2) := fun k_ hk_ => ⟨by have := HS.out; omega, by have := HS.out; omega, by rw [hf_]; have := HS.out; repeat' (first | omega | split)⟩
  have hcol3_ : ∀ k_, (((w.heap.size ≤ k_ ∧ k_ < w1.heap.size) ∧ k_ ≠ gb1_ ∧ f0_ k_ = 3)) → ((w.heap.size ≤ k_ ∧ k_ < w1.heap.size) ∧ k_ ≠ gb1_ ∧ f_ k_ = 3) := fun k_ hk_ => ⟨by have := HS.out; omega, by have := HS.out; omega, by rw [hf_]; have := HS.out; repeat' (first | omega | split)⟩
  have hfk_ : ∀ k_, k_ < w1.heap.size → f_ k_ < 4 → k_ = gb1_ ∨ f0_ k_ < 4 := fun k_ h1_ h2_ => by have := HS.out; rw [hf_] at h2_; repeat' (first | omega | split at h2_)
  first | exact ⟨f_, _, _, _, _, rfl, BK1.out, Kd.S_mono HO0_1.out hcol0_, Kd.S_mono HO0_4.out hcol1_, Kd.S_mono HO0_5.out hcol2_, Kd.R_mono HO0_6.out hcol3_, hfk_, HB.out, HK.out⟩ | exact ⟨rfl, f_, _, _, _, _, BK1.out, Kd.S_mono HO0_1.out hcol0_, Kd.S_mono HO0_4.out hcol1_, Kd.S_mono HO0_5.out hcol2_, Kd.R_mono HO0_6.out hcol3_, hfk_, HB.out, HK.out⟩
 rw [if_neg hc2_] at H
 have hc2_b0 : decide ((l0_5.length : Int) ≤ (Int.tmod a1 8)) = false := decide_eq_false hc2_
 have hc2_b1 : decide (l0_5.length ≤ (Int.tmod a1 8)) = false := decide_eq_false (by omega)
 by_cases hp2_ : 0 ≤ (Int.tmod a1 8)
 case neg => rw [if_neg hp2_] at H; cases H
 rw [if_pos hp2_] at H
 by_cases hq2_ : (Int.tmod a1 8) < (l0_5.length : Int)
 case neg => rw [if_neg hq2_] at H; cases H
 rw [if_pos hq2_] at H
 have EB2 := A_.mk (And.intro hp2_ hq2_)
 replace hp2_ := eq_true hp2_
 replace hq2_ := eq_true hq2_
 by_cases hc3_ : (wrap64 (8 * ((rdl_ l0_5 (Int.tmod a1 8)).length : Int))) ≤ (wrap64 (Int.tdiv a1 8))
 case pos =>
  rw [if_pos hc3_] at H
  have hc3_b0 : decide ((wrap64 (8 * ((rdl_ l0_5 (Int.tmod a1 8)).length : Int))) ≤ (wrap64 (Int.tdiv a1 8))) = true := decide_eq_true hc3_
  simp only [Option.some.injEq, Prod.mk.injEq] at H
  obtain ⟨rfl, rfl, rfl, rfl, rfl, rfl, rfl, rfl⟩ := H
  have hu34 := Try.underlying34
  go_enter Try.func35, Try.ntmps35
  have Q1 := blk7_ BK1.out
  obtain ⟨gHO0_5_, ed_⟩ := S_at0 HO0_5.out (by have := EB2.out; omega)
  subst ed_
  obtain ⟨A2_0, c2_0, hx_, hl_, hi_⟩ := srow_ HO0_5.out EB2.out
  have HX2 := A_.mk hx_
  have HD2 := A_.mk hl_
  have HE2 := A_.mk hi_
  clear hx_ hl_ hi_ Q1
  have Q1 := blk7_ BK1.out
  have QE2 := HX2.out
  go_wp2
  go_ret
  obtain ⟨f_, hf_⟩ : ∃ f_ : Nat → Nat, ∀ k_, f_ k_ = (if ((w.heap.size ≤ k_ ∧ k_ < w1.heap.size) ∧ k_ ≠ gb1_ ∧ f0_ k_ = 0) then 0 else (if ((w.heap.size ≤ k_ ∧ k_ < w1.heap.size) ∧ k_ ≠ gb1_ ∧ f0_ k_ = 1) then 1 else (if ((w.heap.size ≤ k_ ∧ k_ < w1.heap.size) ∧ k_ ≠ gb1_ ∧ f0_ k_ = 2) then 2 else (if ((w.heap.size ≤ k_ ∧ k_ < w1.heap.size) ∧ k_ ≠ gb1_ ∧ f0_ k_ = 3) then 3 else 4)))) := ⟨fun k_ => (if ((w.heap.size ≤ k_ ∧ k_ < w1.heap.size) ∧ k_ ≠ gb1_ ∧ f0_ k_ = 0) then 0 else (if ((w.heap.size ≤ k_ ∧ k_ < w1.heap.size) ∧ k_ ≠ gb1_ ∧ f0_ k_ = 1) then 1 else (if ((w.heap.size ≤ k_ ∧ k_ < w1.heap.size) ∧ k_ ≠ gb1_ ∧ f0_ k_ = 2) then 2 else (if ((w.heap.size ≤ k_ ∧ k_ < w1.heap.size) ∧ k_ ≠ gb1_ ∧ f0_ k_ = 3) then 3 else 4)))), fun _ => rfl⟩
  have hcol0_ : ∀ k_, (((w.heap.size ≤ k_ ∧ k_ < w1.heap.size) ∧ k_ ≠ gb1_ ∧ f0_ k_ = 0)) → ((w.heap.size ≤ k_ ∧ k_ < w1.heap.size) ∧ k_ ≠ gb1_ ∧ f_ k_ = 0) := fun k_ hk_ => ⟨by have := HS.out; omega, by have := HS.out; omega, by rw [hf_]; have := HS.out; repeat' (first | omega | split)⟩
  have hcol1_ : ∀ k_, (((w.heap.size ≤ k_ ∧ k_ < w1.heap.size) ∧ k_ ≠ gb1_ ∧ f0_ k_ = 1)) → ((w.heap.size ≤ k_ ∧ k_ < w1.heap.size) ∧ k_ ≠ gb1_ ∧ f_ k_ = 1) := fun k_ hk_ => ⟨by have := HS.out; omega, by have := HS.out; omega, by rw [hf_]; have := HS.out; repeat' (first | omega | split)⟩
  have hcol2_ : ∀ k_, (((w.heap.size ≤ k_ ∧ k_ < w1.heap.size) ∧ k_ ≠ gb1_ ∧ f0_ k_ = 2)) → ((w.heap.size ≤ k_ ∧ k_ < w1.heap.size) ∧ k_ ≠ gb1_ ∧ f_ k_ = 2) := fun k_ hk_ => ⟨by have := HS.out; omega, by have := HS.out; omega, by rw [hf_]; have := HS.out; repeat' (first | omega | split)⟩
  have hcol3_ : ∀ k_, (((w.heap.size ≤ k_ ∧ k_ < w1.heap.size) ∧ k_ ≠ gb1_ ∧ f0_ k_ = 3)) → ((w.heap.size ≤ k_ ∧ k_ < w1.heap.size) ∧ k_ ≠ gb1_ ∧ f_ k_ = 3) := fun k_ hk_ => ⟨by have := HS.out; omega, by have := HS.out; omega, by rw [hf_]; have := HS.out; repeat' (first | omega | split)⟩
  have hfk_ : ∀ k_, k_ < w1.heap.size → f_ k_ < 4 → k_ = gb1_ ∨ f0_ k_ < 4 := fun k_ h1_ h2_ => by have := HS.out; rw [hf_] at h2_; repeat' (first | omega | split at h2_)
  first | exact ⟨f_, _, _, _, _, rfl, BK1.out, Kd.S_mono HO0_1.out hcol0_, Kd.S_mono HO0_4.out hcol1_, Kd.S_mono HO0_5.out hcol2_, Kd.R_mono HO0_6.out hcol3_, hfk_, HB.out, HK.out⟩ | exact ⟨rfl, f_, _, _, _, _, BK1.out, Kd.S_mono HO0_1.out hcol0_, Kd.S_mono HO0_4.out hcol1_, Kd.S_mono HO0_5.out hcol2_, Kd.R_mono HO0_6.out hcol3_, hfk_, HB.out, HK.out⟩
 rw [if_neg hc3_] at H
 have hc3_b0 : decide ((wrap64 (8 * ((rdl_ l0_5 (Int.tmod a1 8)).length : Int))) ≤ (wrap64 (Int.tdiv a1 8))) = false := decide_eq_false hc3_
 replace H := oa_ H
 obtain ⟨t1, A3, H⟩ := H
 obtain ⟨y2, Ny2⟩ : ∃ q_, q_ = (l0_5.set ((Int.tmod a1 8)).toNat t1) := ⟨_, rfl⟩
 rw [← Ny2] at H
 replace Ny2 := A_.mk Ny2
 simp only [Option.some.injEq, Prod.mk.injEq] at H
 obtain ⟨rfl, rfl, rfl, rfl, rfl, rfl, rfl, rfl⟩ := H
 have hu34 := Try.underlying34
 go_enter Try.func35, Try.ntmps35
 have Q1 := blk7_ BK1.out
 obtain ⟨gHO0_5_, ed_⟩ := S_at0 HO0_5.out (by have := EB2.out; omega)
 subst ed_
 obtain ⟨A2_0, c2_0, hx_, hl_, hi_⟩ := srow_ HO0_5.out EB2.out
 have HX2 := A_.mk hx_
 have HD2 := A_.mk hl_
 have HE2 := A_.mk hi_
 clear hx_ hl_ hi_ Q1
 have Q1 := blk7_ BK1.out
 have QE2 := HX2.out
 go_wp2_with (fail)
 refine start_ (n := 19) (S := fun w' => (w'.cell? ⟨gb1_, 0, none⟩ = some (.int .i64 a0_0) ∧ w'.cell? ⟨gb1_, 1, none⟩ = some (.slice A0_1 l0_1.length c0_1) ∧ w'.cell? ⟨gb1_, 2, none⟩ = some (.int .i64 a0_2) ∧ w'.cell? ⟨gb1_, 3, none⟩ = some (.int .i64 a0_3) ∧ w'.cell? ⟨gb1_, 4, none⟩ = some (.slice A0_4 l0_4.length c0_4) ∧ w'.cell? ⟨gb1_, 5, none⟩ = some (.slice (some ⟨gHO0_5_, 0, none⟩) l0_5.length c0_5) ∧ w'.cell? ⟨gb1_, 6, none⟩ = some (.slice A0_6 l0_6.length c0_6)) ∧ (w'.cell? ⟨gHO0_5_, ((Int.tmod a1 8)).toNat, none⟩ = some (.slice A2_0 (rdl_ l0_5 (Int.tmod a1 8)).length c2_0))) (ds := [18]) #[F, F, F, F, F, F, F, F, F, F, F, F, F, F, F, F, F, F, F] (by kernel_rfl) rfl rfl ⟨blk7_ BK1.out, HX2.out⟩ (fun hHeld => ?_)
 clear Q1 QE2
 have hb := below_drew (Below.refl w1.heap.size w1)
 replace HS := aHs HS hb.size
 replace HO0_1 := aSb HO0_1 hb
 replace HO0_4 := aSb HO0_4 hb
 replace HO0_5 := aSb HO0_5 hb
 replace HO0_6 := aRb HO0_6 hb
 replace BK1 := aBb BK1 hb
 replace HE2 := A_.mk (Kd.C_below HE2.out hb)
 replace HX2 := A_.mk ((hb.cell (wl_ _ _ HX2.out)).trans HX2.out)
 replace HK := A_.mk (HK.out.below hb)
 replace HB := aHB HB hb
 clear hb
 generalize w1.drew = w5d_ at HO0_1 HO0_4 HO0_5 HO0_6 HE2 HX2 HK BK1 HB HS hHeld ⊢
 refine pd_ (i := 0) (N := some 32) #[T, F, F, F, F, F, F, F, F, F, F, F, F, F, F, F, F, F, F] rfl ?_
 refine pd_ (i := 1) (N := some 33) #[T, T, F, F, F, F, F, F, F, F, F, F, F, F, F, F, F, F, F] rfl ?_
 refine pd_ (i := 2) (N := some 34) #[T, T, T, F, F, F, F, F, F, F, F, F, F, F, F, F, F, F, F] rfl ?_
 refine tl_ (i := 3) (N := some 35) #[T, T, T, T, F, F, F, F, F, F, F, F, F, F, F, F, F, F, F] rfl hHeld ?_
 refine pd_ (i := 4) (N := some 36) #[T, T, T, T, T, F, F, F, F, F, F, F, F, F, F, F, F, F, F] rfl ?_
 refine pd_ (i := 5) (N := some 37) #[T, T, T, T, T, T, F, F, F, F, F, F, F, F, F, F, F, F, F] rfl ?_
 refine pd_ (i := 6) (N := some 38) #[T, T, T, T, T, T, T, F, F, F, F, F, F, F, F, F, F, F, F] rfl ?_
 refine pd_ (i := 7) (N := some 39) #[T, T, T, T, T, T, T, T, F, F, F, F, F, F, F, F, F, F, F] rfl ?_
 refine pd_ (i := 8) (N := some 40) #[T, T, T, T, T, T, T, T, T, F, F, F, F, F, F, F, F, F, F] rfl ?_
 refine tl_ (i := 9) (N := some 41) #[T, T, T, T, T, T, T, T, T, T, F, F, F, F, F, F, F, F, F] rfl hHeld ?_
 refine pd_ (i := 10) (N := some 42) #[T, T, T, T, T, T, T, T, T, T, T, F, F, F, F, F, F, F, F] rfl ?_
 refine pd_ (i := 11) (N := some 43) #[T, T, T, T, T, T, T, T, T, T, T, T, F, F, F, F, F, F, F] rfl ?_
 refine pd_ (i := 12) (N := some 44) #[T, T, T, T, T, T, T, T, T, T, T, T, T, F, F, F, F, F, F] rfl ?_
 refine tl_ (i := 13) (N := some 45) #[T, T, T, T, T, T, T, T, T, T, T, T, T, T, F, F, F, F, F] rfl hHeld ?_
 refine pd_ (i := 14) (N := some 46) #[T, T, T, T, T, T, T, T, T, T, T, T, T, T, T, F, F, F, F] rfl ?_
 refine pd_ (i := 15) (N := some 47) #[T, T, T, T, T, T, T, T, T, T, T, T, T, T, T, T, F, F, F] rfl ?_
 refine on_ (i := 16) (N := some 48) #[T, T, T, T, T, T, T, T, T, T, T, T, T, T, T, T, T, F, F] rfl (fun K hK => ?_)
 refine gz_ Try.func52 #[.slice A2_0 (rdl_ l0_5 (Int.tmod a1 8)).length c2_0, .int .i64 (wrap64 (Int.tdiv a1 8))] ?_
 with_reducible refine (impl_FlipBit.calls k _ _ (rdl_ l0_5 (Int.tmod a1 8)) (wrap64 (Int.tdiv a1 8)) t1 _ HE2.out HD2.out A3.out).mono ?_
 rintro e w3_ ⟨v0_, rfl, ho0_, hb⟩
 refine ⟨_, rfl, ?_⟩
 replace HS := aHs HS hb.size
 obtain ⟨Ao3_0, co3_0, ev_⟩ := Kd.R_slice ho0_
 subst ev_
 have HO3_0 := aRm ho0_ HB.out.size
 replace HO0_1 := aSb HO0_1 hb
 replace HO0_4 := aSb HO0_4 hb
 replace HO0_5 := aSb HO0_5 hb
 replace HO0_6 := aRb HO0_6 hb
 replace BK1 := aBb BK1 hb
 replace HE2 := A_.mk (Kd.C_below HE2.out hb)
 replace HX2 := A_.mk ((hb.cell (wl_ _ _ HX2.out)).trans HX2.out)
 replace HK := A_.mk (HK.out.below hb)
 replace HB := aHB HB hb
 clear hb ho0_
 refine hK.out _ _ ⟨blk7_ BK1.out, HX2.out⟩ (fun hHeld => ?_)
 clear hK K
 refine nm_ ?_
 refine pd_ (i := 17) (N := some 49) #[T, T, T, T, T, T, T, T, T, T, T, T, T, T, T, T, T, T, F] rfl ?_
 refine last_ (i := 18) (N := none) #[T, T, T, T, T, T, T, T, T, T, T, T, T, T, T, T, T, T, T] rfl rfl (by kernel_rfl) (by decide) (fun K hK => ?_)
 have Q1 := blk7_ BK1.out
 have QE2 := HX2.out
 have QF_ := sfr_ HO0_5.out EB2.out
 obtain ⟨w4_, hw⟩ : ∃ q_ : World, q_ = w3_.setCell ⟨gHO0_5_, ((Int.tmod a1 8)).toNat, none⟩ (.slice Ao3_0 t1.length co3_0) := ⟨_, rfl⟩
 refine skip_ (w1 := w4_) (by rfl) rfl ?_ ?_
 ·rw [hw]; go_simp; try rfl
 refine hK.out _ _ ?_
 clear hK K Q1 QE2 QF_
 obtain ⟨ho, hkp, hbb⟩ := sst_ hw HO0_5 HO3_0 HB EB2.out (fun k_ h1_ h2_ => by have := HS.out; (try dsimp only at h1_ h2_); omega)
 clear hw
 rw [← Ny2.out] at ho
 replace HK := A_.mk (HK.out.then_ hkp (fun k_ h_ => by have := HS.out; (try dsimp only at h_ ⊢); omega))
 replace HO0_1 := aSk HO0_1 hkp HS
 replace HO0_4 := aSk HO0_4 hkp HS
 replace HO0_6 := aRk HO0_6 hkp HS
 replace BK1 := aBk BK1 hkp HS
 replace HS := aHs HS hkp.1
 have LQHO4 := A_.mk (Kd.S_reads' ho).1.symm
 have HO4 := A_.mk (Kd.S_mono (ok' := (fun k_ => ((w.heap.size ≤ k_ ∧ k_ < w1.heap.size) ∧ k_ ≠ gb1_ ∧ f0_ k_ = 2) ∨ ((w5d_.heap.size ≤ k_ ∧ k_ < w3_.heap.size)))) ho (fun k_ hk_ => by (try dsimp only at hk_); omega))
 replace HB := A_.mk hbb
 clear hkp hbb ho HO0_5 HO3_0
 refine done_ (by kernel_rfl) ?_
 have Q1 := blk7_ BK1.out
 go_wp2
 go_ret
 obtain ⟨f_, hf_⟩ : ∃ f_ : Nat → Nat, ∀ k_, f_ k_ = (if ((w.heap.size ≤ k_ ∧ k_ < w1.heap.size) ∧ k_ ≠ gb1_ ∧ f0_ k_ = 0) then 0 else (if ((w.heap.size ≤ k_ ∧ k_ < w1.heap.size) ∧ k_ ≠ gb1_ ∧ f0_ k_ = 1) then 1 else (if ((w.heap.size ≤ k_ ∧ k_ < w1.heap.size) ∧ k_ ≠ gb1_ ∧ f0_ k_ = 2) ∨ ((w5d_.heap.size ≤ k_ ∧ k_ < w3_.heap.size)) then 2 else (if ((w.heap.size ≤ k_ ∧ k_ < w1.heap.size) ∧ k_ ≠ gb1_ ∧ f0_ k_ = 3) then 3 else 4)))) := ⟨fun k_ => (if ((w.heap.size ≤ k_ ∧ k_ < w1.heap.size) ∧ k_ ≠ gb1_ ∧ f0_ k_ = 0) then 0 else (if ((w.heap.size ≤ k_ ∧ k_ < w1.heap.size) ∧ k_ ≠ gb1_ ∧ f0_ k_ = 1) then 1 else (if ((w.heap.size ≤ k_ ∧ k_ < w1.heap.size) ∧ k_ ≠ gb1_ ∧ f0_ k_ = 2) ∨ ((w5d_.heap.size ≤ k_ ∧ k_ < w3_.heap.size)) then 2 else (if ((w.heap.size ≤ k_ ∧ k_ < w1.heap.size) ∧ k_ ≠ gb1_ ∧ f0_ k_ = 3) then 3 else 4)))), fun _ => rfl⟩
 have hcol0_ : ∀ k_, (((w.heap.size ≤ k_ ∧ k_ < w1.heap.size) ∧ k_ ≠ gb1_ ∧ f0_ k_ = 0)) → ((w.heap.size ≤ k_ ∧ k_ < w4_.heap.size) ∧ k_ ≠ gb1_ ∧ f_ k_ = 0) := fun k_ hk_ => ⟨by have := HS.out; omega, by have := HS.out; omega, by rw [hf_]; have := HS.out; repeat' (first | omega | split)⟩
 have hcol1_ : ∀ k_, (((w.heap.size ≤ k_ ∧ k_ < w1.heap.size) ∧ k_ ≠ gb1_ ∧ f0_ k_ = 1)) → ((w.heap.size ≤ k_ ∧ k_ < w4_.heap.size) ∧ k_ ≠ gb1_ ∧ f_ k_ = 1) := fun k_ hk_ => ⟨by have := HS.out; omega, by have := HS.out; omega, by rw [hf_]; have := HS.out; repeat' (first | omega | split)⟩
 have hcol2_ : ∀ k_, (((w.heap.size ≤ k_ ∧ k_ < w1.heap.size) ∧ k_ ≠ gb1_ ∧ f0_ k_ = 2) ∨ ((w5d_.heap.size ≤ k_ ∧ k_ < w3_.heap.size))) → ((w.heap.size ≤ k_ ∧ k_ < w4_.heap.size) ∧ k_ ≠ gb1_ ∧ f_ k_ = 2) := fun k_ hk_ => ⟨by have := HS.out; omega, by have := HS.out; omega, by rw [hf_]; have := HS.out; repeat' (first | omega | split)⟩
 have hcol3_ : ∀ k_, (((w.heap.size ≤ k_ ∧ k_ < w1.heap.size) ∧ k_ ≠ gb1_ ∧ f0_ k_ = 3)) → ((w.heap.size ≤ k_ ∧ k_ < w4_.heap.size) ∧ k_ ≠ gb1_ ∧ f_ k_ = 3) := fun k_ hk_ => ⟨by have := HS.out; omega, by have := HS.out; omega, by rw [hf_]; have := HS.out; repeat' (first | omega | split)⟩
 have hfk_ : ∀ k_, k_ < w1.heap.size → f_ k_ < 4 → k_ = gb1_ ∨ f0_ k_ < 4 := fun k_ h1_ h2_ => by have := HS.out; rw [hf_] at h2_; repeat' (first | omega | split at h2_)
 first | exact ⟨f_, _, _, _, _, rfl, BK1.out, Kd.S_mono HO0_1.out hcol0_, Kd.S_mono HO0_4.out hcol1_, Kd.S_mono HO4.out hcol2_, Kd.R_mono HO0_6.out hcol3_, hfk_, HB.out, HK.out⟩ | exact ⟨rfl, f_, _, _, _, _, BK1.out, Kd.S_mono HO0_1.out hcol0_, Kd.S_mono HO0_4.out hcol1_, Kd.S_mono HO4.out hcol2_, Kd.R_mono HO0_6.out hcol3_, hfk_, HB.out, HK.out⟩
end Go.Proofs.Ytflopendlbciaaa.PFnLinkOnce
