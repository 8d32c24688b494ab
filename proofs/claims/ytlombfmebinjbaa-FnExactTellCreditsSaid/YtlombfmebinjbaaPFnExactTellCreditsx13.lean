-- Written by a program of this session (wip/xp): not trusted, Lean checks it.
import Derived.Test.YtlombfmebinjbaaPFnExactTellCreditsx0
import Derived.Test.YtlombfmebinjbaaPFnExactTellCreditsx1
import Derived.Test.YtlombfmebinjbaaPFnExactTellCreditsx10
import Derived.Test.YtlombfmebinjbaaPFnExactTellCreditsx11
import Derived.Test.YtlombfmebinjbaaPFnExactTellCreditsx12
namespace Go.Proofs.Ytlombfmebinjbaa.PFnExactTellCredits
open Go.RowKit Go.Proofs.YtlombfmebinjbaaW.PrintWords Go.Proofs.YtlombfmebinjbaaW.PrintLast Go.Proofs.YtlombfmebinjbaaW.PrintMore
attribute [local go_sem] max2_int min2_int max_two min_two max_three min_three max_four min_four   -- for this text's walks alone
set_option linter.unusedVariables false
set_option linter.unusedSimpArgs false

/-! ### spec_TellCredits: function 20, its calls in a row -/
def spec_TellCredits.f (k : Nat) (l0_0 : List Int) (l0_1 : List Int) (l0_2 : List Int) (l0_3 : List Int) (l0_4 : List (S38)) (l0_5 : List (S38)) : Option ((List Int) × (List Int) × (List Int) × (List Int) × (List (S38)) × (List (S38)) × (Bool)) := ((spec_l15Copy.f k l0_0 l0_1 l0_2 l0_3 l0_4 l0_5).bind fun ⟨t1, t2, t3, t4, t5, t6⟩ => ((spec_ChannelOk.f k l0_0 l0_1 l0_2 l0_3 l0_4 l0_5).bind fun t7 => (if t7 = true then (if (l0_5.length : Int) = 0 then (some (t1, t2, t3, t4, t5, t6, false)) else (if 0 ≤ (0 : Int) then (if (0 : Int) < (l0_5.length : Int) then ((spec_ReturnCredits.f k l0_2 l0_3 ((rd_T38 l0_5 (0 : Int)).f0) ((rd_T38 l0_5 (0 : Int)).f1) ((rd_T38 l0_5 (0 : Int)).f2) ((rd_T38 l0_5 (0 : Int)).f3) ((rd_T38 l0_5 (0 : Int)).f4) ((rd_T38 l0_5 (0 : Int)).f5) ((rd_T38 l0_5 (0 : Int)).f6) ((rd_T38 l0_5 (0 : Int)).f7)).bind fun ⟨t8, t9, t10⟩ => (if 0 ≤ (0 : Int) then (if (0 : Int) < (t6.length : Int) then (some (t1, t2, t8, t9, t5, (t6.drop 1), true)) else none) else none)) else none) else none)) else (some (t1, t2, t3, t4, t5, t6, false)))))
set_option maxHeartbeats 8000000 in
set_option maxRecDepth 100000 in
theorem spec_TellCredits.calls (k : Nat) (A0_0 : Option Addr) (c0_0 : Nat) (l0_0 : List Int) (A0_1 : Option Addr) (c0_1 : Nat) (l0_1 : List Int) (A0_2 : Option Addr) (c0_2 : Nat) (l0_2 : List Int) (A0_3 : Option Addr) (c0_3 : Nat) (l0_3 : List Int) (P0_4_ : Nat → Prop) (A0_4 : Option Addr) (c0_4 : Nat) (l0_4 : List (S38)) (P0_5_ : Nat → Prop) (A0_5 : Option Addr) (c0_5 : Nat) (l0_5 : List (S38)) (r1 : List Int) (r2 : List Int) (r3 : List Int) (r4 : List Int) (r5 : List (S38)) (r6 : List (S38)) (r7 : Bool) (w : World) (hr0_0 : Kd.C (Kd.int .i64) w A0_0 l0_0.length l0_0) (hc0_0 : l0_0.length ≤ c0_0) (hr0_1 : Kd.C (Kd.int .i64) w A0_1 l0_1.length l0_1) (hc0_1 : l0_1.length ≤ c0_1) (hr0_2 : Kd.C (Kd.int .i64) w A0_2 l0_2.length l0_2) (hc0_2 : l0_2.length ≤ c0_2) (hr0_3 : Kd.C (Kd.int .i64) w A0_3 l0_3.length l0_3) (hc0_3 : l0_3.length ≤ c0_3) (hs0_4 : Kd.V k38 38 w w.heap.size (fun k_ => P0_4_ k_) (.slice A0_4 l0_4.length c0_4) l0_4) (hs0_5 : Kd.V k38 38 w w.heap.size (fun k_ => P0_5_ k_) (.slice A0_5 l0_5.length c0_5) l0_5) (h : spec_TellCredits.f k l0_0 l0_1 l0_2 l0_3 l0_4 l0_5 = some (r1, r2, r3, r4, r5, r6, r7)) :
  Calls Try.prog 20 #[.agg #[.slice A0_0 l0_0.length c0_0, .slice A0_1 l0_1.length c0_1, .slice A0_2 l0_2.length c0_2, .slice A0_3 l0_3.length c0_3, .slice A0_4 l0_4.length c0_4, .slice A0_5 l0_5.length c0_5]] w fun e w' => ∃ v0_ v1_ v2_ v3_ v4_ v5_ : Value, e = .returned (.tuple #[.agg #[v0_, v1_, v2_, v3_, v4_, v5_], .bool r7]) ∧ Kd.V (Kd.int .i64) 3 w' w.heap.size (fun k_ => w.heap.size ≤ k_) v0_ r1 ∧ Kd.V (Kd.int .i64) 3 w' w.heap.size (fun k_ => w.heap.size ≤ k_) v1_ r2 ∧ Kd.V (Kd.int .i64) 3 w' w.heap.size (fun k_ => w.heap.size ≤ k_) v2_ r3 ∧ Kd.V (Kd.int .i64) 3 w' w.heap.size (fun k_ => w.heap.size ≤ k_) v3_ r4 ∧ Kd.V k38 38 w' w.heap.size (fun k_ => w.heap.size ≤ k_) v4_ r5 ∧ Kd.V k38 38 w' w.heap.size (fun k_ => w.heap.size ≤ k_) v5_ r6 ∧ Below w.heap.size w w' := by
 have HR0_0 := A_.mk hr0_0
 have HC0_0 := A_.mk hc0_0
 clear hr0_0 hc0_0
 have HR0_1 := A_.mk hr0_1
 have HC0_1 := A_.mk hc0_1
 clear hr0_1 hc0_1
 have HR0_2 := A_.mk hr0_2
 have HC0_2 := A_.mk hc0_2
 clear hr0_2 hc0_2
 have HR0_3 := A_.mk hr0_3
 have HC0_3 := A_.mk hc0_3
 clear hr0_3 hc0_3
 have HV0_4 := A_.mk (Kd.V_mono (ok' := fun k_ => k_ < w.heap.size) (Kd.V_bound hs0_4) (fun k_ hk_ => hk_.2))
 clear hs0_4
 have HV0_5 := A_.mk (Kd.V_mono (ok' := fun k_ => k_ < w.heap.size) (Kd.V_bound hs0_5) (fun k_ hk_ => hk_.2))
 have HW0_5 := A_.mk ((Kd.V_reads' hs0_5).2.2)
 clear hs0_5
 have HB := A_.mk (Below.refl w.heap.size w)
 unfold spec_TellCredits.f at h
 have H := h
 clear h
 replace H := oa_ H
 obtain ⟨⟨t1, t2, t3, t4, t5, t6⟩, A3, H⟩ := H
 try dsimp only at H
 replace H := oa_ H
 obtain ⟨t7, A6, H⟩ := H
 replace H := A_.mk H
 have hu33 := Try.underlying33
 go_enter Try.func20, Try.ntmps20
 have HS := A_.mk (Nat.le_refl w.heap.size)
 go_wp2_with (first | ((with_reducible refine gd_ (N := 1) rfl ?_); refine by_ 1 (cs := #[.slice A0_0 l0_0.length c0_0, .slice A0_1 l0_1.length c0_1, .slice A0_2 l0_2.length c0_2, .slice A0_3 l0_3.length c0_3, .slice A0_4 l0_4.length c0_4, .slice A0_5 l0_5.length c0_5]) (t := 33) ?_; intro gb1_ hg w1_ hbox hb; replace HS := A_.mk (And.intro HS.out (show gb1_ = w.heap.size ∧ gb1_ < w1_.heap.size from ⟨hg, blk_lt hbox⟩)); replace HV0_4 := aVb HV0_4 hb; replace HV0_5 := aVb HV0_5 hb; replace HB := aHB HB hb; have BK1 := A_.mk hbox; clear hbox hb hg; have Q1 := blk6_ BK1.out) | ((with_reducible refine gd_ (N := 2) rfl ?_); refine by_ 2 (cs := #[.slice none 0 0, .slice none 0 0, .slice none 0 0, .slice none 0 0, .slice none 0 0, .slice none 0 0]) (t := 33) ?_; intro gb2_ hg w2_ hbox hb; replace HS := A_.mk (And.intro HS.out (show gb2_ = w1_.heap.size ∧ gb2_ < w2_.heap.size from ⟨hg, blk_lt hbox⟩)); replace HV0_4 := aVb HV0_4 hb; replace HV0_5 := aVb HV0_5 hb; replace BK1 := aBb BK1 hb; replace HB := aHB HB hb; have BK2 := A_.mk hbox; clear hbox hb hg Q1; have Q1 := blk6_ BK1.out; have Q2 := blk6_ BK2.out) | ((with_reducible refine gc_ (f := 48) rfl ?_); refine gl_ (some 6) Try.func48 #[.agg #[.slice A0_0 l0_0.length c0_0, .slice A0_1 l0_1.length c0_1, .slice A0_2 l0_2.length c0_2, .slice A0_3 l0_3.length c0_3, .slice A0_4 l0_4.length c0_4, .slice A0_5 l0_5.length c0_5]] ?_; (with_reducible refine (spec_l15Copy.calls k _ _ l0_0 _ _ l0_1 _ _ l0_2 _ _ l0_3 _ _ l0_4 _ _ l0_5 t1 t2 t3 t4 t5 t6 _ (Kd.C_below HR0_0.out HB.out) HC0_0.out (Kd.C_below HR0_1.out HB.out) HC0_1.out (Kd.C_below HR0_2.out HB.out) HC0_2.out (Kd.C_below HR0_3.out HB.out) HC0_3.out (Kd.V_reads' HV0_4.out).2.2 (Kd.V_reads' HV0_4.out).2.1 (Kd.V_reads' HV0_5.out).2.2 (Kd.V_reads' HV0_5.out).2.1 A3.out).mono ?_); rintro e w3_ ⟨f3_, v0_, v1_, v2_, v3_, v4_, v5_, rfl, ho0_, ho1_, ho2_, ho3_, ho4_, ho5_, hb⟩; refine ⟨_, rfl, ?_⟩; replace HS := aHs HS hb.size; obtain ⟨Ao3_0, co3_0, ev_⟩ := Kd.R_slice ho0_; subst ev_; have HO3_0 := aRn ho0_ HB.out.size; obtain ⟨Ao3_1, co3_1, ev_⟩ := Kd.R_slice ho1_; subst ev_; have HO3_1 := aRn ho1_ HB.out.size; obtain ⟨Ao3_2, co3_2, ev_⟩ := Kd.R_slice ho2_; subst ev_; have HO3_2 := aRn ho2_ HB.out.size; obtain ⟨Ao3_3, co3_3, ev_⟩ := Kd.R_slice ho3_; subst ev_; have HO3_3 := aRn ho3_ HB.out.size; obtain ⟨Ao3_4, co3_4, ev_⟩ := Kd.S_slice ho4_; subst ev_; have HO3_4 := aSn ho4_ HB.out.size; obtain ⟨Ao3_5, co3_5, ev_⟩ := Kd.S_slice ho5_; subst ev_; have HO3_5 := aSn ho5_ HB.out.size; replace HV0_4 := aVb HV0_4 hb; replace HV0_5 := aVb HV0_5 hb; replace BK1 := aBb BK1 hb; replace BK2 := aBb BK2 hb; replace HB := aHB HB hb; clear hb ho0_ ho1_ ho2_ ho3_ ho4_ ho5_ Q1 Q2; have Q1 := blk6_ BK1.out; have Q2 := blk6_ BK2.out) | ((with_reducible refine gd_ (N := 4) rfl ?_); refine by_ 4 (cs := #[.slice none 0 0, .slice none 0 0, .slice none 0 0, .slice none 0 0, .slice none 0 0, .slice none 0 0]) (t := 33) ?_; intro gb4_ hg w4_ hbox hb; replace HS := A_.mk (And.intro HS.out (show gb4_ = w3_.heap.size ∧ gb4_ < w4_.heap.size from ⟨hg, blk_lt hbox⟩)); replace HV0_4 := aVb HV0_4 hb; replace HV0_5 := aVb HV0_5 hb; replace HO3_0 := aRb HO3_0 hb; replace HO3_1 := aRb HO3_1 hb; replace HO3_2 := aRb HO3_2 hb; replace HO3_3 := aRb HO3_3 hb; replace HO3_4 := aSb HO3_4 hb; replace HO3_5 := aSb HO3_5 hb; replace BK1 := aBb BK1 hb; replace BK2 := aBb BK2 hb; replace HB := aHB HB hb; have BK4 := A_.mk hbox; clear hbox hb hg Q1 Q2; have Q1 := blk6_ BK1.out; have Q2 := blk6_ BK2.out; have Q4 := blk6_ BK4.out) | ((with_reducible refine gs_ (t := 33) (p := 4) rfl ?_); have qf0 := bf_ BK4.out 0; have qf1 := bf_ BK4.out 1; have qf2 := bf_ BK4.out 2; have qf3 := bf_ BK4.out 3; have qf4 := bf_ BK4.out 4; have qf5 := bf_ BK4.out 5; refine se_ (t := 33) (p := 4) (v := ?vo_5) (w1 := (ch6_ w4_ gb4_ (.slice Ao3_0 t1.length co3_0) (.slice Ao3_1 t2.length co3_1) (.slice Ao3_2 t3.length co3_2) (.slice Ao3_3 t4.length co3_3) (.slice Ao3_4 t5.length co3_4) (.slice Ao3_5 t6.length co3_5))) ?hg ?ho ?hn ?hr ?_; (case ho => rfl); (case hg => rfl); (case hn => rfl); (case hr => first | (go_simp; done) | (go_simp; rfl)); intro w5_ hw; clear qf0 qf1 qf2 qf3 qf4 qf5; obtain ⟨hbx, hkp, hbb⟩ := st6_ hw BK4 HB (by have := HS.out; omega); clear hw; replace HV0_4 := aVk HV0_4 hkp HS; replace HV0_5 := aVk HV0_5 hkp HS; replace HO3_0 := aRk HO3_0 hkp HS; replace HO3_1 := aRk HO3_1 hkp HS; replace HO3_2 := aRk HO3_2 hkp HS; replace HO3_3 := aRk HO3_3 hkp HS; replace HO3_4 := aSk HO3_4 hkp HS; replace HO3_5 := aSk HO3_5 hkp HS; replace BK1 := aBk BK1 hkp HS; replace BK2 := aBk BK2 hkp HS; replace BK4 := A_.mk hbx; replace HB := A_.mk hbb; replace HS := aHs HS hkp.1; clear hkp hbb hbx Q1 Q2 Q4; have Q1 := blk6_ BK1.out; have Q2 := blk6_ BK2.out; have Q4 := blk6_ BK4.out))
 (with_reducible refine (spec_ChannelOk.calls k _ _ l0_0 _ _ l0_1 _ _ l0_2 _ _ l0_3 (fun k_ => k_ < w.heap.size) _ _ l0_4 (fun k_ => k_ < w.heap.size) _ _ l0_5 t7 _ (Kd.C_below HR0_0.out HB.out) HC0_0.out (Kd.C_below HR0_1.out HB.out) HC0_1.out (Kd.C_below HR0_2.out HB.out) HC0_2.out (Kd.C_below HR0_3.out HB.out) HC0_3.out (V_any HV0_4.out) (V_any HV0_5.out) A6.out).mono ?_)
 rintro e w6_ ⟨rfl, hb⟩
 replace HS := aHs HS hb.size
 replace HV0_4 := aVb HV0_4 hb
 replace HV0_5 := aVb HV0_5 hb
 replace HO3_0 := aRb HO3_0 hb
 replace HO3_1 := aRb HO3_1 hb
 replace HO3_2 := aRb HO3_2 hb
 replace HO3_3 := aRb HO3_3 hb
 replace HO3_4 := aSb HO3_4 hb
 replace HO3_5 := aSb HO3_5 hb
 replace BK1 := aBb BK1 hb
 replace BK2 := aBb BK2 hb
 replace BK4 := aBb BK4 hb
 replace HB := aHB HB hb
 clear hb  Q1 Q2 Q4
 have Q1 := blk6_ BK1.out
 have Q2 := blk6_ BK2.out
 have Q4 := blk6_ BK4.out
 replace H := H.out
 by_cases hc1_ : t7 = true
 case neg =>
  rw [if_neg hc1_] at H
  replace hc1_ := eq_false_of_ne_true hc1_
  subst hc1_
  simp only [Option.some.injEq, Prod.mk.injEq] at H
  obtain ⟨rfl, rfl, rfl, rfl, rfl, rfl, rfl⟩ := H
  go_wp2_with (first | ((with_reducible refine gs_ (t := 33) (p := 2) rfl ?_); have qf0 := bf_ BK2.out 0; have qf1 := bf_ BK2.out 1; have qf2 := bf_ BK2.out 2; have qf3 := bf_ BK2.out 3; have qf4 := bf_ BK2.out 4; have qf5 := bf_ BK2.out 5; refine se_ (t := 33) (p := 2) (v := ?vo_14) (w1 := (ch6_ w6_ gb2_ (.slice Ao3_0 t1.length co3_0) (.slice Ao3_1 t2.length co3_1) (.slice Ao3_2 t3.length co3_2) (.slice Ao3_3 t4.length co3_3) (.slice Ao3_4 t5.length co3_4) (.slice Ao3_5 t6.length co3_5))) ?hg ?ho ?hn ?hr ?_; (case ho => rfl); (case hg => rfl); (case hn => rfl); (case hr => first | (go_simp; done) | (go_simp; rfl)); intro w14_ hw; clear qf0 qf1 qf2 qf3 qf4 qf5; obtain ⟨hbx, hkp, hbb⟩ := st6_ hw BK2 HB (by have := HS.out; omega); clear hw; replace HO3_0 := aRk HO3_0 hkp HS; replace HO3_1 := aRk HO3_1 hkp HS; replace HO3_2 := aRk HO3_2 hkp HS; replace HO3_3 := aRk HO3_3 hkp HS; replace HO3_4 := aSk HO3_4 hkp HS; replace HO3_5 := aSk HO3_5 hkp HS; replace BK1 := aBk BK1 hkp HS; replace BK4 := aBk BK4 hkp HS; replace BK2 := A_.mk hbx; replace HB := A_.mk hbb; replace HS := aHs HS hkp.1; clear hkp hbb hbx Q1 Q2 Q4; have Q1 := blk6_ BK1.out; have Q2 := blk6_ BK2.out; have Q4 := blk6_ BK4.out))
  refine bodyPost_ret (results_ct rfl _ _ gb2_ 33 #[.slice Ao3_0 t1.length co3_0, .slice Ao3_1 t2.length co3_1, .slice Ao3_2 t3.length co3_2, .slice Ao3_3 t4.length co3_3, .slice Ao3_4 t5.length co3_4, .slice Ao3_5 t6.length co3_5] (0, 0) _ rfl BK2.out Try.underlying33 rfl (by kernel_rfl)) rfl ?_
  exact ⟨_, _, _, _, _, _, rfl, Kd.V_mono (Kd.R_V HO3_0.out) (fun k_ _ => by show w.heap.size ≤ k_; have := HS.out; omega), Kd.V_mono (Kd.R_V HO3_1.out) (fun k_ _ => by show w.heap.size ≤ k_; have := HS.out; omega), Kd.V_mono (Kd.R_V HO3_2.out) (fun k_ _ => by show w.heap.size ≤ k_; have := HS.out; omega), Kd.V_mono (Kd.R_V HO3_3.out) (fun k_ _ => by show w.heap.size ≤ k_; have := HS.out; omega), Kd.V_mono (Kd.S_V HO3_4.out) (fun k_ _ => by show w.heap.size ≤ k_; have := HS.out; omega), Kd.V_mono (Kd.S_V HO3_5.out) (fun k_ _ => by show w.heap.size ≤ k_; have := HS.out; omega), HB.out⟩
 rw [if_pos hc1_] at H
 subst hc1_
 by_cases hc2_ : (l0_5.length : Int) = 0
 case pos =>
  rw [if_pos hc2_] at H
  have hc2_b0 : ((l0_5.length : Int) == 0) = true := beq_iff_eq.mpr hc2_
  have hc2_bn : ((l0_5.length : Int) != 0) = false := bne_eq_false_iff_eq.mpr hc2_
  have hc2_b1 : (l0_5.length == 0) = true := by first | simpa using hc2_ | (simp at hc2_ ⊢; omega)
  replace hc2_ := A_.mk hc2_
  simp only [Option.some.injEq, Prod.mk.injEq] at H
  obtain ⟨rfl, rfl, rfl, rfl, rfl, rfl, rfl⟩ := H
  go_wp2_with (first | ((with_reducible refine gs_ (t := 33) (p := 2) rfl ?_); have qf0 := bf_ BK2.out 0; have qf1 := bf_ BK2.out 1; have qf2 := bf_ BK2.out 2; have qf3 := bf_ BK2.out 3; have qf4 := bf_ BK2.out 4; have qf5 := bf_ BK2.out 5; refine se_ (t := 33) (p := 2) (v := ?vo_7) (w1 := (ch6_ w6_ gb2_ (.slice Ao3_0 t1.length co3_0) (.slice Ao3_1 t2.length co3_1) (.slice Ao3_2 t3.length co3_2) (.slice Ao3_3 t4.length co3_3) (.slice Ao3_4 t5.length co3_4) (.slice Ao3_5 t6.length co3_5))) ?hg ?ho ?hn ?hr ?_; (case ho => rfl); (case hg => rfl); (case hn => rfl); (case hr => first | (go_simp; done) | (go_simp; rfl)); intro w7_ hw; clear qf0 qf1 qf2 qf3 qf4 qf5; obtain ⟨hbx, hkp, hbb⟩ := st6_ hw BK2 HB (by have := HS.out; omega); clear hw; replace HO3_0 := aRk HO3_0 hkp HS; replace HO3_1 := aRk HO3_1 hkp HS; replace HO3_2 := aRk HO3_2 hkp HS; replace HO3_3 := aRk HO3_3 hkp HS; replace HO3_4 := aSk HO3_4 hkp HS; replace HO3_5 := aSk HO3_5 hkp HS; replace BK1 := aBk BK1 hkp HS; replace BK4 := aBk BK4 hkp HS; replace BK2 := A_.mk hbx; replace HB := A_.mk hbb; replace HS := aHs HS hkp.1; clear hkp hbb hbx Q1 Q2 Q4; have Q1 := blk6_ BK1.out; have Q2 := blk6_ BK2.out; have Q4 := blk6_ BK4.out))
  refine bodyPost_ret (results_ct rfl _ _ gb2_ 33 #[.slice Ao3_0 t1.length co3_0, .slice Ao3_1 t2.length co3_1, .slice Ao3_2 t3.length co3_2, .slice Ao3_3 t4.length co3_3, .slice Ao3_4 t5.length co3_4, .slice Ao3_5 t6.length co3_5] (0, 0) _ rfl BK2.out Try.underlying33 rfl (by kernel_rfl)) rfl ?_
  exact ⟨_, _, _, _, _, _, rfl, Kd.V_mono (Kd.R_V HO3_0.out) (fun k_ _ => by show w.heap.size ≤ k_; have := HS.out; omega), Kd.V_mono (Kd.R_V HO3_1.out) (fun k_ _ => by show w.heap.size ≤ k_; have := HS.out; omega), Kd.V_mono (Kd.R_V HO3_2.out) (fun k_ _ => by show w.heap.size ≤ k_; have := HS.out; omega), Kd.V_mono (Kd.R_V HO3_3.out) (fun k_ _ => by show w.heap.size ≤ k_; have := HS.out; omega), Kd.V_mono (Kd.S_V HO3_4.out) (fun k_ _ => by show w.heap.size ≤ k_; have := HS.out; omega), Kd.V_mono (Kd.S_V HO3_5.out) (fun k_ _ => by show w.heap.size ≤ k_; have := HS.out; omega), HB.out⟩
 rw [if_neg hc2_] at H
 have hc2_b0 : ((l0_5.length : Int) == 0) = false := beq_eq_false_iff_ne.mpr hc2_
 have hc2_bn : ((l0_5.length : Int) != 0) = true := bne_iff_ne.mpr hc2_
 have hc2_b1 : (l0_5.length == 0) = false := by first | simpa using hc2_ | (simp at hc2_ ⊢; omega)
 by_cases hp8_ : 0 ≤ (0 : Int)
 case neg => rw [if_neg hp8_] at H; cases H
 rw [if_pos hp8_] at H
 by_cases hq8_ : (0 : Int) < (l0_5.length : Int)
 case neg => rw [if_neg hq8_] at H; cases H
 rw [if_pos hq8_] at H
 have EB8 := A_.mk (And.intro hp8_ hq8_)
 obtain ⟨ad8_, A8_7, c8_7, eA_, hx0_, hx1_, hx2_, hx3_, hx4_, hx5_, hx6_, hx7_, hl7_, hi7_⟩ := at_T38 HW0_5.out (0 : Int) hp8_ hq8_
 simp only [show ((0 : Int)).toNat = 0 from rfl, Nat.zero_mul, Addr.add_zero'] at hx0_ hx1_ hx2_ hx3_ hx4_ hx5_ hx6_ hx7_
 have hn8_ : (0 < l0_5.length) = True := eq_true (by omega)
 subst eA_
 have HX8 := A_.mk (And.intro hx0_ (And.intro hx1_ (And.intro hx2_ (And.intro hx3_ (And.intro hx4_ (And.intro hx5_ (And.intro hx6_ hx7_)))))))
 have HE8_7 := A_.mk hi7_
 have HD8_7 := A_.mk hl7_
 clear hx0_ hx1_ hx2_ hx3_ hx4_ hx5_ hx6_ hx7_ hl7_ hi7_
 replace hp8_ := eq_true hp8_
 replace hq8_ := eq_true hq8_
 replace H := oa_ H
 obtain ⟨⟨t8, t9, t10⟩, A9, H⟩ := H
 try dsimp only at H
 by_cases hp11_ : 0 ≤ (0 : Int)
 case neg => rw [if_neg hp11_] at H; cases H
 rw [if_pos hp11_] at H
 by_cases hq11_ : (0 : Int) < (t6.length : Int)
 case neg => rw [if_neg hq11_] at H; cases H
 rw [if_pos hq11_] at H
 have EB11 := A_.mk (And.intro hp11_ hq11_)
 clear hp11_ hq11_
 obtain ⟨y11, Ny11⟩ : ∃ q_, q_ = (t6.drop 1) := ⟨_, rfl⟩
 rw [← Ny11] at H
 replace Ny11 := A_.mk Ny11
 simp only [Option.some.injEq, Prod.mk.injEq] at H
 obtain ⟨rfl, rfl, rfl, rfl, rfl, rfl, rfl⟩ := H
 go_wp2_with (fail)
 refine start_ (n := 12) (S := fun w' => (w'.cell? ⟨gb1_, 0, none⟩ = some (.slice A0_0 l0_0.length c0_0) ∧ w'.cell? ⟨gb1_, 1, none⟩ = some (.slice A0_1 l0_1.length c0_1) ∧ w'.cell? ⟨gb1_, 2, none⟩ = some (.slice A0_2 l0_2.length c0_2) ∧ w'.cell? ⟨gb1_, 3, none⟩ = some (.slice A0_3 l0_3.length c0_3) ∧ w'.cell? ⟨gb1_, 4, none⟩ = some (.slice A0_4 l0_4.length c0_4) ∧ w'.cell? ⟨gb1_, 5, none⟩ = some (.slice (some ad8_) l0_5.length c0_5)) ∧ (w'.cell? ad8_ = some (.int .i64 ((rd_T38 l0_5 (0 : Int)).f0)) ∧ w'.cell? ⟨ad8_.block, ad8_.off + 1, none⟩ = some (.int .i64 ((rd_T38 l0_5 (0 : Int)).f1)) ∧ w'.cell? ⟨ad8_.block, ad8_.off + 2, none⟩ = some (.int .i64 ((rd_T38 l0_5 (0 : Int)).f2)) ∧ w'.cell? ⟨ad8_.block, ad8_.off + 3, none⟩ = some (.int .i64 ((rd_T38 l0_5 (0 : Int)).f3)) ∧ w'.cell? ⟨ad8_.block, ad8_.off + 4, none⟩ = some (.int .i64 ((rd_T38 l0_5 (0 : Int)).f4)) ∧ w'.cell? ⟨ad8_.block, ad8_.off + 5, none⟩ = some (.int .i64 ((rd_T38 l0_5 (0 : Int)).f5)) ∧ w'.cell? ⟨ad8_.block, ad8_.off + 6, none⟩ = some (.int .i64 ((rd_T38 l0_5 (0 : Int)).f6)) ∧ w'.cell? ⟨ad8_.block, ad8_.off + 7, none⟩ = some (.slice A8_7 ((rd_T38 l0_5 (0 : Int)).f7).length c8_7))) (ds := [11]) #[F, F, F, F, F, F, F, F, F, F, F, F] (by kernel_rfl) rfl rfl ⟨blk6_ BK1.out, el8_ (below_drew HB.out) HX8.out⟩ (fun hHeld => ?_)
 clear Q1 Q2 Q4
 have hb := below_drew (Below.refl w6_.heap.size w6_)
 replace HS := aHs HS hb.size
 replace HO3_0 := aRb HO3_0 hb
 replace HO3_1 := aRb HO3_1 hb
 replace HO3_4 := aSb HO3_4 hb
 replace HO3_5 := aSb HO3_5 hb
 replace BK1 := aBb BK1 hb
 replace BK2 := aBb BK2 hb
 replace BK4 := aBb BK4 hb
 replace HB := aHB HB hb
 clear hb
 generalize w6_.drew = w15d_ at HO3_0 HO3_1 HO3_4 HO3_5 BK1 BK2 BK4 HB HS hHeld ⊢
 refine pd_ (i := 0) (N := some 18) #[T, F, F, F, F, F, F, F, F, F, F, F] rfl ?_
 refine tl_ (i := 1) (N := some 19) #[T, T, F, F, F, F, F, F, F, F, F, F] rfl hHeld ?_
 refine pd_ (i := 2) (N := some 20) #[T, T, T, F, F, F, F, F, F, F, F, F] rfl ?_
 refine tl_ (i := 3) (N := some 21) #[T, T, T, T, F, F, F, F, F, F, F, F] rfl hHeld ?_
 refine pd_ (i := 4) (N := some 22) #[T, T, T, T, T, F, F, F, F, F, F, F] rfl ?_
 refine tl_ (i := 5) (N := some 23) #[T, T, T, T, T, T, F, F, F, F, F, F] rfl hHeld ?_
 refine on_ (i := 6) (N := some 24) #[T, T, T, T, T, T, T, F, F, F, F, F] rfl (fun K hK => ?_)
 refine gz_ Try.func62 #[.agg #[.slice A0_2 l0_2.length c0_2, .slice A0_3 l0_3.length c0_3], .agg #[.int .i64 ((rd_T38 l0_5 (0 : Int)).f0), .int .i64 ((rd_T38 l0_5 (0 : Int)).f1), .int .i64 ((rd_T38 l0_5 (0 : Int)).f2), .int .i64 ((rd_T38 l0_5 (0 : Int)).f3), .int .i64 ((rd_T38 l0_5 (0 : Int)).f4), .int .i64 ((rd_T38 l0_5 (0 : Int)).f5), .int .i64 ((rd_T38 l0_5 (0 : Int)).f6), .slice A8_7 ((rd_T38 l0_5 (0 : Int)).f7).length c8_7]] ?_
 with_reducible refine (spec_ReturnCredits.calls k _ _ l0_2 _ _ l0_3 ((rd_T38 l0_5 (0 : Int)).f0) ((rd_T38 l0_5 (0 : Int)).f1) ((rd_T38 l0_5 (0 : Int)).f2) ((rd_T38 l0_5 (0 : Int)).f3) ((rd_T38 l0_5 (0 : Int)).f4) ((rd_T38 l0_5 (0 : Int)).f5) ((rd_T38 l0_5 (0 : Int)).f6) _ _ ((rd_T38 l0_5 (0 : Int)).f7) t8 t9 t10 _ (Kd.C_below HR0_2.out HB.out) HC0_2.out (Kd.C_below HR0_3.out HB.out) HC0_3.out (Kd.C_below HE8_7.out HB.out) HD8_7.out A9.out).mono ?_
 rintro e w9_ ⟨f9_, v0_, v1_, rfl, ho0_, ho1_, hb⟩
 refine ⟨_, rfl, ?_⟩
 replace HS := aHs HS hb.size
 obtain ⟨Ao9_0, co9_0, ev_⟩ := Kd.R_slice ho0_
 subst ev_
 have HO9_0 := aRn ho0_ HB.out.size
 obtain ⟨Ao9_1, co9_1, ev_⟩ := Kd.R_slice ho1_
 subst ev_
 have HO9_1 := aRn ho1_ HB.out.size
 replace HO3_0 := aRb HO3_0 hb
 replace HO3_1 := aRb HO3_1 hb
 replace HO3_4 := aSb HO3_4 hb
 replace HO3_5 := aSb HO3_5 hb
 replace BK1 := aBb BK1 hb
 replace BK2 := aBb BK2 hb
 replace BK4 := aBb BK4 hb
 replace HB := aHB HB hb
 clear hb ho0_ ho1_
 refine hK.out _ _ ⟨blk6_ BK1.out, el8_ HB.out HX8.out⟩ (fun hHeld => ?_)
 clear hK K
 refine nm_ ?_
 refine pd_ (i := 7) (N := some 17) #[T, T, T, T, T, T, T, T, F, F, F, F] rfl ?_
 refine pd_ (i := 8) (N := some 25) #[T, T, T, T, T, T, T, T, T, F, F, F] rfl ?_
 refine pd_ (i := 9) (N := some 26) #[T, T, T, T, T, T, T, T, T, T, F, F] rfl ?_
 refine pd_ (i := 10) (N := some 27) #[T, T, T, T, T, T, T, T, T, T, T, F] rfl ?_
 refine last_ (i := 11) (N := none) #[T, T, T, T, T, T, T, T, T, T, T, T] rfl rfl (by kernel_rfl) (by decide) (fun K hK => ?_)
 have Q1 := blk6_ BK1.out
 have Q2 := blk6_ BK2.out
 have Q4 := blk6_ BK4.out
 have qf0 := bf_ BK4.out 2; have qf1 := bf_ BK4.out 3
 obtain ⟨w10_, hw⟩ : ∃ q_ : World, q_ = ((w9_.setCell ⟨gb4_, 2, none⟩ (.slice Ao9_0 t8.length co9_0)).setCell ⟨gb4_, 3, none⟩ (.slice Ao9_1 t9.length co9_1)) := ⟨_, rfl⟩
 refine skip_ (w1 := w10_) (by rfl) rfl ?_ ?_
 ·rw [hw]; go_simp; try rfl
 refine hK.out _ _ ?_
 clear hK K qf0 qf1 Q1 Q2 Q4
 have hge : w.heap.size ≤ gb4_ := (by have := HS.out; omega)
 have hkp : Kept w9_ w10_ (fun k_ => k_ = gb4_) := (by rw [hw]; exact (Kept.of_set (Kept.of_set (Kept.refl _ _) _ _) _ _))
 have hbb : Below w.heap.size w w10_ := (by rw [hw]; exact (bs_ (bs_ HB.out hge) hge))
 have hbx : w10_.heap[gb4_]? = some (.cells #[.slice Ao3_0 t1.length co3_0, .slice Ao3_1 t2.length co3_1, .slice Ao9_0 t8.length co9_0, .slice Ao9_1 t9.length co9_1, .slice Ao3_4 t5.length co3_4, .slice Ao3_5 t6.length co3_5] 33 (0, 0)) := (by rw [hw]; exact (bp_ (cs := #[.slice Ao3_0 t1.length co3_0, .slice Ao3_1 t2.length co3_1, .slice Ao9_0 t8.length co9_0, .slice Ao3_3 t4.length co3_3, .slice Ao3_4 t5.length co3_4, .slice Ao3_5 t6.length co3_5]) (bp_ (cs := #[.slice Ao3_0 t1.length co3_0, .slice Ao3_1 t2.length co3_1, .slice Ao3_2 t3.length co3_2, .slice Ao3_3 t4.length co3_3, .slice Ao3_4 t5.length co3_4, .slice Ao3_5 t6.length co3_5]) BK4.out 2 _ rfl) 3 _ rfl))
 clear hw
 replace HO3_0 := aRk HO3_0 hkp HS
 replace HO3_1 := aRk HO3_1 hkp HS
 replace HO3_4 := aSk HO3_4 hkp HS
 replace HO3_5 := aSk HO3_5 hkp HS
 replace HO9_0 := aRk HO9_0 hkp HS
 replace HO9_1 := aRk HO9_1 hkp HS
 replace BK1 := aBk BK1 hkp HS
 replace BK2 := aBk BK2 hkp HS
 replace BK4 := A_.mk hbx
 replace HB := A_.mk hbb
 replace HS := aHs HS hkp.1
 clear hkp hbb hbx hge
 refine done_ (by kernel_rfl) ?_
 have Q1 := blk6_ BK1.out
 have Q2 := blk6_ BK2.out
 have Q4 := blk6_ BK4.out
 obtain ⟨gd11_, ed_⟩ := S_at0 HO3_5.out (by have := EB11.out; omega)
 subst ed_
 obtain ⟨ax11_, hax11_⟩ : ∃ q_ : Option Addr, (if co3_5 = 1 then (some ⟨gd11_, 0, none⟩ : Option Addr) else some ⟨gd11_, 8, none⟩) = q_ := ⟨_, rfl⟩
 have HO11 := A_.mk (show Kd.V k38 38 w10_ w.heap.size (fun k_ => ((w2_.heap.size ≤ k_ ∧ k_ < w3_.heap.size) ∧ f3_ k_ = 5)) (.slice ax11_ (t6.length - 1) (co3_5 - 1)) y11 from by rw [Ny11.out]; exact S_cut1 HO3_5.out (by have := EB11.out; omega) rfl hax11_)
 have hnc_ := (Kd.S_reads' HO3_5.out).2.1
 have hz0_ : 1 ≤ t6.length := by have := EB11.out; omega
 have hz1_ : 1 ≤ co3_5 := by omega
 have hz2_ : (1 : Int) ≤ (t6.length : Int) := by omega
 go_wp2_with (first | ((with_reducible refine gs_ (t := 31) (p := 31) rfl ?_); have qf0 := bf_ BK4.out 5; refine se_ (t := 31) (p := 31) (v := ?vo_12) (w1 := (w10_.setCell ⟨gb4_, 5, none⟩ (.slice ax11_ (t6.length - 1) (co3_5 - 1)))) ?hg ?ho ?hn ?hr ?_; (case ho => rfl); (case hg => rfl); (case hn => rfl); (case hr => first | (go_simp; done) | (go_simp; rfl)); intro w12_ hw; clear qf0; have hge : w.heap.size ≤ gb4_ := (by have := HS.out; omega); have hkp : Kept w10_ w12_ (fun k_ => k_ = gb4_) := (by rw [hw]; exact (Kept.of_set (Kept.refl _ _) _ _)); have hbb : Below w.heap.size w w12_ := (by rw [hw]; exact (bs_ HB.out hge)); have hbx : w12_.heap[gb4_]? = some (.cells #[.slice Ao3_0 t1.length co3_0, .slice Ao3_1 t2.length co3_1, .slice Ao9_0 t8.length co9_0, .slice Ao9_1 t9.length co9_1, .slice Ao3_4 t5.length co3_4, .slice ax11_ (t6.length - 1) (co3_5 - 1)] 33 (0, 0)) := (by rw [hw]; exact (bp_ (cs := #[.slice Ao3_0 t1.length co3_0, .slice Ao3_1 t2.length co3_1, .slice Ao9_0 t8.length co9_0, .slice Ao9_1 t9.length co9_1, .slice Ao3_4 t5.length co3_4, .slice (some ⟨gd11_, 0, none⟩) t6.length co3_5]) BK4.out 5 _ rfl)); clear hw; replace HO3_0 := aRk HO3_0 hkp HS; replace HO3_1 := aRk HO3_1 hkp HS; replace HO3_4 := aSk HO3_4 hkp HS; replace HO9_0 := aRk HO9_0 hkp HS; replace HO9_1 := aRk HO9_1 hkp HS; replace HO11 := aVk HO11 hkp HS; replace BK1 := aBk BK1 hkp HS; replace BK2 := aBk BK2 hkp HS; replace BK4 := A_.mk hbx; replace HB := A_.mk hbb; replace HS := aHs HS hkp.1; clear hkp hbb hbx hge Q1 Q2 Q4; have Q1 := blk6_ BK1.out; have Q2 := blk6_ BK2.out; have Q4 := blk6_ BK4.out) | ((with_reducible refine gs_ (t := 33) (p := 2) rfl ?_); have qf0 := bf_ BK2.out 0; have qf1 := bf_ BK2.out 1; have qf2 := bf_ BK2.out 2; have qf3 := bf_ BK2.out 3; have qf4 := bf_ BK2.out 4; have qf5 := bf_ BK2.out 5; refine se_ (t := 33) (p := 2) (v := ?vo_13) (w1 := (ch6_ w12_ gb2_ (.slice Ao3_0 t1.length co3_0) (.slice Ao3_1 t2.length co3_1) (.slice Ao9_0 t8.length co9_0) (.slice Ao9_1 t9.length co9_1) (.slice Ao3_4 t5.length co3_4) (.slice ax11_ (t6.length - 1) (co3_5 - 1)))) ?hg ?ho ?hn ?hr ?_; (case ho => rfl); (case hg => rfl); (case hn => rfl); (case hr => first | (go_simp; done) | (go_simp; rfl)); intro w13_ hw; clear qf0 qf1 qf2 qf3 qf4 qf5; obtain ⟨hbx, hkp, hbb⟩ := st6_ hw BK2 HB (by have := HS.out; omega); clear hw; replace HO3_0 := aRk HO3_0 hkp HS; replace HO3_1 := aRk HO3_1 hkp HS; replace HO3_4 := aSk HO3_4 hkp HS; replace HO9_0 := aRk HO9_0 hkp HS; replace HO9_1 := aRk HO9_1 hkp HS; replace HO11 := aVk HO11 hkp HS; replace BK1 := aBk BK1 hkp HS; replace BK4 := aBk BK4 hkp HS; replace BK2 := A_.mk hbx; replace HB := A_.mk hbb; replace HS := aHs HS hkp.1; clear hkp hbb hbx Q1 Q2 Q4; have Q1 := blk6_ BK1.out; have Q2 := blk6_ BK2.out; have Q4 := blk6_ BK4.out))
 refine bodyPost_ret (results_ct rfl _ _ gb2_ 33 #[.slice Ao3_0 t1.length co3_0, .slice Ao3_1 t2.length co3_1, .slice Ao9_0 t8.length co9_0, .slice Ao9_1 t9.length co9_1, .slice Ao3_4 t5.length co3_4, .slice ax11_ (t6.length - 1) (co3_5 - 1)] (0, 0) _ rfl BK2.out Try.underlying33 rfl (by kernel_rfl)) rfl ?_
 exact ⟨_, _, _, _, _, _, rfl, Kd.V_mono (Kd.R_V HO3_0.out) (fun k_ _ => by show w.heap.size ≤ k_; have := HS.out; omega), Kd.V_mono (Kd.R_V HO3_1.out) (fun k_ _ => by show w.heap.size ≤ k_; have := HS.out; omega), Kd.V_mono (Kd.R_V HO9_0.out) (fun k_ _ => by show w.heap.size ≤ k_; have := HS.out; omega), Kd.V_mono (Kd.R_V HO9_1.out) (fun k_ _ => by show w.heap.size ≤ k_; have := HS.out; omega), Kd.V_mono (Kd.S_V HO3_4.out) (fun k_ _ => by show w.heap.size ≤ k_; have := HS.out; omega), Kd.V_mono (HO11.out) (fun k_ _ => by show w.heap.size ≤ k_; have := HS.out; omega), HB.out⟩
/-! ### slices_Equal_int_int: function 73 -/
def slices_Equal_int_int.l0 : Nat → List Int → List Int → Int → Int → Option (Bool)
 | 0, _, _, _, _ => none
 | k + 1, x0, x1, x12, x13 => if x13 < x12 then (if 0 ≤ x13 then (if x13 < (x0.length : Int) then (if x13 < (x1.length : Int) then (if (rd x0 x13) = (rd x1 x13) then (slices_Equal_int_int.l0 k x0 x1 x12 (wrap64 (x13 + 1))) else (some false)) else (none)) else (none)) else (none)) else (some true)
def slices_Equal_int_int.f (k : Nat) (l0 : List Int) (l1 : List Int) : Option (Bool) := if (l0.length : Int) = (l1.length : Int) then (slices_Equal_int_int.l0 k l0 l1 (l0.length : Int) 0) else (some false)
set_option maxHeartbeats 8000000 in
set_option maxRecDepth 100000 in
theorem slices_Equal_int_int.calls (k : Nat) (A0 : Option Addr) (c0 : Nat) (l0 : List Int) (A1 : Option Addr) (c1 : Nat) (l1 : List Int) (r : Bool) (w : World) (hr0 : Kd.C (Kd.int .i64) w A0 l0.length l0) (hc0 : l0.length ≤ c0) (hr1 : Kd.C (Kd.int .i64) w A1 l1.length l1) (hc1 : l1.length ≤ c1) (h : slices_Equal_int_int.f k l0 l1 = some r) :
  Calls Try.prog 73 #[.slice A0 l0.length c0, .slice A1 l1.length c1] w fun e w' => e = .returned (.bool r) ∧ Drawn0 w w' := by
 have HR0 := A_.mk hr0
 have HC0 := A_.mk hc0
 clear hr0 hc0
 have HR1 := A_.mk hr1
 have HC1 := A_.mk hc1
 clear hr1 hc1
 have H : (if (l0.length : Int) = (l1.length : Int) then (slices_Equal_int_int.l0 k l0 l1 (l0.length : Int) 0) else (some false)) = some r := h
 clear h
 by_cases c3 : (l0.length : Int) = (l1.length : Int)
 rotate_left
 ·rw [if_neg c3] at H
  have c3b0 : ((l0.length : Int) == (l1.length : Int)) = false := beq_eq_false_iff_ne.mpr c3
  have c3b1 : ((l0.length : Int) != (l1.length : Int)) = true := bne_iff_ne.mpr c3
  have c3b2 : (l0.length == l1.length) = false := by first | simpa using c3 | (simp at c3 ⊢; omega)
  obtain rfl := Option.some.inj H
  go_enter Try.func73, Try.ntmps73
  go_wp2
  repeat (go_quiet (fail); try go_wp2)
  go_ret
  exact ⟨by first | rfl | (simp; done) | (simp [*]; done), by repeat (first | exact Drawn0.refl _ | apply Drawn0.step)⟩
 rw [if_pos c3] at H
 have c3b0 : ((l0.length : Int) == (l1.length : Int)) = true := beq_iff_eq.mpr c3
 have c3b1 : ((l0.length : Int) != (l1.length : Int)) = false := bne_eq_false_iff_eq.mpr c3
 have c3b2 : (l0.length == l1.length) = true := by first | simpa using c3 | (simp at c3 ⊢; omega)
 clear c3
 have H' := A_.mk H
 clear H
 go_enter Try.func73, Try.ntmps73
 go_wp2
 repeat (go_quiet (fail); try go_wp2)
 go_loopg [13] k (fun kq v13 w' => ∃ (x13_1 : Int), v13 = .int .i64 x13_1 ∧ A_ (slices_Equal_int_int.l0 kq l0 l1 (l0.length : Int) x13_1 = some r) ∧ A_ (kq ≤ k) ∧ Drawn0 w w')
 case atStart => exact ⟨(0), (by first | rfl | (simp; done) | (simp [*]; done)), H', ⟨Nat.le_refl _⟩, by repeat (first | exact Drawn0.refl _ | apply Drawn0.step)⟩
 case round =>
  clear H'
  obtain ⟨x13_1, rfl, HA, HK1, ⟨m1, rfl⟩⟩ := hrel
  cases gk with
  | zero => exact absurd HA.out (by simp [slices_Equal_int_int.l0])
  | succ k1 =>
   have H := HA.out
   clear HA
   simp only [slices_Equal_int_int.l0] at H
   by_cases c4 : x13_1 < (l0.length : Int)
   rotate_left
   ·rw [if_neg c4] at H
    have c4b0 : decide (x13_1 < (l0.length : Int)) = false := decide_eq_false c4
    clear c4
    obtain rfl := Option.some.inj H
    go_wp2
    repeat (go_quiet (fail); try go_wp2)
    go_ret
    exact ⟨by first | rfl | (simp; done) | (simp [*]; done), by repeat (first | exact Drawn0.refl _ | apply Drawn0.step)⟩
   rw [if_pos c4] at H
   have c4b0 : decide (x13_1 < (l0.length : Int)) = true := decide_eq_true c4
   clear c4
   by_cases c5 : 0 ≤ x13_1
   rotate_left
   ·rw [if_neg c5] at H
    exact absurd H (by simp)
   rw [if_pos c5] at H
   have c5b0 : decide (0 ≤ x13_1) = true := decide_eq_true c5
   clear c5
   by_cases c6 : x13_1 < (l0.length : Int)
   rotate_left
   ·rw [if_neg c6] at H
    exact absurd H (by simp)
   rw [if_pos c6] at H
   have c6b0 : decide (x13_1 < (l0.length : Int)) = true := decide_eq_true c6
   clear c6
   by_cases c7 : x13_1 < (l1.length : Int)
   rotate_left
   ·rw [if_neg c7] at H
    exact absurd H (by simp)
   rw [if_pos c7] at H
   have c7b0 : decide (x13_1 < (l1.length : Int)) = true := decide_eq_true c7
   clear c7
   by_cases c8 : (rd l0 x13_1) = (rd l1 x13_1)
   rotate_left
   ·rw [if_neg c8] at H
    have c8b0 : ((rd l0 x13_1) == (rd l1 x13_1)) = false := beq_eq_false_iff_ne.mpr c8
    have c8b1 : ((rd l0 x13_1) != (rd l1 x13_1)) = true := bne_iff_ne.mpr c8
    obtain rfl := Option.some.inj H
    have p237 : 0 ≤ (x13_1 : Int) := od_
    have q237 : x13_1 < (l0.length : Int) := od_
    obtain ⟨ad237, e237, hx237_0⟩ := Kd.at_int HR0.out x13_1 p237 q237
    cases e237
    replace p237 := eq_true p237
    replace q237 := eq_true q237
    have p238 : 0 ≤ (x13_1 : Int) := od_
    have q238 : x13_1 < (l1.length : Int) := od_
    obtain ⟨ad238, e238, hx238_0⟩ := Kd.at_int HR1.out x13_1 p238 q238
    cases e238
    replace p238 := eq_true p238
    replace q238 := eq_true q238
    go_wp2
    repeat (go_quiet (fail); try go_wp2)
    go_ret
    exact ⟨by first | rfl | (simp; done) | (simp [*]; done), by repeat (first | exact Drawn0.refl _ | apply Drawn0.step)⟩
   rw [if_pos c8] at H
   have c8b0 : ((rd l0 x13_1) == (rd l1 x13_1)) = true := beq_iff_eq.mpr c8
   have c8b1 : ((rd l0 x13_1) != (rd l1 x13_1)) = false := bne_eq_false_iff_eq.mpr c8
   clear c8
   have H' := A_.mk H
   clear H
   have p237 : 0 ≤ (x13_1 : Int) := od_
   have q237 : x13_1 < (l0.length : Int) := od_
   obtain ⟨ad237, e237, hx237_0⟩ := Kd.at_int HR0.out x13_1 p237 q237
   cases e237
   replace p237 := eq_true p237
   replace q237 := eq_true q237
   have p238 : 0 ≤ (x13_1 : Int) := od_
   have q238 : x13_1 < (l1.length : Int) := od_
   obtain ⟨ad238, e238, hx238_0⟩ := Kd.at_int HR1.out x13_1 p238 q238
   cases e238
   replace p238 := eq_true p238
   replace q238 := eq_true q238
   go_wp2
   repeat (go_quiet (fail); try go_wp2)
   go_roundg k1
   case measure => have := HK1.out; omega
   case rel => exact ⟨(wrap64 (x13_1 + 1)), (by first | rfl | (simp; done) | (simp [*]; done)), H', ⟨by have := HK1.out; omega⟩, by repeat (first | exact Drawn0.refl _ | apply Drawn0.step)⟩
/-! ### impl_SameCredits: function 30, its calls in a row -/
def impl_SameCredits.f (k : Nat) (l0_0 : List Int) (l0_1 : List Int) (l1_0 : List Int) (l1_1 : List Int) : Option ((Bool)) := ((slices_Equal_int_int.f k l0_0 l1_0).bind fun t1 => (if t1 = true then ((slices_Equal_int_int.f k l0_1 l1_1).bind fun t2 => (some (t2))) else (some (false))))
set_option maxHeartbeats 8000000 in
set_option maxRecDepth 100000 in
theorem impl_SameCredits.calls (k : Nat) (A0_0 : Option Addr) (c0_0 : Nat) (l0_0 : List Int) (A0_1 : Option Addr) (c0_1 : Nat) (l0_1 : List Int) (A1_0 : Option Addr) (c1_0 : Nat) (l1_0 : List Int) (A1_1 : Option Addr) (c1_1 : Nat) (l1_1 : List Int) (r : Bool) (w : World) (hr0_0 : Kd.C (Kd.int .i64) w A0_0 l0_0.length l0_0) (hc0_0 : l0_0.length ≤ c0_0) (hr0_1 : Kd.C (Kd.int .i64) w A0_1 l0_1.length l0_1) (hc0_1 : l0_1.length ≤ c0_1) (hr1_0 : Kd.C (Kd.int .i64) w A1_0 l1_0.length l1_0) (hc1_0 : l1_0.length ≤ c1_0) (hr1_1 : Kd.C (Kd.int .i64) w A1_1 l1_1.length l1_1) (hc1_1 : l1_1.length ≤ c1_1) (h : impl_SameCredits.f k l0_0 l0_1 l1_0 l1_1 = some r) :
  Calls Try.prog 30 #[.agg #[.slice A0_0 l0_0.length c0_0, .slice A0_1 l0_1.length c0_1], .agg #[.slice A1_0 l1_0.length c1_0, .slice A1_1 l1_1.length c1_1]] w fun e w' => e = .returned (.bool r) ∧ Below w.heap.size w w' := by
 have HR0_0 := A_.mk hr0_0
 have HC0_0 := A_.mk hc0_0
 clear hr0_0 hc0_0
 have HR0_1 := A_.mk hr0_1
 have HC0_1 := A_.mk hc0_1
 clear hr0_1 hc0_1
 have HR1_0 := A_.mk hr1_0
 have HC1_0 := A_.mk hc1_0
 clear hr1_0 hc1_0
 have HR1_1 := A_.mk hr1_1
 have HC1_1 := A_.mk hc1_1
 clear hr1_1 hc1_1
 have HB := A_.mk (Below.refl w.heap.size w)
 unfold impl_SameCredits.f at h
 have H := h
 clear h
 replace H := oa_ H
 obtain ⟨t1, A3, H⟩ := H
 replace H := A_.mk H
 have hu30 := Try.underlying30
 go_enter Try.func30, Try.ntmps30
 have HS := A_.mk (Nat.le_refl w.heap.size)
 go_wp2_with (first | ((with_reducible refine gd_ (N := 2) rfl ?_); refine by_ 2 (cs := #[.slice A0_0 l0_0.length c0_0, .slice A0_1 l0_1.length c0_1]) (t := 30) ?_; intro gb1_ hg w1_ hbox hb; replace HS := A_.mk (And.intro HS.out (show gb1_ = w.heap.size ∧ gb1_ < w1_.heap.size from ⟨hg, blk_lt hbox⟩)); replace HB := aHB HB hb; have BK1 := A_.mk hbox; clear hbox hb hg; have Q1 := blk2_ BK1.out) | ((with_reducible refine gd_ (N := 3) rfl ?_); refine by_ 3 (cs := #[.slice A1_0 l1_0.length c1_0, .slice A1_1 l1_1.length c1_1]) (t := 30) ?_; intro gb2_ hg w2_ hbox hb; replace HS := A_.mk (And.intro HS.out (show gb2_ = w1_.heap.size ∧ gb2_ < w2_.heap.size from ⟨hg, blk_lt hbox⟩)); replace BK1 := aBb BK1 hb; replace HB := aHB HB hb; have BK2 := A_.mk hbox; clear hbox hb hg Q1; have Q1 := blk2_ BK1.out; have Q2 := blk2_ BK2.out))
 (with_reducible refine (slices_Equal_int_int.calls k _ _ l0_0 _ _ l1_0 t1 _ (Kd.C_below HR0_0.out HB.out) HC0_0.out (Kd.C_below HR1_0.out HB.out) HC1_0.out A3.out).mono ?_)
 rintro e w3_ ⟨rfl, hb⟩
 replace hb := Drawn0.below hb
 replace HS := aHs HS hb.size
 replace BK1 := aBb BK1 hb
 replace BK2 := aBb BK2 hb
 replace HB := aHB HB hb
 clear hb  Q1 Q2
 have Q1 := blk2_ BK1.out
 have Q2 := blk2_ BK2.out
 replace H := H.out
 by_cases hc1_ : t1 = true
 case pos =>
  rw [if_pos hc1_] at H
  subst hc1_
  replace H := oa_ H
  obtain ⟨t2, A4, H⟩ := H
  replace H := Option.some.inj H
  subst H
  go_wp2_with (fail)
  (with_reducible refine (slices_Equal_int_int.calls k _ _ l0_1 _ _ l1_1 t2 _ (Kd.C_below HR0_1.out HB.out) HC0_1.out (Kd.C_below HR1_1.out HB.out) HC1_1.out A4.out).mono ?_)
  rintro e w4_ ⟨rfl, hb⟩
  replace hb := Drawn0.below hb
  replace HS := aHs HS hb.size
  replace BK1 := aBb BK1 hb
  replace BK2 := aBb BK2 hb
  replace HB := aHB HB hb
  clear hb  Q1 Q2
  have Q1 := blk2_ BK1.out
  have Q2 := blk2_ BK2.out
  go_wp2
  go_ret
  exact ⟨rfl, HB.out⟩
 rw [if_neg hc1_] at H
 replace hc1_ := eq_false_of_ne_true hc1_
 subst hc1_
 replace H := Option.some.inj H
 subst H
 go_wp2
 go_ret
 exact ⟨rfl, HB.out⟩
/-! ### impl_within: function 52 -/
def impl_within.f (a0 : Int) (a1 : Int) (a2 : Int) : Option (Bool) := if a0 ≥ a1 then (some (decide (a0 ≤ a2))) else (some false)
set_option maxHeartbeats 8000000 in
set_option maxRecDepth 100000 in
theorem impl_within.calls (a0 : Int) (a1 : Int) (a2 : Int) (r : Bool) (w : World) (h : impl_within.f a0 a1 a2 = some r) :
  Calls Try.prog 52 #[.int .i64 a0, .int .i64 a1, .int .i64 a2] w fun e w' => e = .returned (.bool r) ∧ Drawn0 w w' := by
 have H : (if a0 ≥ a1 then (some (decide (a0 ≤ a2))) else (some false)) = some r := h
 clear h
 by_cases c4 : a0 ≥ a1
 ·rw [if_pos c4] at H
  have c4b0 : decide (a1 ≤ a0) = true := decide_eq_true c4
  clear c4
  obtain rfl := Option.some.inj H
  go_enter Try.func52, Try.ntmps52
  go_wp2
  go_ret
  exact ⟨by first | rfl | (simp; done) | (simp [*]; done), by repeat (first | exact Drawn0.refl _ | apply Drawn0.step)⟩
 ·rw [if_neg c4] at H
  have c4b0 : decide (a1 ≤ a0) = false := decide_eq_false c4
  clear c4
  obtain rfl := Option.some.inj H
  go_enter Try.func52, Try.ntmps52
  go_wp2
  go_ret
  exact ⟨by first | rfl | (simp; done) | (simp [*]; done), by repeat (first | exact Drawn0.refl _ | apply Drawn0.step)⟩

/-! ### impl_areCredits_1: function 95 -/
def impl_areCredits_1.f (a0 : Int) : Option (Bool) := (impl_within.f a0 0 30).bind fun t239 => (some (!t239))
set_option maxHeartbeats 8000000 in
set_option maxRecDepth 100000 in
theorem impl_areCredits_1.calls (a0 : Int) (r : Bool) (w : World) (h : impl_areCredits_1.f a0 = some r) :
  Calls Try.prog 95 #[.int .i64 a0] w fun e w' => e = .returned (.bool r) ∧ Drawn0 w w' := by
 have H : ((impl_within.f a0 0 30).bind fun t239 => (some (!t239))) = some r := h
 clear h
 replace H := ob_ H
 obtain ⟨t239, A20, H⟩ := H
 have A2 := A_.mk A20
 clear A20
 obtain rfl := Option.some.inj H
 go_enter Try.func95, Try.ntmps95
 go_wp2_with (first | ((with_reducible refine gc_ (f := 52) rfl ?_); refine gl_ (some 4) Try.func52 #[.int .i64 a0, .int .i64 0, .int .i64 30] ?_; (with_reducible refine (impl_within.calls a0 0 30 t239 _ A2.out).mono ?_); rintro e w' ⟨rfl, ⟨nd, rfl⟩⟩; refine ⟨_, rfl, ?_⟩))
 go_ret
 exact ⟨by first | rfl | (simp; done) | (simp [*]; done), by repeat (first | exact Drawn0.refl _ | apply Drawn0.step)⟩

/-! ### slices_IndexFunc_int_int__impl_areCredits_1: function 100 -/
def slices_IndexFunc_int_int__impl_areCredits_1.l0 : Nat → List Int → Int → Int → Option (Int)
 | 0, _, _, _ => none
 | k + 1, x0, x7, x8 => if x8 < x7 then (if 0 ≤ x8 then (if x8 < (x0.length : Int) then ((impl_areCredits_1.f (rd x0 x8)).bind fun t241 => (if t241 = true then (some x8) else (slices_IndexFunc_int_int__impl_areCredits_1.l0 k x0 x7 (wrap64 (x8 + 1))))) else (none)) else (none)) else (some (-1))
def slices_IndexFunc_int_int__impl_areCredits_1.f (k : Nat) (l0 : List Int)  : Option (Int) := slices_IndexFunc_int_int__impl_areCredits_1.l0 k l0 (l0.length : Int) 0
set_option maxHeartbeats 8000000 in
set_option maxRecDepth 100000 in
theorem slices_IndexFunc_int_int__impl_areCredits_1.calls (k : Nat) (A0 : Option Addr) (c0 : Nat) (l0 : List Int)  (r : Int) (w : World) (hr0 : Kd.C (Kd.int .i64) w A0 l0.length l0) (hc0 : l0.length ≤ c0) (h : slices_IndexFunc_int_int__impl_areCredits_1.f k l0 = some r) :
  Calls Try.prog 100 #[.slice A0 l0.length c0, .func (.func 95) #[] #[]] w fun e w' => e = .returned (.int .i64 r) ∧ Drawn0 w w' := by
 have HR0 := A_.mk hr0
 have HC0 := A_.mk hc0
 clear hr0 hc0
 have H : (slices_IndexFunc_int_int__impl_areCredits_1.l0 k l0 (l0.length : Int) 0) = some r := h
 clear h
 have H' := A_.mk H
 clear H
 go_enter Try.func100, Try.ntmps100
 go_wp2
 go_loopg [8] k (fun kq v8 w' => ∃ (x8_1 : Int), v8 = .int .i64 x8_1 ∧ A_ (slices_IndexFunc_int_int__impl_areCredits_1.l0 kq l0 (l0.length : Int) x8_1 = some r) ∧ A_ (kq ≤ k) ∧ Drawn0 w w')
 case atStart => exact ⟨(0), (by first | rfl | (simp; done) | (simp [*]; done)), H', ⟨Nat.le_refl _⟩, by repeat (first | exact Drawn0.refl _ | apply Drawn0.step)⟩
 case round =>
  clear H'
  obtain ⟨x8_1, rfl, HA, HK1, ⟨m1, rfl⟩⟩ := hrel
  cases gk with
  | zero => exact absurd HA.out (by simp [slices_IndexFunc_int_int__impl_areCredits_1.l0])
  | succ k1 =>
   have H := HA.out
   clear HA
   simp only [slices_IndexFunc_int_int__impl_areCredits_1.l0] at H
   by_cases c3 : x8_1 < (l0.length : Int)
   rotate_left
   ·rw [if_neg c3] at H
    have c3b0 : decide (x8_1 < (l0.length : Int)) = false := decide_eq_false c3
    clear c3
    obtain rfl := Option.some.inj H
    go_wp2
    go_ret
    exact ⟨by first | rfl | (simp; done) | (simp [*]; done), by repeat (first | exact Drawn0.refl _ | apply Drawn0.step)⟩
   rw [if_pos c3] at H
   have c3b0 : decide (x8_1 < (l0.length : Int)) = true := decide_eq_true c3
   clear c3
   by_cases c4 : 0 ≤ x8_1
   rotate_left
   ·rw [if_neg c4] at H
    exact absurd H (by simp)
   rw [if_pos c4] at H
   have c4b0 : decide (0 ≤ x8_1) = true := decide_eq_true c4
   clear c4
   by_cases c5 : x8_1 < (l0.length : Int)
   rotate_left
   ·rw [if_neg c5] at H
    exact absurd H (by simp)
   rw [if_pos c5] at H
   have c5b0 : decide (x8_1 < (l0.length : Int)) = true := decide_eq_true c5
   clear c5
   replace H := ob_ H
   obtain ⟨t241, A60, H⟩ := H
   have A6 := A_.mk A60
   clear A60
   by_cases c7 : t241 = true
   ·subst c7
    have H1 : (some x8_1) = some r := by rw [if_pos rfl] at H; exact H
    clear H
    have H := H1
    clear H1
    obtain rfl := Option.some.inj H
    have p240 : 0 ≤ (x8_1 : Int) := od_
    have q240 : x8_1 < (l0.length : Int) := od_
    obtain ⟨ad240, e240, hx240_0⟩ := Kd.at_int HR0.out x8_1 p240 q240
    cases e240
    replace p240 := eq_true p240
    replace q240 := eq_true q240
    go_wp2_with (first | (go_at_call 95; (with_reducible refine (impl_areCredits_1.calls (rd l0 x8_1) true _ A6.out).mono ?_); rintro e w' ⟨rfl, ⟨nd, rfl⟩⟩))
    go_ret
    exact ⟨by first | rfl | (simp; done) | (simp [*]; done), by repeat (first | exact Drawn0.refl _ | apply Drawn0.step)⟩
   replace c7 := Bool.eq_false_iff.mpr c7
   subst c7
   have H1 : (slices_IndexFunc_int_int__impl_areCredits_1.l0 k1 l0 (l0.length : Int) (wrap64 (x8_1 + 1))) = some r := by rw [if_neg (show ¬ (false = true) by decide)] at H; exact H
   clear H
   have H := H1
   clear H1
   have H' := A_.mk H
   clear H
   have p240 : 0 ≤ (x8_1 : Int) := od_
   have q240 : x8_1 < (l0.length : Int) := od_
   obtain ⟨ad240, e240, hx240_0⟩ := Kd.at_int HR0.out x8_1 p240 q240
   cases e240
   replace p240 := eq_true p240
   replace q240 := eq_true q240
   go_wp2_with (first | (go_at_call 95; (with_reducible refine (impl_areCredits_1.calls (rd l0 x8_1) false _ A6.out).mono ?_); rintro e w' ⟨rfl, ⟨nd, rfl⟩⟩))
   go_roundg k1
   case measure => have := HK1.out; omega
   case rel => exact ⟨(wrap64 (x8_1 + 1)), (by first | rfl | (simp; done) | (simp [*]; done)), H', ⟨by have := HK1.out; omega⟩, by repeat (first | exact Drawn0.refl _ | apply Drawn0.step)⟩
/-! ### slices_ContainsFunc_int_int__impl_areCredits_1: function 94 -/
def slices_ContainsFunc_int_int__impl_areCredits_1.f (k : Nat) (l0 : List Int)  : Option (Bool) := (slices_IndexFunc_int_int__impl_areCredits_1.f k l0).bind fun t242 => (some (decide (t242 ≥ 0)))
set_option maxHeartbeats 8000000 in
set_option maxRecDepth 100000 in
theorem slices_ContainsFunc_int_int__impl_areCredits_1.calls (k : Nat) (A0 : Option Addr) (c0 : Nat) (l0 : List Int)  (r : Bool) (w : World) (hr0 : Kd.C (Kd.int .i64) w A0 l0.length l0) (hc0 : l0.length ≤ c0) (h : slices_ContainsFunc_int_int__impl_areCredits_1.f k l0 = some r) :
  Calls Try.prog 94 #[.slice A0 l0.length c0, .func (.func 95) #[] #[]] w fun e w' => e = .returned (.bool r) ∧ Drawn0 w w' := by
 have HR0 := A_.mk hr0
 have HC0 := A_.mk hc0
 clear hr0 hc0
 have H : ((slices_IndexFunc_int_int__impl_areCredits_1.f k l0).bind fun t242 => (some (decide (t242 ≥ 0)))) = some r := h
 clear h
 replace H := ob_ H
 obtain ⟨t242, A30, H⟩ := H
 have A3 := A_.mk A30
 clear A30
 obtain rfl := Option.some.inj H
 go_enter Try.func94, Try.ntmps94
 go_wp2_with (first | ((with_reducible refine gc_ (f := 100) rfl ?_); refine gl_ (some 7) Try.func100 #[.slice A0 l0.length c0, .func (.func 95) #[] #[]] ?_; (with_reducible refine (slices_IndexFunc_int_int__impl_areCredits_1.calls k _ _ l0  t242 _ ?side1 ?side2 A3.out).mono ?_); (case side1 => exact cY (HR0.out)); (case side2 => exact HC0.out); rintro e w' ⟨rfl, ⟨nd, rfl⟩⟩; refine ⟨_, rfl, ?_⟩))
 go_ret
 exact ⟨by first | rfl | (simp; done) | (simp [*]; done), by repeat (first | exact Drawn0.refl _ | apply Drawn0.step)⟩

/-! ### impl_areCredits: function 76 -/
def impl_areCredits.f (k : Nat) (l0 : List Int) : Option (Bool) := if (l0.length : Int) = 3 then ((slices_ContainsFunc_int_int__impl_areCredits_1.f k l0).bind fun t243 => (some (!t243))) else (some false)
set_option maxHeartbeats 8000000 in
set_option maxRecDepth 100000 in
theorem impl_areCredits.calls (k : Nat) (A0 : Option Addr) (c0 : Nat) (l0 : List Int) (r : Bool) (w : World) (hr0 : Kd.C (Kd.int .i64) w A0 l0.length l0) (hc0 : l0.length ≤ c0) (h : impl_areCredits.f k l0 = some r) :
  Calls Try.prog 76 #[.slice A0 l0.length c0] w fun e w' => e = .returned (.bool r) ∧ Drawn0 w w' := by
 have HR0 := A_.mk hr0
 have HC0 := A_.mk hc0
 clear hr0 hc0
 have H : (if (l0.length : Int) = 3 then ((slices_ContainsFunc_int_int__impl_areCredits_1.f k l0).bind fun t243 => (some (!t243))) else (some false)) = some r := h
 clear h
 by_cases c2 : (l0.length : Int) = 3
 ·rw [if_pos c2] at H
  have c2b0 : ((l0.length : Int) == 3) = true := beq_iff_eq.mpr c2
  have c2b1 : ((l0.length : Int) != 3) = false := bne_eq_false_iff_eq.mpr c2
  clear c2
  replace H := ob_ H
  obtain ⟨t243, A30, H⟩ := H
  have A3 := A_.mk A30
  clear A30
  obtain rfl := Option.some.inj H
  go_enter Try.func76, Try.ntmps76
  go_wp2_with (first | (go_at_call 94; (with_reducible refine (slices_ContainsFunc_int_int__impl_areCredits_1.calls k _ _ l0  t243 _ ?side1 ?side2 A3.out).mono ?_); (case side1 => exact cY (HR0.out)); (case side2 => exact HC0.out); rintro e w' ⟨rfl, ⟨nd, rfl⟩⟩))
  go_ret
  exact ⟨by first | rfl | (simp; done) | (simp [*]; done), by repeat (first | exact Drawn0.refl _ | apply Drawn0.step)⟩
 ·rw [if_neg c2] at H
  have c2b0 : ((l0.length : Int) == 3) = false := beq_eq_false_iff_ne.mpr c2
  have c2b1 : ((l0.length : Int) != 3) = true := bne_iff_ne.mpr c2
  obtain rfl := Option.some.inj H
  go_enter Try.func76, Try.ntmps76
  go_wp2
  go_ret
  exact ⟨by first | rfl | (simp; done) | (simp [*]; done), by repeat (first | exact Drawn0.refl _ | apply Drawn0.step)⟩

/-! ### impl_CreditsOk: function 40, its calls in a row -/
def impl_CreditsOk.f (k : Nat) (l0_0 : List Int) (l0_1 : List Int) : Option ((Bool)) := ((impl_areCredits.f k l0_0).bind fun t1 => (if t1 = true then ((impl_areCredits.f k l0_1).bind fun t2 => (some (t2))) else (some (false))))
set_option maxHeartbeats 8000000 in
set_option maxRecDepth 100000 in
theorem impl_CreditsOk.calls (k : Nat) (A0_0 : Option Addr) (c0_0 : Nat) (l0_0 : List Int) (A0_1 : Option Addr) (c0_1 : Nat) (l0_1 : List Int) (r : Bool) (w : World) (hr0_0 : Kd.C (Kd.int .i64) w A0_0 l0_0.length l0_0) (hc0_0 : l0_0.length ≤ c0_0) (hr0_1 : Kd.C (Kd.int .i64) w A0_1 l0_1.length l0_1) (hc0_1 : l0_1.length ≤ c0_1) (h : impl_CreditsOk.f k l0_0 l0_1 = some r) :
  Calls Try.prog 40 #[.agg #[.slice A0_0 l0_0.length c0_0, .slice A0_1 l0_1.length c0_1]] w fun e w' => e = .returned (.bool r) ∧ Below w.heap.size w w' := by
 have HR0_0 := A_.mk hr0_0
 have HC0_0 := A_.mk hc0_0
 clear hr0_0 hc0_0
 have HR0_1 := A_.mk hr0_1
 have HC0_1 := A_.mk hc0_1
 clear hr0_1 hc0_1
 have HB := A_.mk (Below.refl w.heap.size w)
 unfold impl_CreditsOk.f at h
 have H := h
 clear h
 replace H := oa_ H
 obtain ⟨t1, A2, H⟩ := H
 replace H := A_.mk H
 have hu30 := Try.underlying30
 go_enter Try.func40, Try.ntmps40
 have HS := A_.mk (Nat.le_refl w.heap.size)
 go_wp2_with (first | ((with_reducible refine gd_ (N := 1) rfl ?_); refine by_ 1 (cs := #[.slice A0_0 l0_0.length c0_0, .slice A0_1 l0_1.length c0_1]) (t := 30) ?_; intro gb1_ hg w1_ hbox hb; replace HS := A_.mk (And.intro HS.out (show gb1_ = w.heap.size ∧ gb1_ < w1_.heap.size from ⟨hg, blk_lt hbox⟩)); replace HB := aHB HB hb; have BK1 := A_.mk hbox; clear hbox hb hg; have Q1 := blk2_ BK1.out))
 (with_reducible refine (impl_areCredits.calls k _ _ l0_0 t1 _ (Kd.C_below HR0_0.out HB.out) HC0_0.out A2.out).mono ?_)
 rintro e w2_ ⟨rfl, hb⟩
 replace hb := Drawn0.below hb
 replace HS := aHs HS hb.size
 replace BK1 := aBb BK1 hb
 replace HB := aHB HB hb
 clear hb  Q1
 have Q1 := blk2_ BK1.out
 replace H := H.out
 by_cases hc1_ : t1 = true
 case pos =>
  rw [if_pos hc1_] at H
  subst hc1_
  replace H := oa_ H
  obtain ⟨t2, A3, H⟩ := H
  replace H := Option.some.inj H
  subst H
  go_wp2_with (fail)
  (with_reducible refine (impl_areCredits.calls k _ _ l0_1 t2 _ (Kd.C_below HR0_1.out HB.out) HC0_1.out A3.out).mono ?_)
  rintro e w3_ ⟨rfl, hb⟩
  replace hb := Drawn0.below hb
  replace HS := aHs HS hb.size
  replace BK1 := aBb BK1 hb
  replace HB := aHB HB hb
  clear hb  Q1
  have Q1 := blk2_ BK1.out
  go_wp2
  go_ret
  exact ⟨rfl, HB.out⟩
 rw [if_neg hc1_] at H
 replace hc1_ := eq_false_of_ne_true hc1_
 subst hc1_
 replace H := Option.some.inj H
 subst H
 go_wp2
 go_ret
 exact ⟨rfl, HB.out⟩


end Go.Proofs.Ytlombfmebinjbaa.PFnExactTellCredits
