-- Written by a program of this session (wip/xp): not trusted, Lean checks it.
import Derived.Test.YtmdehehgmnihpaaPFnLinkStepsx0
import Derived.Test.YtmdehehgmnihpaaPFnLinkStepsx3
import Derived.Test.YtmdehehgmnihpaaPFnLinkStepsx4
import Derived.Test.YtmdehehgmnihpaaPFnLinkStepsx5
import Derived.Test.YtmdehehgmnihpaaPFnLinkStepsx13
namespace Go.Proofs.Ytmdehehgmnihpaa.PFnLinkSteps
open Go.RowKit Go.Proofs.YtmdehehgmnihpaaW.PrintWords Go.Proofs.YtmdehehgmnihpaaW.PrintLast Go.Proofs.YtmdehehgmnihpaaW.PrintMore
attribute [local go_sem] max2_int min2_int max_two min_two max_three min_three max_four min_four   -- for this text's walks alone
set_option linter.unusedVariables false
set_option linter.unusedSimpArgs false

/-! ### impl_RunLink: function 6, its calls in a row -/
def impl_RunLink.l8 : Nat → (List S44) → (Int) → (Int) → (Int) → (List S66) → (Int) → (Int) → (List (List Int)) → (List (List Int)) → (List Int) → Option ((Int) × (Int) × (Int) × (List S66) × (Int) × (Int) × (List (List Int)) × (List (List Int)) × (List Int))
 | 0, _, _, _, _, _, _, _, _, _, _ => none
 | k + 1, y10, x8_s7, x8_s22, x8_0, x8_1, x8_2, x8_3, x8_4, x8_5, x8_6 => (if x8_s22 < (y10.length : Int) then (if 0 ≤ x8_s22 then (if x8_s22 < (y10.length : Int) then ((impl_Link_step.f k x8_0 x8_1 x8_2 x8_3 x8_4 x8_5 x8_6 ((rd_T44 y10 x8_s22).f0) ((rd_T44 y10 x8_s22).f1)).bind fun ⟨t11, t12, t13, t14, t15, t16, t17, t18⟩ => (if t11 = true then (impl_RunLink.l8 k y10 (wrap64 (x8_s7 + 1)) (wrap64 (x8_s22 + 1)) t12 t13 t14 t15 t16 t17 t18) else (impl_RunLink.l8 k y10 x8_s7 (wrap64 (x8_s22 + 1)) t12 t13 t14 t15 t16 t17 t18))) else none) else none) else (some (x8_s7, x8_s22, x8_0, x8_1, x8_2, x8_3, x8_4, x8_5, x8_6)))
def impl_RunLink.f (k : Nat) (a0_0 : Int) (l0_1 : List (S66)) (a0_2 : Int) (a0_3 : Int) (l0_4 : List (List Int)) (l0_5 : List (List Int)) (l0_6 : List Int) (l1 : List (S44)) : Option ((Int) × (List (S66)) × (Int) × (Int) × (List (List Int)) × (List (List Int)) × (List Int) × (Int)) := ((impl_copyLink.f k a0_0 l0_1 a0_2 a0_3 l0_4 l0_5 l0_6).bind fun ⟨t1, t2, t3, t4, t5, t6, t7⟩ => ((impl_LinkOk.f k a0_0 l0_1 a0_2 a0_3 l0_4 l0_5 l0_6).bind fun t8 => (if t8 = true then (if 0 ≤ (mn (l1.length : Int) 400) ∧ (mn (l1.length : Int) 400) ≤ (l1.length : Int) then ((impl_RunLink.l8 k (l1.take ((mn (l1.length : Int) 400)).toNat) 0 0 t1 t2 t3 t4 t5 t6 t7).bind fun ⟨z8_s7, z8_s22, z8_0, z8_1, z8_2, z8_3, z8_4, z8_5, z8_6⟩ => (some (z8_0, z8_1, z8_2, z8_3, z8_4, z8_5, z8_6, z8_s7))) else none) else (some (t1, t2, t3, t4, t5, t6, t7, 0)))))
set_option maxHeartbeats 8000000 in
set_option maxRecDepth 100000 in
theorem impl_RunLink.calls (k : Nat) (a0_0 : Int) (A0_1 : Option Addr) (c0_1 : Nat) (l0_1 : List (S66)) (a0_2 : Int) (a0_3 : Int) (A0_4 : Option Addr) (c0_4 : Nat) (l0_4 : List (List Int)) (A0_5 : Option Addr) (c0_5 : Nat) (l0_5 : List (List Int)) (A0_6 : Option Addr) (c0_6 : Nat) (l0_6 : List Int) (A1 : Option Addr) (c1 : Nat) (l1 : List (S44)) (r1 : Int) (r2 : List (S66)) (r3 : Int) (r4 : Int) (r5 : List (List Int)) (r6 : List (List Int)) (r7 : List Int) (r8 : Int) (w : World) (hr0_1 : Kd.C k66 w A0_1 l0_1.length l0_1) (hc0_1 : l0_1.length ≤ c0_1) (hr0_4 : Kd.C (Kd.slice 3 (Kd.int .i64)) w A0_4 l0_4.length l0_4) (hc0_4 : l0_4.length ≤ c0_4) (hr0_5 : Kd.C (Kd.slice 3 (Kd.int .i64)) w A0_5 l0_5.length l0_5) (hc0_5 : l0_5.length ≤ c0_5) (hr0_6 : Kd.C (Kd.int .i64) w A0_6 l0_6.length l0_6) (hc0_6 : l0_6.length ≤ c0_6) (hr1 : Kd.C k44 w A1 l1.length l1) (hc1 : l1.length ≤ c1) (h : impl_RunLink.f k a0_0 l0_1 a0_2 a0_3 l0_4 l0_5 l0_6 l1 = some (r1, r2, r3, r4, r5, r6, r7, r8)) :
  Calls Try.prog 6 #[.agg #[.int .i64 a0_0, .slice A0_1 l0_1.length c0_1, .int .i64 a0_2, .int .i64 a0_3, .slice A0_4 l0_4.length c0_4, .slice A0_5 l0_5.length c0_5, .slice A0_6 l0_6.length c0_6], .slice A1 l1.length c1] w fun e w' => ∃ f_ : Nat → Nat, ∃ v0_ v1_ v2_ v3_ : Value, e = .returned (.tuple #[.agg #[.int .i64 r1, v0_, .int .i64 r3, .int .i64 r4, v1_, v2_, v3_], .int .i64 r8]) ∧ Kd.S k66 66 w' w.heap.size (fun k_ => f_ k_ = 0) v0_ r2 ∧ Kd.S (Kd.slice 3 (Kd.int .i64)) 32 w' w.heap.size (fun k_ => f_ k_ = 1) v1_ r5 ∧ Kd.S (Kd.slice 3 (Kd.int .i64)) 32 w' w.heap.size (fun k_ => f_ k_ = 2) v2_ r6 ∧ Kd.R (Kd.int .i64) 3 w' w.heap.size (fun k_ => f_ k_ = 3) v3_ r7 ∧ Below w.heap.size w w' := by
 have HR0_1 := A_.mk hr0_1
 have HC0_1 := A_.mk hc0_1
 clear hr0_1 hc0_1
 have HR0_4 := A_.mk hr0_4
 have HC0_4 := A_.mk hc0_4
 clear hr0_4 hc0_4
 have HR0_5 := A_.mk hr0_5
 have HC0_5 := A_.mk hc0_5
 clear hr0_5 hc0_5
 have HR0_6 := A_.mk hr0_6
 have HC0_6 := A_.mk hc0_6
 clear hr0_6 hc0_6
 have HR1 := A_.mk hr1
 have HC1 := A_.mk hc1
 clear hr1 hc1
 have HB := A_.mk (Below.refl w.heap.size w)
 unfold impl_RunLink.f at h
 have H := h
 clear h
 replace H := oa_ H
 obtain ⟨⟨t1, t2, t3, t4, t5, t6, t7⟩, A3, H⟩ := H
 try dsimp only at H
 replace H := oa_ H
 obtain ⟨t8, A6, H⟩ := H
 replace H := A_.mk H
 have hu34 := Try.underlying34
 have hu44 := Try.underlying44
 go_enter Try.func6, Try.ntmps6
 have HS := A_.mk (Nat.le_refl w.heap.size)
 go_wp2_with (first | ((with_reducible refine gd_ (N := 2) rfl ?_); refine by_ 2 (cs := #[.int .i64 a0_0, .slice A0_1 l0_1.length c0_1, .int .i64 a0_2, .int .i64 a0_3, .slice A0_4 l0_4.length c0_4, .slice A0_5 l0_5.length c0_5, .slice A0_6 l0_6.length c0_6]) (t := 34) ?_; intro gb1_ hg w1_ hbox hb; replace HS := A_.mk (And.intro HS.out (show gb1_ = w.heap.size ∧ gb1_ < w1_.heap.size from ⟨hg, blk_lt hbox⟩)); replace HB := aHB HB hb; have BK1 := A_.mk hbox; clear hbox hb hg; have Q1 := blk7_ BK1.out) | ((with_reducible refine gd_ (N := 4) rfl ?_); refine by_ 4 (cs := #[.int .i64 0, .slice none 0 0, .int .i64 0, .int .i64 0, .slice none 0 0, .slice none 0 0, .slice none 0 0]) (t := 34) ?_; intro gb2_ hg w2_ hbox hb; replace HS := A_.mk (And.intro HS.out (show gb2_ = w1_.heap.size ∧ gb2_ < w2_.heap.size from ⟨hg, blk_lt hbox⟩)); replace BK1 := aBb BK1 hb; replace HB := aHB HB hb; have BK2 := A_.mk hbox; clear hbox hb hg Q1; have Q1 := blk7_ BK1.out; have Q2 := blk7_ BK2.out) | ((with_reducible refine gc_ (f := 12) rfl ?_); refine gl_ (some 11) Try.func12 #[.agg #[.int .i64 a0_0, .slice A0_1 l0_1.length c0_1, .int .i64 a0_2, .int .i64 a0_3, .slice A0_4 l0_4.length c0_4, .slice A0_5 l0_5.length c0_5, .slice A0_6 l0_6.length c0_6]] ?_; (with_reducible refine (impl_copyLink.calls k a0_0 _ _ l0_1 a0_2 a0_3 _ _ l0_4 _ _ l0_5 _ _ l0_6 t1 t2 t3 t4 t5 t6 t7 _ (Kd.C_below HR0_1.out HB.out) HC0_1.out (Kd.C_below HR0_4.out HB.out) HC0_4.out (Kd.C_below HR0_5.out HB.out) HC0_5.out (Kd.C_below HR0_6.out HB.out) HC0_6.out A3.out).mono ?_); rintro e w3_ ⟨f3_, v0_, v1_, v2_, v3_, rfl, ho0_, ho1_, ho2_, ho3_, hb⟩; refine ⟨_, rfl, ?_⟩; replace HS := aHs HS hb.size; obtain ⟨Ao3_0, co3_0, ev_⟩ := Kd.S_slice ho0_; subst ev_; have HO3_0 := aSn ho0_ HB.out.size; obtain ⟨Ao3_1, co3_1, ev_⟩ := Kd.S_slice ho1_; subst ev_; have HO3_1 := aSn ho1_ HB.out.size; obtain ⟨Ao3_2, co3_2, ev_⟩ := Kd.S_slice ho2_; subst ev_; have HO3_2 := aSn ho2_ HB.out.size; obtain ⟨Ao3_3, co3_3, ev_⟩ := Kd.R_slice ho3_; subst ev_; have HO3_3 := aRn ho3_ HB.out.size; replace BK1 := aBb BK1 hb; replace BK2 := aBb BK2 hb; replace HB := aHB HB hb; clear hb ho0_ ho1_ ho2_ ho3_ Q1 Q2; have Q1 := blk7_ BK1.out; have Q2 := blk7_ BK2.out) | ((with_reducible refine gd_ (N := 6) rfl ?_); refine by_ 6 (cs := #[.int .i64 0, .slice none 0 0, .int .i64 0, .int .i64 0, .slice none 0 0, .slice none 0 0, .slice none 0 0]) (t := 34) ?_; intro gb4_ hg w4_ hbox hb; replace HS := A_.mk (And.intro HS.out (show gb4_ = w3_.heap.size ∧ gb4_ < w4_.heap.size from ⟨hg, blk_lt hbox⟩)); replace HO3_0 := aSb HO3_0 hb; replace HO3_1 := aSb HO3_1 hb; replace HO3_2 := aSb HO3_2 hb; replace HO3_3 := aRb HO3_3 hb; replace BK1 := aBb BK1 hb; replace BK2 := aBb BK2 hb; replace HB := aHB HB hb; have BK4 := A_.mk hbox; clear hbox hb hg Q1 Q2; have Q1 := blk7_ BK1.out; have Q2 := blk7_ BK2.out; have Q4 := blk7_ BK4.out) | ((with_reducible refine gate_store (t := 34) (p := 6) rfl ?_); have qf0 := bf_ BK4.out 0; have qf1 := bf_ BK4.out 1; have qf2 := bf_ BK4.out 2; have qf3 := bf_ BK4.out 3; have qf4 := bf_ BK4.out 4; have qf5 := bf_ BK4.out 5; have qf6 := bf_ BK4.out 6; refine se_ (t := 34) (p := 6) (v := ?vo_5) (w1 := (ch7_ w4_ gb4_ (.int .i64 t1) (.slice Ao3_0 t2.length co3_0) (.int .i64 t3) (.int .i64 t4) (.slice Ao3_1 t5.length co3_1) (.slice Ao3_2 t6.length co3_2) (.slice Ao3_3 t7.length co3_3))) ?hg ?ho ?hn ?hr ?_; (case ho => rfl); (case hg => rfl); (case hn => rfl); (case hr => first | (go_simp; done) | (go_simp; rfl)); intro w5_ hw; clear qf0 qf1 qf2 qf3 qf4 qf5 qf6; obtain ⟨hbx, hkp, hbb⟩ := st7_ hw BK4 HB (by have := HS.out; omega); clear hw; replace HO3_0 := aSk HO3_0 hkp HS; replace HO3_1 := aSk HO3_1 hkp HS; replace HO3_2 := aSk HO3_2 hkp HS; replace HO3_3 := aRk HO3_3 hkp HS; replace BK1 := aBk BK1 hkp HS; replace BK2 := aBk BK2 hkp HS; replace BK4 := A_.mk hbx; replace HB := A_.mk hbb; replace HS := aHs HS hkp.1; clear hkp hbb hbx Q1 Q2 Q4; have Q1 := blk7_ BK1.out; have Q2 := blk7_ BK2.out; have Q4 := blk7_ BK4.out))
 (with_reducible refine (impl_LinkOk.calls k a0_0 _ _ l0_1 a0_2 a0_3 _ _ l0_4 _ _ l0_5 _ _ l0_6 t8 _ (Kd.C_below HR0_1.out HB.out) HC0_1.out (Kd.C_below HR0_4.out HB.out) HC0_4.out (Kd.C_below HR0_5.out HB.out) HC0_5.out (Kd.C_below HR0_6.out HB.out) HC0_6.out A6.out).mono ?_)
 rintro e w6_ ⟨rfl, hb⟩
 replace HS := aHs HS hb.size
 replace HO3_0 := aSb HO3_0 hb
 replace HO3_1 := aSb HO3_1 hb
 replace HO3_2 := aSb HO3_2 hb
 replace HO3_3 := aRb HO3_3 hb
 replace BK1 := aBb BK1 hb
 replace BK2 := aBb BK2 hb
 replace BK4 := aBb BK4 hb
 replace HB := aHB HB hb
 clear hb  Q1 Q2 Q4
 have Q1 := blk7_ BK1.out
 have Q2 := blk7_ BK2.out
 have Q4 := blk7_ BK4.out
 replace H := H.out
 by_cases hc1_ : t8 = true
 case neg =>
  rw [if_neg hc1_] at H
  replace hc1_ := eq_false_of_ne_true hc1_
  subst hc1_
  simp only [Option.some.injEq, Prod.mk.injEq] at H
  obtain ⟨rfl, rfl, rfl, rfl, rfl, rfl, rfl, rfl⟩ := H
  go_wp2_with (first | ((with_reducible refine gate_store (t := 34) (p := 4) rfl ?_); have qf0 := bf_ BK2.out 0; have qf1 := bf_ BK2.out 1; have qf2 := bf_ BK2.out 2; have qf3 := bf_ BK2.out 3; have qf4 := bf_ BK2.out 4; have qf5 := bf_ BK2.out 5; have qf6 := bf_ BK2.out 6; refine se_ (t := 34) (p := 4) (v := ?vo_14) (w1 := (ch7_ w6_ gb2_ (.int .i64 t1) (.slice Ao3_0 t2.length co3_0) (.int .i64 t3) (.int .i64 t4) (.slice Ao3_1 t5.length co3_1) (.slice Ao3_2 t6.length co3_2) (.slice Ao3_3 t7.length co3_3))) ?hg ?ho ?hn ?hr ?_; (case ho => rfl); (case hg => rfl); (case hn => rfl); (case hr => first | (go_simp; done) | (go_simp; rfl)); intro w14_ hw; clear qf0 qf1 qf2 qf3 qf4 qf5 qf6; obtain ⟨hbx, hkp, hbb⟩ := st7_ hw BK2 HB (by have := HS.out; omega); clear hw; replace HO3_0 := aSk HO3_0 hkp HS; replace HO3_1 := aSk HO3_1 hkp HS; replace HO3_2 := aSk HO3_2 hkp HS; replace HO3_3 := aRk HO3_3 hkp HS; replace BK1 := aBk BK1 hkp HS; replace BK4 := aBk BK4 hkp HS; replace BK2 := A_.mk hbx; replace HB := A_.mk hbb; replace HS := aHs HS hkp.1; clear hkp hbb hbx Q1 Q2 Q4; have Q1 := blk7_ BK1.out; have Q2 := blk7_ BK2.out; have Q4 := blk7_ BK4.out))
  refine bodyPost_ret (results_ct rfl _ _ gb2_ 34 #[.int .i64 t1, .slice Ao3_0 t2.length co3_0, .int .i64 t3, .int .i64 t4, .slice Ao3_1 t5.length co3_1, .slice Ao3_2 t6.length co3_2, .slice Ao3_3 t7.length co3_3] (0, 0) _ rfl BK2.out Try.underlying34 rfl (by kernel_rfl)) rfl ?_
  obtain ⟨f_, hf_⟩ : ∃ f_ : Nat → Nat, ∀ k_, f_ k_ = (if ((w2_.heap.size ≤ k_ ∧ k_ < w3_.heap.size) ∧ f3_ k_ = 0) then 0 else (if ((w2_.heap.size ≤ k_ ∧ k_ < w3_.heap.size) ∧ f3_ k_ = 1) then 1 else (if ((w2_.heap.size ≤ k_ ∧ k_ < w3_.heap.size) ∧ f3_ k_ = 2) then 2 else (if ((w2_.heap.size ≤ k_ ∧ k_ < w3_.heap.size) ∧ f3_ k_ = 3) then 3 else 0)))) := ⟨fun k_ => (if ((w2_.heap.size ≤ k_ ∧ k_ < w3_.heap.size) ∧ f3_ k_ = 0) then 0 else (if ((w2_.heap.size ≤ k_ ∧ k_ < w3_.heap.size) ∧ f3_ k_ = 1) then 1 else (if ((w2_.heap.size ≤ k_ ∧ k_ < w3_.heap.size) ∧ f3_ k_ = 2) then 2 else (if ((w2_.heap.size ≤ k_ ∧ k_ < w3_.heap.size) ∧ f3_ k_ = 3) then 3 else 0)))), fun _ => rfl⟩
  have hcol0_ : ∀ k_, (((w2_.heap.size ≤ k_ ∧ k_ < w3_.heap.size) ∧ f3_ k_ = 0)) → f_ k_ = 0 := fun k_ hk_ => by rw [hf_]; have := HS.out; repeat' (first | omega | split)
  have hcol1_ : ∀ k_, (((w2_.heap.size ≤ k_ ∧ k_ < w3_.heap.size) ∧ f3_ k_ = 1)) → f_ k_ = 1 := fun k_ hk_ => by rw [hf_]; have := HS.out; repeat' (first | omega | split)
  have hcol2_ : ∀ k_, (((w2_.heap.size ≤ k_ ∧ k_ < w3_.heap.size) ∧ f3_ k_ = 2)) → f_ k_ = 2 := fun k_ hk_ => by rw [hf_]; have := HS.out; repeat' (first | omega | split)
  have hcol3_ : ∀ k_, (((w2_.heap.size ≤ k_ ∧ k_ < w3_.heap.size) ∧ f3_ k_ = 3)) → f_ k_ = 3 := fun k_ hk_ => by rw [hf_]; have := HS.out; repeat' (first | omega | split)
  exact ⟨f_, _, _, _, _, rfl, Kd.S_mono HO3_0.out hcol0_, Kd.S_mono HO3_1.out hcol1_, Kd.S_mono HO3_2.out hcol2_, Kd.R_mono HO3_3.out hcol3_, HB.out⟩
 rw [if_pos hc1_] at H
 subst hc1_
 obtain ⟨ji9, hji9⟩ : ∃ q_, q_ = (mn (l1.length : Int) 400) := ⟨_, rfl⟩
 rw [← hji9] at H
 replace hji9 : (if 400 < (l1.length : Int) then 400 else (l1.length : Int)) = ji9 := hji9.symm
 by_cases hl2_ : 0 ≤ ji9 ∧ ji9 ≤ (l1.length : Int)
 case neg => rw [if_neg hl2_] at H; cases H
 rw [if_pos hl2_] at H
 have CB7 := A_.mk hl2_
 clear hl2_
 obtain ⟨y10, Ny10⟩ : ∃ q_, q_ = (l1.take (ji9).toNat) := ⟨_, rfl⟩
 rw [← Ny10] at H
 replace Ny10 := A_.mk Ny10
 replace H := ob_ H
 obtain ⟨⟨z8_s7, z8_s22, z8_0, z8_1, z8_2, z8_3, z8_4, z8_5, z8_6⟩, AL_, H⟩ := H
 have HRL8 := A_.mk H
 have AL8 := A_.mk AL_
 clear H AL_
 obtain ⟨m_, hm_⟩ : ∃ m_ : Nat, ji9 = (m_ : Int) := ⟨(ji9).toNat, by have := CB7.out; omega⟩
 subst hm_
 have hl_ : m_ = y10.length := by rw [Ny10.out, List.length_take, Int.toNat_natCast]; have := CB7.out; omega
 have HRc7 := A_.mk (show Kd.C k44 w A1 y10.length y10 from by rw [Ny10.out, Int.toNat_natCast]; exact Kd.C_take HR1.out (by have := CB7.out; omega))
 have HWc7 := HRc7
 have hz0_ : y10.length ≤ c1 := by have h1_ := HC1.out; have h2_ := CB7.out; omega
 have HCc7 := A_.mk hz0_
 subst hl_
 have hz1_ : y10.length ≤ l1.length := by have h2_ := CB7.out; omega
 go_wp2
 obtain ⟨fp15_, hfp_⟩ : ∃ f_ : Nat → Nat, ∀ k_, f_ k_ = (if ((w2_.heap.size ≤ k_ ∧ k_ < w3_.heap.size) ∧ f3_ k_ = 0) then 0 else (if ((w2_.heap.size ≤ k_ ∧ k_ < w3_.heap.size) ∧ f3_ k_ = 1) then 1 else (if ((w2_.heap.size ≤ k_ ∧ k_ < w3_.heap.size) ∧ f3_ k_ = 2) then 2 else (if ((w2_.heap.size ≤ k_ ∧ k_ < w3_.heap.size) ∧ f3_ k_ = 3) then 3 else 4)))) := ⟨fun k_ => (if ((w2_.heap.size ≤ k_ ∧ k_ < w3_.heap.size) ∧ f3_ k_ = 0) then 0 else (if ((w2_.heap.size ≤ k_ ∧ k_ < w3_.heap.size) ∧ f3_ k_ = 1) then 1 else (if ((w2_.heap.size ≤ k_ ∧ k_ < w3_.heap.size) ∧ f3_ k_ = 2) then 2 else (if ((w2_.heap.size ≤ k_ ∧ k_ < w3_.heap.size) ∧ f3_ k_ = 3) then 3 else 4)))), fun _ => rfl⟩
 have hcp1_ : ∀ k_, (((w2_.heap.size ≤ k_ ∧ k_ < w3_.heap.size) ∧ f3_ k_ = 0)) → ((w.heap.size ≤ k_ ∧ k_ < w6_.heap.size) ∧ k_ ≠ gb4_ ∧ fp15_ k_ = 0) := fun k_ hk_ => ⟨by have := HS.out; omega, by have := HS.out; omega, by rw [hfp_]; have := HS.out; repeat' (first | omega | split)⟩
 have hcp4_ : ∀ k_, (((w2_.heap.size ≤ k_ ∧ k_ < w3_.heap.size) ∧ f3_ k_ = 1)) → ((w.heap.size ≤ k_ ∧ k_ < w6_.heap.size) ∧ k_ ≠ gb4_ ∧ fp15_ k_ = 1) := fun k_ hk_ => ⟨by have := HS.out; omega, by have := HS.out; omega, by rw [hfp_]; have := HS.out; repeat' (first | omega | split)⟩
 have hcp5_ : ∀ k_, (((w2_.heap.size ≤ k_ ∧ k_ < w3_.heap.size) ∧ f3_ k_ = 2)) → ((w.heap.size ≤ k_ ∧ k_ < w6_.heap.size) ∧ k_ ≠ gb4_ ∧ fp15_ k_ = 2) := fun k_ hk_ => ⟨by have := HS.out; omega, by have := HS.out; omega, by rw [hfp_]; have := HS.out; repeat' (first | omega | split)⟩
 have hcp6_ : ∀ k_, (((w2_.heap.size ≤ k_ ∧ k_ < w3_.heap.size) ∧ f3_ k_ = 3)) → ((w.heap.size ≤ k_ ∧ k_ < w6_.heap.size) ∧ k_ ≠ gb4_ ∧ fp15_ k_ = 3) := fun k_ hk_ => ⟨by have := HS.out; omega, by have := HS.out; omega, by rw [hfp_]; have := HS.out; repeat' (first | omega | split)⟩
 have hfb1_ : fp15_ gb1_ = 4 := by rw [hfp_]; have := HS.out; repeat' (first | omega | split)
 have hfb2_ : fp15_ gb2_ = 4 := by rw [hfp_]; have := HS.out; repeat' (first | omega | split)
 go_loopg [7, 22] k (fun kq v7 v22 w' => ∃ (fx8_ : Nat → Nat) (Ax8_1 : Option Addr) (Ax8_4 : Option Addr) (Ax8_5 : Option Addr) (Ax8_6 : Option Addr) (cx8_1 : Nat) (cx8_4 : Nat) (cx8_5 : Nat) (cx8_6 : Nat) (x8_s7 : Int) (x8_s22 : Int) (x8_0 : Int) (x8_1 : List S66) (x8_2 : Int) (x8_3 : Int) (x8_4 : List (List Int)) (x8_5 : List (List Int)) (x8_6 : List Int), v7 = .int .i64 x8_s7 ∧ v22 = .int .i64 x8_s22 ∧ A_ (impl_RunLink.l8 kq y10 x8_s7 x8_s22 x8_0 x8_1 x8_2 x8_3 x8_4 x8_5 x8_6 = some (z8_s7, z8_s22, z8_0, z8_1, z8_2, z8_3, z8_4, z8_5, z8_6)) ∧ A_ (kq ≤ k) ∧ A_ (w'.heap[gb4_]? = some (.cells #[.int .i64 x8_0, .slice Ax8_1 x8_1.length cx8_1, .int .i64 x8_2, .int .i64 x8_3, .slice Ax8_4 x8_4.length cx8_4, .slice Ax8_5 x8_5.length cx8_5, .slice Ax8_6 x8_6.length cx8_6] 34 (0, 0))) ∧ A_ (Kd.S k66 66 w' w.heap.size (fun k_ => (w.heap.size ≤ k_ ∧ k_ < w'.heap.size) ∧ k_ ≠ gb4_ ∧ fx8_ k_ = 0) (.slice Ax8_1 x8_1.length cx8_1) x8_1) ∧ A_ (Kd.S (Kd.slice 3 (Kd.int .i64)) 32 w' w.heap.size (fun k_ => (w.heap.size ≤ k_ ∧ k_ < w'.heap.size) ∧ k_ ≠ gb4_ ∧ fx8_ k_ = 1) (.slice Ax8_4 x8_4.length cx8_4) x8_4) ∧ A_ (Kd.S (Kd.slice 3 (Kd.int .i64)) 32 w' w.heap.size (fun k_ => (w.heap.size ≤ k_ ∧ k_ < w'.heap.size) ∧ k_ ≠ gb4_ ∧ fx8_ k_ = 2) (.slice Ax8_5 x8_5.length cx8_5) x8_5) ∧ A_ (Kd.R (Kd.int .i64) 3 w' w.heap.size (fun k_ => (w.heap.size ≤ k_ ∧ k_ < w'.heap.size) ∧ k_ ≠ gb4_ ∧ fx8_ k_ = 3) (.slice Ax8_6 x8_6.length cx8_6) x8_6) ∧ A_ (w'.heap[gb1_]? = some (.cells #[.int .i64 a0_0, .slice A0_1 l0_1.length c0_1, .int .i64 a0_2, .int .i64 a0_3, .slice A0_4 l0_4.length c0_4, .slice A0_5 l0_5.length c0_5, .slice A0_6 l0_6.length c0_6] 34 (0, 0))) ∧ A_ (w'.heap[gb2_]? = some (.cells #[.int .i64 0, .slice none 0 0, .int .i64 0, .int .i64 0, .slice none 0 0, .slice none 0 0, .slice none 0 0] 34 (0, 0))) ∧ A_ (4 ≤ fx8_ gb1_) ∧ A_ (4 ≤ fx8_ gb2_) ∧ A_ (Below w.heap.size w w') ∧ A_ (w6_.heap.size ≤ w'.heap.size))
 case atStart => exact ⟨fp15_, Ao3_0, Ao3_1, Ao3_2, Ao3_3, co3_0, co3_1, co3_2, co3_3, 0, 0, t1, t2, t3, t4, t5, t6, t7, (by first | rfl | (simp; done) | (simp [*]; done)), (by first | rfl | (simp; done) | (simp [*]; done)), AL8, ⟨Nat.le_refl _⟩, BK4, ⟨Kd.S_mono HO3_0.out hcp1_⟩, ⟨Kd.S_mono HO3_1.out hcp4_⟩, ⟨Kd.S_mono HO3_2.out hcp5_⟩, ⟨Kd.R_mono HO3_3.out hcp6_⟩, BK1, BK2, ⟨Nat.le_of_eq hfb1_.symm⟩, ⟨Nat.le_of_eq hfb2_.symm⟩, HB, ⟨Nat.le_refl _⟩⟩
 case round =>
  clear AL8 HB BK1 BK2 BK4 HO3_0 HO3_1 HO3_2 HO3_3 Q1 Q2 Q4 hfp_ hcp1_ hcp4_ hcp5_ hcp6_ hfb1_ hfb2_
  obtain ⟨fx8_, Ax8_1, Ax8_4, Ax8_5, Ax8_6, cx8_1, cx8_4, cx8_5, cx8_6, x8_s7, x8_s22, x8_0, x8_1, x8_2, x8_3, x8_4, x8_5, x8_6, rfl, rfl, HA, HKL8, BK4, HOx8_1, HOx8_4, HOx8_5, HOx8_6, BK1, BK2, HG1_, HG2_, HB, HSL_⟩ := hrel
  rename World => wq8_
  replace HS := A_.mk (And.intro HS.out HSL_.out)
  clear HSL_
  replace HS := aHs HS HG1_.out
  clear HG1_
  replace HS := aHs HS HG2_.out
  clear HG2_
  cases gk with
  | zero => exact absurd HA.out (by simp [impl_RunLink.l8])
  | succ kq8_ =>
   have H := HA.out
   clear HA
   simp only [impl_RunLink.l8] at H
   have Q1 := blk7_ BK1.out
   have Q2 := blk7_ BK2.out
   have Q4 := blk7_ BK4.out
   by_cases hc3_ : x8_s22 < (y10.length : Int)
   case neg =>
    rw [if_neg hc3_] at H
    have hc3_b0 : decide (x8_s22 < (y10.length : Int)) = false := decide_eq_false hc3_
    have hc3_b1 : decide (x8_s22 < y10.length) = false := decide_eq_false (by omega)
    simp only [Option.some.injEq, Prod.mk.injEq] at H
    obtain ⟨rfl, rfl, rfl, rfl, rfl, rfl, rfl, rfl, rfl⟩ := H
    have H := HRL8.out
    clear HRL8
    (try dsimp only at H)
    simp only [Option.some.injEq, Prod.mk.injEq] at H
    obtain ⟨rfl, rfl, rfl, rfl, rfl, rfl, rfl, rfl⟩ := H
    go_wp2_with (first | ((with_reducible refine gate_store (t := 34) (p := 4) rfl ?_); have qf0 := bf_ BK2.out 0; have qf1 := bf_ BK2.out 1; have qf2 := bf_ BK2.out 2; have qf3 := bf_ BK2.out 3; have qf4 := bf_ BK2.out 4; have qf5 := bf_ BK2.out 5; have qf6 := bf_ BK2.out 6; refine se_ (t := 34) (p := 4) (v := ?vo_13) (w1 := (ch7_ wq8_ gb2_ (.int .i64 x8_0) (.slice Ax8_1 x8_1.length cx8_1) (.int .i64 x8_2) (.int .i64 x8_3) (.slice Ax8_4 x8_4.length cx8_4) (.slice Ax8_5 x8_5.length cx8_5) (.slice Ax8_6 x8_6.length cx8_6))) ?hg ?ho ?hn ?hr ?_; (case ho => rfl); (case hg => rfl); (case hn => rfl); (case hr => first | (go_simp; done) | (go_simp; rfl)); intro w13_ hw; clear qf0 qf1 qf2 qf3 qf4 qf5 qf6; obtain ⟨hbx, hkp, hbb⟩ := st7_ hw BK2 HB (by have := HS.out; omega); clear hw; replace HOx8_1 := aSk HOx8_1 hkp HS; replace HOx8_4 := aSk HOx8_4 hkp HS; replace HOx8_5 := aSk HOx8_5 hkp HS; replace HOx8_6 := aRk HOx8_6 hkp HS; replace BK1 := aBk BK1 hkp HS; replace BK4 := aBk BK4 hkp HS; replace BK2 := A_.mk hbx; replace HB := A_.mk hbb; replace HS := aHs HS hkp.1; clear hkp hbb hbx Q1 Q2 Q4; have Q1 := blk7_ BK1.out; have Q2 := blk7_ BK2.out; have Q4 := blk7_ BK4.out))
    refine bodyPost_ret (results_ct rfl _ _ gb2_ 34 #[.int .i64 x8_0, .slice Ax8_1 x8_1.length cx8_1, .int .i64 x8_2, .int .i64 x8_3, .slice Ax8_4 x8_4.length cx8_4, .slice Ax8_5 x8_5.length cx8_5, .slice Ax8_6 x8_6.length cx8_6] (0, 0) _ rfl BK2.out Try.underlying34 rfl (by kernel_rfl)) rfl ?_
    obtain ⟨f_, hf_⟩ : ∃ f_ : Nat → Nat, ∀ k_, f_ k_ = (if ((w.heap.size ≤ k_ ∧ k_ < wq8_.heap.size) ∧ k_ ≠ gb4_ ∧ fx8_ k_ = 0) then 0 else (if ((w.heap.size ≤ k_ ∧ k_ < wq8_.heap.size) ∧ k_ ≠ gb4_ ∧ fx8_ k_ = 1) then 1 else (if ((w.heap.size ≤ k_ ∧ k_ < wq8_.heap.size) ∧ k_ ≠ gb4_ ∧ fx8_ k_ = 2) then 2 else (if ((w.heap.size ≤ k_ ∧ k_ < wq8_.heap.size) ∧ k_ ≠ gb4_ ∧ fx8_ k_ = 3) then 3 else 0)))) := ⟨fun k_ => (if ((w.heap.size ≤ k_ ∧ k_ < wq8_.heap.size) ∧ k_ ≠ gb4_ ∧ fx8_ k_ = 0) then 0 else (if ((w.heap.size ≤ k_ ∧ k_ < wq8_.heap.size) ∧ k_ ≠ gb4_ ∧ fx8_ k_ = 1) then 1 else (if ((w.heap.size ≤ k_ ∧ k_ < wq8_.heap.size) ∧ k_ ≠ gb4_ ∧ fx8_ k_ = 2) then 2 else (if ((w.heap.size ≤ k_ ∧ k_ < wq8_.heap.size) ∧ k_ ≠ gb4_ ∧ fx8_ k_ = 3) then 3 else 0)))), fun _ => rfl⟩
    have hcol0_ : ∀ k_, (((w.heap.size ≤ k_ ∧ k_ < wq8_.heap.size) ∧ k_ ≠ gb4_ ∧ fx8_ k_ = 0)) → f_ k_ = 0 := fun k_ hk_ => by rw [hf_]; have := HS.out; repeat' (first | omega | split)
    have hcol1_ : ∀ k_, (((w.heap.size ≤ k_ ∧ k_ < wq8_.heap.size) ∧ k_ ≠ gb4_ ∧ fx8_ k_ = 1)) → f_ k_ = 1 := fun k_ hk_ => by rw [hf_]; have := HS.out; repeat' (first | omega | split)
    have hcol2_ : ∀ k_, (((w.heap.size ≤ k_ ∧ k_ < wq8_.heap.size) ∧ k_ ≠ gb4_ ∧ fx8_ k_ = 2)) → f_ k_ = 2 := fun k_ hk_ => by rw [hf_]; have := HS.out; repeat' (first | omega | split)
    have hcol3_ : ∀ k_, (((w.heap.size ≤ k_ ∧ k_ < wq8_.heap.size) ∧ k_ ≠ gb4_ ∧ fx8_ k_ = 3)) → f_ k_ = 3 := fun k_ hk_ => by rw [hf_]; have := HS.out; repeat' (first | omega | split)
    exact ⟨f_, _, _, _, _, rfl, Kd.S_mono HOx8_1.out hcol0_, Kd.S_mono HOx8_4.out hcol1_, Kd.S_mono HOx8_5.out hcol2_, Kd.R_mono HOx8_6.out hcol3_, HB.out⟩
   rw [if_pos hc3_] at H
   have hc3_b0 : decide (x8_s22 < (y10.length : Int)) = true := decide_eq_true hc3_
   have hc3_b1 : decide (x8_s22 < y10.length) = true := decide_eq_true (by omega)
   by_cases hp9_ : 0 ≤ x8_s22
   case neg => rw [if_neg hp9_] at H; cases H
   rw [if_pos hp9_] at H
   by_cases hq9_ : x8_s22 < (y10.length : Int)
   case neg => rw [if_neg hq9_] at H; cases H
   rw [if_pos hq9_] at H
   have EB9 := A_.mk (And.intro hp9_ hq9_)
   obtain ⟨ad9_, eA_, hx0_, hx1_⟩ := at_T44 HWc7.out x8_s22 hp9_ hq9_
   subst eA_
   have HX9 := A_.mk (And.intro hx0_ hx1_)
   clear hx0_ hx1_
   replace hp9_ := eq_true hp9_
   replace hq9_ := eq_true hq9_
   replace H := oa_ H
   obtain ⟨⟨t11, t12, t13, t14, t15, t16, t17, t18⟩, A12, H⟩ := H
   try dsimp only at H
   replace H := A_.mk H
   clear Q1 Q2 Q4
   have Q1 := blk7_ BK1.out
   have Q2 := blk7_ BK2.out
   have Q4 := blk7_ BK4.out
   have QE9 := el2_ HB.out HX9.out
   go_wp2_with (first | ((with_reducible refine gd_ (N := 9) rfl ?_); refine by_ 9 (cs := #[.int .i64 0, .int .i64 0]) (t := 44) ?_; intro gb10_ hg w10_ hbox hb; replace HS := A_.mk (And.intro HS.out (show gb10_ = wq8_.heap.size ∧ gb10_ < w10_.heap.size from ⟨hg, blk_lt hbox⟩)); replace HOx8_1 := aSb HOx8_1 hb; replace HOx8_4 := aSb HOx8_4 hb; replace HOx8_5 := aSb HOx8_5 hb; replace HOx8_6 := aRb HOx8_6 hb; replace BK1 := aBb BK1 hb; replace BK2 := aBb BK2 hb; replace BK4 := aBb BK4 hb; replace HB := aHB HB hb; have BK10 := A_.mk hbox; clear hbox hb hg Q1 Q2 Q4 QE9; have Q1 := blk7_ BK1.out; have Q2 := blk7_ BK2.out; have Q4 := blk7_ BK4.out; have Q10 := blk2_ BK10.out; have QE9 := el2_ HB.out HX9.out) | ((with_reducible refine gate_store (t := 44) (p := 9) rfl ?_); have qf0 := bf_ BK10.out 0; have qf1 := bf_ BK10.out 1; refine se_ (t := 44) (p := 9) (v := ?vo_11) (w1 := (ch2_ w10_ gb10_ (.int .i64 ((rd_T44 y10 x8_s22).f0)) (.int .i64 ((rd_T44 y10 x8_s22).f1)))) ?hg ?ho ?hn ?hr ?_; (case ho => rfl); (case hg => rfl); (case hn => rfl); (case hr => first | (go_simp; done) | (go_simp; rfl)); intro w11_ hw; clear qf0 qf1; obtain ⟨hbx, hkp, hbb⟩ := st2_ hw BK10 HB (by have := HS.out; omega); clear hw; replace HOx8_1 := aSk HOx8_1 hkp HS; replace HOx8_4 := aSk HOx8_4 hkp HS; replace HOx8_5 := aSk HOx8_5 hkp HS; replace HOx8_6 := aRk HOx8_6 hkp HS; replace BK1 := aBk BK1 hkp HS; replace BK2 := aBk BK2 hkp HS; replace BK4 := aBk BK4 hkp HS; replace BK10 := A_.mk hbx; replace HB := A_.mk hbb; replace HS := aHs HS hkp.1; clear hkp hbb hbx Q1 Q2 Q4 Q10 QE9; have Q1 := blk7_ BK1.out; have Q2 := blk7_ BK2.out; have Q4 := blk7_ BK4.out; have Q10 := blk2_ BK10.out; have QE9 := el2_ HB.out HX9.out))
   obtain ⟨fp12_, hfp_⟩ : ∃ f_ : Nat → Nat, ∀ k_, f_ k_ = (if ((w.heap.size ≤ k_ ∧ k_ < wq8_.heap.size) ∧ k_ ≠ gb4_ ∧ fx8_ k_ = 0) then 0 else (if ((w.heap.size ≤ k_ ∧ k_ < wq8_.heap.size) ∧ k_ ≠ gb4_ ∧ fx8_ k_ = 1) then 1 else (if ((w.heap.size ≤ k_ ∧ k_ < wq8_.heap.size) ∧ k_ ≠ gb4_ ∧ fx8_ k_ = 2) then 2 else (if ((w.heap.size ≤ k_ ∧ k_ < wq8_.heap.size) ∧ k_ ≠ gb4_ ∧ fx8_ k_ = 3) then 3 else 4)))) := ⟨fun k_ => (if ((w.heap.size ≤ k_ ∧ k_ < wq8_.heap.size) ∧ k_ ≠ gb4_ ∧ fx8_ k_ = 0) then 0 else (if ((w.heap.size ≤ k_ ∧ k_ < wq8_.heap.size) ∧ k_ ≠ gb4_ ∧ fx8_ k_ = 1) then 1 else (if ((w.heap.size ≤ k_ ∧ k_ < wq8_.heap.size) ∧ k_ ≠ gb4_ ∧ fx8_ k_ = 2) then 2 else (if ((w.heap.size ≤ k_ ∧ k_ < wq8_.heap.size) ∧ k_ ≠ gb4_ ∧ fx8_ k_ = 3) then 3 else 4)))), fun _ => rfl⟩
   have hcp1_ : ∀ k_, (((w.heap.size ≤ k_ ∧ k_ < wq8_.heap.size) ∧ k_ ≠ gb4_ ∧ fx8_ k_ = 0)) → ((w.heap.size ≤ k_ ∧ k_ < w11_.heap.size) ∧ k_ ≠ gb4_ ∧ fp12_ k_ = 0) := fun k_ hk_ => ⟨by have := HS.out; omega, by have := HS.out; omega, by rw [hfp_]; have := HS.out; repeat' (first | omega | split)⟩
   have hcp4_ : ∀ k_, (((w.heap.size ≤ k_ ∧ k_ < wq8_.heap.size) ∧ k_ ≠ gb4_ ∧ fx8_ k_ = 1)) → ((w.heap.size ≤ k_ ∧ k_ < w11_.heap.size) ∧ k_ ≠ gb4_ ∧ fp12_ k_ = 1) := fun k_ hk_ => ⟨by have := HS.out; omega, by have := HS.out; omega, by rw [hfp_]; have := HS.out; repeat' (first | omega | split)⟩
   have hcp5_ : ∀ k_, (((w.heap.size ≤ k_ ∧ k_ < wq8_.heap.size) ∧ k_ ≠ gb4_ ∧ fx8_ k_ = 2)) → ((w.heap.size ≤ k_ ∧ k_ < w11_.heap.size) ∧ k_ ≠ gb4_ ∧ fp12_ k_ = 2) := fun k_ hk_ => ⟨by have := HS.out; omega, by have := HS.out; omega, by rw [hfp_]; have := HS.out; repeat' (first | omega | split)⟩
   have hcp6_ : ∀ k_, (((w.heap.size ≤ k_ ∧ k_ < wq8_.heap.size) ∧ k_ ≠ gb4_ ∧ fx8_ k_ = 3)) → ((w.heap.size ≤ k_ ∧ k_ < w11_.heap.size) ∧ k_ ≠ gb4_ ∧ fp12_ k_ = 3) := fun k_ hk_ => ⟨by have := HS.out; omega, by have := HS.out; omega, by rw [hfp_]; have := HS.out; repeat' (first | omega | split)⟩
   have hfb1_ : fp12_ gb1_ = 4 := by rw [hfp_]; have := HS.out; repeat' (first | omega | split)
   have hfb2_ : fp12_ gb2_ = 4 := by rw [hfp_]; have := HS.out; repeat' (first | omega | split)
   have hfb10_ : fp12_ gb10_ = 4 := by rw [hfp_]; have := HS.out; repeat' (first | omega | split)
   refine (impl_Link_step.calls kq8_ gb4_ fp12_ x8_0 _ _ x8_1 x8_2 x8_3 _ _ x8_4 _ _ x8_5 _ _ x8_6 ((rd_T44 y10 x8_s22).f0) ((rd_T44 y10 x8_s22).f1) t11 t12 t13 t14 t15 t16 t17 t18 w _ HB.out (by have := HS.out; omega) BK4.out (Kd.S_mono HOx8_1.out hcp1_) (Kd.S_mono HOx8_4.out hcp4_) (Kd.S_mono HOx8_5.out hcp5_) (Kd.R_mono HOx8_6.out hcp6_) A12.out).mono ?_
   rintro e w12_ ⟨f12_, v0_, v1_, v2_, v3_, rfl, hbx_, ho1_, ho2_, ho3_, ho4_, hfk_, hbb, hkp⟩
   have hge1_ : 4 ≤ f12_ gb1_ := by have h1_ := hfk_ gb1_ (blk_lt BK1.out); have := hfb1_; have := HS.out; omega
   have hge2_ : 4 ≤ f12_ gb2_ := by have h1_ := hfk_ gb2_ (blk_lt BK2.out); have := hfb2_; have := HS.out; omega
   have hge10_ : 4 ≤ f12_ gb10_ := by have h1_ := hfk_ gb10_ (blk_lt BK10.out); have := hfb10_; have := HS.out; omega
   replace BK1 := A_.mk ((hkp.2 _ (blk_lt BK1.out) (fun _ => by have := hfb1_; have := HS.out; omega)).trans BK1.out)
   replace BK2 := A_.mk ((hkp.2 _ (blk_lt BK2.out) (fun _ => by have := hfb2_; have := HS.out; omega)).trans BK2.out)
   replace BK10 := A_.mk ((hkp.2 _ (blk_lt BK10.out) (fun _ => by have := hfb10_; have := HS.out; omega)).trans BK10.out)
   replace BK4 := A_.mk hbx_
   replace HB := A_.mk hbb
   replace HS := aHs HS hkp.1
   replace HS := aHs HS hge1_
   replace HS := aHs HS hge2_
   replace HS := aHs HS hge10_
   clear hfk_ hge1_ hge2_ hge10_
   obtain ⟨Ao12_0, co12_0, ev_⟩ := Kd.S_slice ho1_
   subst ev_
   have HO12_0 := A_.mk ho1_
   obtain ⟨Ao12_1, co12_1, ev_⟩ := Kd.S_slice ho2_
   subst ev_
   have HO12_1 := A_.mk ho2_
   obtain ⟨Ao12_2, co12_2, ev_⟩ := Kd.S_slice ho3_
   subst ev_
   have HO12_2 := A_.mk ho3_
   obtain ⟨Ao12_3, co12_3, ev_⟩ := Kd.R_slice ho4_
   subst ev_
   have HO12_3 := A_.mk ho4_
   clear hkp hbx_ hbb hfp_ hcp1_ hcp4_ hcp5_ hcp6_ ho1_ ho2_ ho3_ ho4_ hfb1_ hfb2_ hfb10_ Q1 Q2 Q4 Q10 QE9
   have Q1 := blk7_ BK1.out
   have Q2 := blk7_ BK2.out
   have Q4 := blk7_ BK4.out
   have Q10 := blk2_ BK10.out
   have QE9 := el2_ HB.out HX9.out
   replace H := H.out
   by_cases hc4_ : t11 = true
   case pos =>
    rw [if_pos hc4_] at H
    subst hc4_
    have HA := A_.mk H
    clear H
    go_wp2
    obtain ⟨fp16_, hfp_⟩ : ∃ f_ : Nat → Nat, ∀ k_, f_ k_ = (if ((w.heap.size ≤ k_ ∧ k_ < w12_.heap.size) ∧ k_ ≠ gb4_ ∧ f12_ k_ = 0) then 0 else (if ((w.heap.size ≤ k_ ∧ k_ < w12_.heap.size) ∧ k_ ≠ gb4_ ∧ f12_ k_ = 1) then 1 else (if ((w.heap.size ≤ k_ ∧ k_ < w12_.heap.size) ∧ k_ ≠ gb4_ ∧ f12_ k_ = 2) then 2 else (if ((w.heap.size ≤ k_ ∧ k_ < w12_.heap.size) ∧ k_ ≠ gb4_ ∧ f12_ k_ = 3) then 3 else 4)))) := ⟨fun k_ => (if ((w.heap.size ≤ k_ ∧ k_ < w12_.heap.size) ∧ k_ ≠ gb4_ ∧ f12_ k_ = 0) then 0 else (if ((w.heap.size ≤ k_ ∧ k_ < w12_.heap.size) ∧ k_ ≠ gb4_ ∧ f12_ k_ = 1) then 1 else (if ((w.heap.size ≤ k_ ∧ k_ < w12_.heap.size) ∧ k_ ≠ gb4_ ∧ f12_ k_ = 2) then 2 else (if ((w.heap.size ≤ k_ ∧ k_ < w12_.heap.size) ∧ k_ ≠ gb4_ ∧ f12_ k_ = 3) then 3 else 4)))), fun _ => rfl⟩
    have hcp1_ : ∀ k_, (((w.heap.size ≤ k_ ∧ k_ < w12_.heap.size) ∧ k_ ≠ gb4_ ∧ f12_ k_ = 0)) → ((w.heap.size ≤ k_ ∧ k_ < w12_.heap.size) ∧ k_ ≠ gb4_ ∧ fp16_ k_ = 0) := fun k_ hk_ => ⟨by have := HS.out; omega, by have := HS.out; omega, by rw [hfp_]; have := HS.out; repeat' (first | omega | split)⟩
    have hcp4_ : ∀ k_, (((w.heap.size ≤ k_ ∧ k_ < w12_.heap.size) ∧ k_ ≠ gb4_ ∧ f12_ k_ = 1)) → ((w.heap.size ≤ k_ ∧ k_ < w12_.heap.size) ∧ k_ ≠ gb4_ ∧ fp16_ k_ = 1) := fun k_ hk_ => ⟨by have := HS.out; omega, by have := HS.out; omega, by rw [hfp_]; have := HS.out; repeat' (first | omega | split)⟩
    have hcp5_ : ∀ k_, (((w.heap.size ≤ k_ ∧ k_ < w12_.heap.size) ∧ k_ ≠ gb4_ ∧ f12_ k_ = 2)) → ((w.heap.size ≤ k_ ∧ k_ < w12_.heap.size) ∧ k_ ≠ gb4_ ∧ fp16_ k_ = 2) := fun k_ hk_ => ⟨by have := HS.out; omega, by have := HS.out; omega, by rw [hfp_]; have := HS.out; repeat' (first | omega | split)⟩
    have hcp6_ : ∀ k_, (((w.heap.size ≤ k_ ∧ k_ < w12_.heap.size) ∧ k_ ≠ gb4_ ∧ f12_ k_ = 3)) → ((w.heap.size ≤ k_ ∧ k_ < w12_.heap.size) ∧ k_ ≠ gb4_ ∧ fp16_ k_ = 3) := fun k_ hk_ => ⟨by have := HS.out; omega, by have := HS.out; omega, by rw [hfp_]; have := HS.out; repeat' (first | omega | split)⟩
    have hfb1_ : fp16_ gb1_ = 4 := by rw [hfp_]; have := HS.out; repeat' (first | omega | split)
    have hfb2_ : fp16_ gb2_ = 4 := by rw [hfp_]; have := HS.out; repeat' (first | omega | split)
    have hfb10_ : fp16_ gb10_ = 4 := by rw [hfp_]; have := HS.out; repeat' (first | omega | split)
    go_roundg kq8_
    case measure => have := HKL8.out; omega
    case rel => exact ⟨fp16_, Ao12_0, Ao12_1, Ao12_2, Ao12_3, co12_0, co12_1, co12_2, co12_3, (wrap64 (x8_s7 + 1)), (wrap64 (x8_s22 + 1)), t12, t13, t14, t15, t16, t17, t18, (by first | rfl | (simp; done) | (simp [*]; done)), (by first | rfl | (simp; done) | (simp [*]; done)), HA, ⟨by have := HKL8.out; omega⟩, BK4, ⟨Kd.S_mono HO12_0.out hcp1_⟩, ⟨Kd.S_mono HO12_1.out hcp4_⟩, ⟨Kd.S_mono HO12_2.out hcp5_⟩, ⟨Kd.R_mono HO12_3.out hcp6_⟩, BK1, BK2, ⟨Nat.le_of_eq hfb1_.symm⟩, ⟨Nat.le_of_eq hfb2_.symm⟩, HB, ⟨(by have := HS.out; omega)⟩⟩
   rw [if_neg hc4_] at H
   replace hc4_ := eq_false_of_ne_true hc4_
   subst hc4_
   have HA := A_.mk H
   clear H
   go_wp2
   obtain ⟨fp17_, hfp_⟩ : ∃ f_ : Nat → Nat, ∀ k_, f_ k_ = (if ((w.heap.size ≤ k_ ∧ k_ < w12_.heap.size) ∧ k_ ≠ gb4_ ∧ f12_ k_ = 0) then 0 else (if ((w.heap.size ≤ k_ ∧ k_ < w12_.heap.size) ∧ k_ ≠ gb4_ ∧ f12_ k_ = 1) then 1 else (if ((w.heap.size ≤ k_ ∧ k_ < w12_.heap.size) ∧ k_ ≠ gb4_ ∧ f12_ k_ = 2) then 2 else (if ((w.heap.size ≤ k_ ∧ k_ < w12_.heap.size) ∧ k_ ≠ gb4_ ∧ f12_ k_ = 3) then 3 else 4)))) := ⟨fun k_ => (if ((w.heap.size ≤ k_ ∧ k_ < w12_.heap.size) ∧ k_ ≠ gb4_ ∧ f12_ k_ = 0) then 0 else (if ((w.heap.size ≤ k_ ∧ k_ < w12_.heap.size) ∧ k_ ≠ gb4_ ∧ f12_ k_ = 1) then 1 else (if ((w.heap.size ≤ k_ ∧ k_ < w12_.heap.size) ∧ k_ ≠ gb4_ ∧ f12_ k_ = 2) then 2 else (if ((w.heap.size ≤ k_ ∧ k_ < w12_.heap.size) ∧ k_ ≠ gb4_ ∧ f12_ k_ = 3) then 3 else 4)))), fun _ => rfl⟩
   have hcp1_ : ∀ k_, (((w.heap.size ≤ k_ ∧ k_ < w12_.heap.size) ∧ k_ ≠ gb4_ ∧ f12_ k_ = 0)) → ((w.heap.size ≤ k_ ∧ k_ < w12_.heap.size) ∧ k_ ≠ gb4_ ∧ fp17_ k_ = 0) := fun k_ hk_ => ⟨by have := HS.out; omega, by have := HS.out; omega, by rw [hfp_]; have := HS.out; repeat' (first | omega | split)⟩
   have hcp4_ : ∀ k_, (((w.heap.size ≤ k_ ∧ k_ < w12_.heap.size) ∧ k_ ≠ gb4_ ∧ f12_ k_ = 1)) → ((w.heap.size ≤ k_ ∧ k_ < w12_.heap.size) ∧ k_ ≠ gb4_ ∧ fp17_ k_ = 1) := fun k_ hk_ => ⟨by have := HS.out; omega, by have := HS.out; omega, by rw [hfp_]; have := HS.out; repeat' (first | omega | split)⟩
   have hcp5_ : ∀ k_, (((w.heap.size ≤ k_ ∧ k_ < w12_.heap.size) ∧ k_ ≠ gb4_ ∧ f12_ k_ = 2)) → ((w.heap.size ≤ k_ ∧ k_ < w12_.heap.size) ∧ k_ ≠ gb4_ ∧ fp17_ k_ = 2) := fun k_ hk_ => ⟨by have := HS.out; omega, by have := HS.out; omega, by rw [hfp_]; have := HS.out; repeat' (first | omega | split)⟩
   have hcp6_ : ∀ k_, (((w.heap.size ≤ k_ ∧ k_ < w12_.heap.size) ∧ k_ ≠ gb4_ ∧ f12_ k_ = 3)) → ((w.heap.size ≤ k_ ∧ k_ < w12_.heap.size) ∧ k_ ≠ gb4_ ∧ fp17_ k_ = 3) := fun k_ hk_ => ⟨by have := HS.out; omega, by have := HS.out; omega, by rw [hfp_]; have := HS.out; repeat' (first | omega | split)⟩
   have hfb1_ : fp17_ gb1_ = 4 := by rw [hfp_]; have := HS.out; repeat' (first | omega | split)
   have hfb2_ : fp17_ gb2_ = 4 := by rw [hfp_]; have := HS.out; repeat' (first | omega | split)
   have hfb10_ : fp17_ gb10_ = 4 := by rw [hfp_]; have := HS.out; repeat' (first | omega | split)
   go_roundg kq8_
   case measure => have := HKL8.out; omega
   case rel => exact ⟨fp17_, Ao12_0, Ao12_1, Ao12_2, Ao12_3, co12_0, co12_1, co12_2, co12_3, x8_s7, (wrap64 (x8_s22 + 1)), t12, t13, t14, t15, t16, t17, t18, (by first | rfl | (simp; done) | (simp [*]; done)), (by first | rfl | (simp; done) | (simp [*]; done)), HA, ⟨by have := HKL8.out; omega⟩, BK4, ⟨Kd.S_mono HO12_0.out hcp1_⟩, ⟨Kd.S_mono HO12_1.out hcp4_⟩, ⟨Kd.S_mono HO12_2.out hcp5_⟩, ⟨Kd.R_mono HO12_3.out hcp6_⟩, BK1, BK2, ⟨Nat.le_of_eq hfb1_.symm⟩, ⟨Nat.le_of_eq hfb2_.symm⟩, HB, ⟨(by have := HS.out; omega)⟩⟩
/-! ### impl_NewLink: function 7 -/
def impl_NewLink.f  : Option (Int × (List (S66)) × Int × Int × (List (List Int)) × (List (List Int)) × List Int) := some (0, ([] : List (S66)), 0, 0, ([] : List (List Int)), ([] : List (List Int)), ([] : List Int))
set_option maxHeartbeats 8000000 in
set_option maxRecDepth 100000 in
theorem impl_NewLink.calls  (r1 : Int) (r2 : List (S66)) (r3 : Int) (r4 : Int) (r5 : List (List Int)) (r6 : List (List Int)) (r7 : List Int) (w : World) (h : impl_NewLink.f  = some (r1, r2, r3, r4, r5, r6, r7)) :
  Calls Try.prog 7 #[] w fun e w' => ∃ v1_ v4_ v5_ v6_ : Value, e = .returned (.agg #[.int .i64 r1, v1_, .int .i64 r3, .int .i64 r4, v4_, v5_, v6_]) ∧ Kd.S k66 66 w' w.heap.size (fun k_ => some k_ ≠ (v6_ : Value).ownBlock) v1_ r2 ∧ Kd.S (Kd.slice 3 (Kd.int .i64)) 32 w' w.heap.size (fun k_ => some k_ ≠ (v5_ : Value).ownBlock ∧ some k_ ≠ (v6_ : Value).ownBlock) v4_ r5 ∧ Kd.S (Kd.slice 3 (Kd.int .i64)) 32 w' w.heap.size (fun k_ => some k_ ≠ (v4_ : Value).ownBlock ∧ some k_ ≠ (v6_ : Value).ownBlock) v5_ r6 ∧ Kd.R (Kd.int .i64) 3 w' w.heap.size (fun _ => True) v6_ r7 ∧ Below w.heap.size w w' := by
 have hu34 := Try.underlying34
 have HB := A_.mk (Below.refl w.heap.size w)
 have H : (some (0, ([] : List (S66)), 0, 0, ([] : List (List Int)), ([] : List (List Int)), ([] : List Int))) = some (r1, r2, r3, r4, r5, r6, r7) := h
 clear h
 simp only [Option.some.injEq, Prod.mk.injEq] at H
 obtain ⟨rfl, rfl, rfl, rfl, rfl, rfl, rfl⟩ := H
 go_enter Try.func7, Try.ntmps7
 go_wp2_with (first | ((with_reducible refine gd_ (N := 0) rfl ?_); refine by_ 0 (cs := #[.int .i64 0, .slice none 0 0, .int .i64 0, .int .i64 0, .slice none 0 0, .slice none 0 0, .slice none 0 0]) (t := 34) ?_; intro gb331 hg w1 hbox hb; have n0_ := A_.mk (bt_ (beY HB.out) hb); have n1_ := A_.mk (hbox); have n2_ := A_.mk ((by rw [hg]; exact (bz_ (beY HB.out)) : w.heap.size ≤ gb331)); have n3_ := A_.mk ((by rw [hg]; exact (bz_ (beY HB.out)) : w.heap.size ≤ gb331)); clear HB; have HB := n0_; have BK331 := n1_; have GW331 := n2_; have GE331 := n3_; clear n0_ n1_ n2_ n3_ hb hbox hg; have hcz2_0 : w1.cell? ⟨gb331, 0, none⟩ = some (.int .i64 0) := (bc_ BK331.out 0).trans rfl; have hcz2_1 : w1.cell? ⟨gb331, 1, none⟩ = some (.slice none 0 0) := (bc_ BK331.out 1).trans rfl; have hcz2_2 : w1.cell? ⟨gb331, 2, none⟩ = some (.int .i64 0) := (bc_ BK331.out 2).trans rfl; have hcz2_3 : w1.cell? ⟨gb331, 3, none⟩ = some (.int .i64 0) := (bc_ BK331.out 3).trans rfl; have hcz2_4 : w1.cell? ⟨gb331, 4, none⟩ = some (.slice none 0 0) := (bc_ BK331.out 4).trans rfl; have hcz2_5 : w1.cell? ⟨gb331, 5, none⟩ = some (.slice none 0 0) := (bc_ BK331.out 5).trans rfl; have hcz2_6 : w1.cell? ⟨gb331, 6, none⟩ = some (.slice none 0 0) := (bc_ BK331.out 6).trans rfl; have hfz2_0 := bf_ BK331.out 0; have hfz2_1 := bf_ BK331.out 1; have hfz2_2 := bf_ BK331.out 2; have hfz2_3 := bf_ BK331.out 3; have hfz2_4 := bf_ BK331.out 4; have hfz2_5 := bf_ BK331.out 5; have hfz2_6 := bf_ BK331.out 6))
 refine bodyPost_ret (results_cell_row rfl _ _ gb331 34 #[.int .i64 0, .slice none 0 0, .int .i64 0, .int .i64 0, .slice none 0 0, .slice none 0 0, .slice none 0 0] (0, 0) _ rfl (by (repeat apply bX); refine bp_ (cs := #[.int .i64 0, .slice none 0 0, .int .i64 0, .int .i64 0, .slice none 0 0, .slice none 0 0, .slice none 0 0]) ?_ 6 _ rfl; (repeat apply bX); refine bp_ (cs := #[.int .i64 0, .slice none 0 0, .int .i64 0, .int .i64 0, .slice none 0 0, .slice none 0 0, .slice none 0 0]) ?_ 5 _ rfl; (repeat apply bX); refine bp_ (cs := #[.int .i64 0, .slice none 0 0, .int .i64 0, .int .i64 0, .slice none 0 0, .slice none 0 0, .slice none 0 0]) ?_ 4 _ rfl; (repeat apply bX); refine bp_ (cs := #[.int .i64 0, .slice none 0 0, .int .i64 0, .int .i64 0, .slice none 0 0, .slice none 0 0, .slice none 0 0]) ?_ 3 _ rfl; (repeat apply bX); refine bp_ (cs := #[.int .i64 0, .slice none 0 0, .int .i64 0, .int .i64 0, .slice none 0 0, .slice none 0 0, .slice none 0 0]) ?_ 2 _ rfl; (repeat apply bX); refine bp_ (cs := #[.int .i64 0, .slice none 0 0, .int .i64 0, .int .i64 0, .slice none 0 0, .slice none 0 0, .slice none 0 0]) ?_ 1 _ rfl; (repeat apply bX); refine bp_ (cs := #[.int .i64 0, .slice none 0 0, .int .i64 0, .int .i64 0, .slice none 0 0, .slice none 0 0, .slice none 0 0]) ?_ 0 _ rfl; (repeat apply bX); exact BK331.out) Try.underlying34 rfl (by kernel_rfl)) rfl ?_
 exact ⟨_, _, _, _, by first | rfl | (simp [errW_none, errW_some] <;> rfl) | (simp [*, errW_none, errW_some] <;> rfl), by first | exact Kd.S_nil _ _ _ _ _ | exact Kd.N_nil _ _ _ _ _ | exact Kd.V_nil _ _ _ _ _ | exact Kd.Q_nil _ _ _ _ _ | exact Kd.R_nil _ _ _ _ _, by first | exact Kd.S_nil _ _ _ _ _ | exact Kd.N_nil _ _ _ _ _ | exact Kd.V_nil _ _ _ _ _ | exact Kd.Q_nil _ _ _ _ _ | exact Kd.R_nil _ _ _ _ _, by first | exact Kd.S_nil _ _ _ _ _ | exact Kd.N_nil _ _ _ _ _ | exact Kd.V_nil _ _ _ _ _ | exact Kd.Q_nil _ _ _ _ _ | exact Kd.R_nil _ _ _ _ _, by first | exact Kd.R_nil _ _ _ _ _ | exact Kd.N_nil _ _ _ _ _ | exact Kd.V_nil _ _ _ _ _ | exact Kd.Q_nil _ _ _ _ _ | exact Kd.S_nil _ _ _ _ _, by repeat (first | (with_reducible first | exact HB.out | apply ba_ | apply bd_ | apply be_ | refine bs_ ?_ GE331.out) | exact HB.out)⟩
end Go.Proofs.Ytmdehehgmnihpaa.PFnLinkSteps
