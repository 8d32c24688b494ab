-- Written by a program of this session (wip/xp): not trusted, Lean checks it.
import Derived.Test.YtflopendlbciaaaPFnLinkOncex0
import Derived.Test.YtflopendlbciaaaPFnLinkOncex1
import Derived.Test.YtflopendlbciaaaPFnLinkOncex5
import Derived.Test.YtflopendlbciaaaPFnLinkOncex9
import Derived.Test.YtflopendlbciaaaPFnLinkOncex13
import Derived.Test.YtflopendlbciaaaPFnLinkOncex14
namespace Go.Proofs.Ytflopendlbciaaa.PFnLinkOnce
open Go.RowKit Go.Proofs.YtflopendlbciaaaW.PrintWords Go.Proofs.YtflopendlbciaaaW.PrintLast Go.Proofs.YtflopendlbciaaaW.PrintMore
attribute [local go_sem] max2_int min2_int max_two min_two max_three min_three max_four min_four   -- for this text's walks alone
set_option linter.unusedVariables false
set_option linter.unusedSimpArgs false

/-! ### laws_FnLinkOnce: function 3, all its calls in a row -/
theorem lit_at {α : Type} (d : Kd α) {w0 W : World} (base e n : Nat) {xs : List α} {inner : List Value} {ok okp : Nat → Prop} (hrep : Reps (d.M W base okp) d.sz xs inner) (hok : ∀ k, okp k → ok k) (hfresh : ok W.heap.size) (HB : Below base w0 W) (hbase : base ≤ W.heap.size) (hm : xs.length ≤ 9223372036854775807) (hn : n = xs.length) :
  d.R e (W.alloc (.cells inner.toArray e)) base ok (.slice (some ⟨W.heap.size, 0, none⟩) n n) xs ∧ Below base w0 (W.alloc (.cells inner.toArray e)) ∧ W.grownBy (W.alloc (.cells inner.toArray e)) none := by
 subst hn
 refine ⟨⟨fun k hk => ?_, inner, ?_, ?_⟩, HB.alloc hbase _, World.grownBy_alloc W _ none⟩
 ·have h1 : W.heap.size = k := by simpa [Value.ownBlock] using hk
  subst h1
  exact hfresh
 ·have h2 := World.ownsRow_lit (base := base) (e := e) (size := d.sz) W inner.toArray xs.length hbase (by simpa [maxLen] using hm) (by simpa using hrep.1)
  simpa using h2
 ·refine hrep.imp_ (fun p c hp => d.M_mono (fun k hk => ⟨hok k hk.1, fun he => ?_⟩) (Kd.M_below (d.M_bound hp) (ba_ (Below.refl _ _) _)))
  have h3 : k = W.heap.size := by simpa [Value.ownBlock] using he
  have := hk.2.2.1
  omega
def laws_FnLinkOnce.l7 : Nat → (List (S39)) → (List (List Int)) → (Int) → (Int) → (Int) → (List S68) → (Int) → (Int) → (List (List Int)) → (List (List Int)) → (List Int) → Option ((List (List Int)) × (Int) × (Int) × (Int) × (List S68) × (Int) × (Int) × (List (List Int)) × (List (List Int)) × (List Int))
 | 0, _, _, _, _, _, _, _, _, _, _, _ => none
 | k + 1, t2, x7_s5, x7_s6, x7_s7, x7_0, x7_1, x7_2, x7_3, x7_4, x7_5, x7_6 => (if x7_s7 < (t2.length : Int) then (if 0 ≤ x7_s7 then (if x7_s7 < (t2.length : Int) then ((impl_LinkStep.f k x7_0 x7_1 x7_2 x7_3 x7_4 x7_5 x7_6 ((rd_T39 t2 x7_s7).f0) ((rd_T39 t2 x7_s7).f1)).bind fun ⟨t11, t12, t13, t14, t15, t16, t17, t18⟩ => (if t18 = true then (if ((rd_T39 t2 x7_s7).f0) = 7 then (if (x7_s5.length + 1) * 24 ≤ 140737488355328 then (if ((rd_T39 t2 x7_s7).f0) = 4 then ((laws_btoi.f true).bind fun t21 => (laws_FnLinkOnce.l7 k t2 (x7_s5 ++ [([(wrap64 (Int.tdiv ((rd_T39 t2 x7_s7).f1) 256)), (Int.tmod ((rd_T39 t2 x7_s7).f1) 256)] : List Int)]) (wrap64 (x7_s6 + t21)) (wrap64 (x7_s7 + 1)) t11 t12 t13 t14 t15 t16 t17)) else ((laws_btoi.f false).bind fun t22 => (laws_FnLinkOnce.l7 k t2 (x7_s5 ++ [([(wrap64 (Int.tdiv ((rd_T39 t2 x7_s7).f1) 256)), (Int.tmod ((rd_T39 t2 x7_s7).f1) 256)] : List Int)]) (wrap64 (x7_s6 + t22)) (wrap64 (x7_s7 + 1)) t11 t12 t13 t14 t15 t16 t17))) else none) else (if ((rd_T39 t2 x7_s7).f0) = 4 then ((laws_btoi.f true).bind fun t23 => (laws_FnLinkOnce.l7 k t2 x7_s5 (wrap64 (x7_s6 + t23)) (wrap64 (x7_s7 + 1)) t11 t12 t13 t14 t15 t16 t17)) else ((laws_btoi.f false).bind fun t24 => (laws_FnLinkOnce.l7 k t2 x7_s5 (wrap64 (x7_s6 + t24)) (wrap64 (x7_s7 + 1)) t11 t12 t13 t14 t15 t16 t17)))) else (if ((rd_T39 t2 x7_s7).f0) = 4 then ((laws_btoi.f true).bind fun t25 => (laws_FnLinkOnce.l7 k t2 x7_s5 (wrap64 (x7_s6 + t25)) (wrap64 (x7_s7 + 1)) t11 t12 t13 t14 t15 t16 t17)) else ((laws_btoi.f false).bind fun t26 => (laws_FnLinkOnce.l7 k t2 x7_s5 (wrap64 (x7_s6 + t26)) (wrap64 (x7_s7 + 1)) t11 t12 t13 t14 t15 t16 t17))))) else none) else none) else (some (x7_s5, x7_s6, x7_s7, x7_0, x7_1, x7_2, x7_3, x7_4, x7_5, x7_6)))
def laws_FnLinkOnce.l35 : Nat → (List (List Int)) → (List (List Int)) → (Bool) → (Int) → Option ((Bool) × (Int))
 | 0, _, _, _, _ => none
 | k + 1, z7_4, z7_s5, x35_s2, x35_s12 => (if x35_s12 < (z7_4.length : Int) then (if (z7_s5.length : Int) ≤ x35_s12 then none else (if 0 ≤ x35_s12 then (if x35_s12 < (z7_4.length : Int) then (if 0 ≤ x35_s12 then (if x35_s12 < (z7_s5.length : Int) then ((laws_sameInts.f k (rdl_ z7_4 x35_s12) (rdl_ z7_s5 x35_s12)).bind fun t51 => (if t51 = true then (laws_FnLinkOnce.l35 k z7_4 z7_s5 x35_s2 (wrap64 (x35_s12 + 1))) else none)) else none) else none) else none) else none)) else (some (x35_s2, x35_s12)))
def laws_FnLinkOnce.l42 : Nat → (List (List Int)) → (List (List Int)) → (Bool) → (Int) → Option ((Bool) × (Int))
 | 0, _, _, _, _ => none
 | k + 1, z7_s5, t56, x42_s2, x42_s14 => (if x42_s14 < (z7_s5.length : Int) then (if 0 ≤ x42_s14 then (if x42_s14 < (t56.length : Int) then (if 0 ≤ x42_s14 then (if x42_s14 < (z7_s5.length : Int) then ((laws_sameInts.f k (rdl_ t56 x42_s14) (rdl_ z7_s5 x42_s14)).bind fun t59 => (if t59 = true then (laws_FnLinkOnce.l42 k z7_s5 t56 x42_s2 (wrap64 (x42_s14 + 1))) else none)) else none) else none) else none) else none) else (some (x42_s2, x42_s14)))
def laws_FnLinkOnce.f (k : Nat) (l0 : List Int) : Option (Bool) := ((laws_big.f l0).bind fun t1 => (if t1 = true then (some true) else ((spec_DrawLinkActs.f k l0).bind fun t2 => ((impl_NewLink.f k).bind fun ⟨t3, t4, t5, t6, t7, t8, t9⟩ => ((laws_FnLinkOnce.l7 k t2 ([] : List (List Int)) 0 0 t3 t4 t5 t6 t7 t8 t9).bind fun ⟨z7_s5, z7_s6, z7_s7, z7_0, z7_1, z7_2, z7_3, z7_4, z7_5, z7_6⟩ => (if 3 < z7_s6 then (some true) else ((impl_NewLink.f k).bind fun ⟨t27, t28, t29, t30, t31, t32, t33⟩ => ((impl_LinkStep.f k t27 t28 t29 t30 t31 t32 t33 7 258).bind fun ⟨t34, t35, t36, t37, t38, t39, t40, t41⟩ => ((impl_DrainLink.f k t34 t35 t36 t37 t38 t39 t40).bind fun ⟨t42, t43, t44, t45, t46, t47, t48⟩ => (if t41 = true then (if (t46.length : Int) = 1 then (if 0 ≤ (0 : Int) then (if (0 : Int) < (t46.length : Int) then ((laws_sameInts.f k (rdl_ t46 (0 : Int)) ([1, 2] : List Int)).bind fun t50 => (if t50 = true then ((laws_FnLinkOnce.l35 k z7_4 z7_s5 false 0).bind fun ⟨z35_s2, z35_s12⟩ => ((impl_DrainLink.f k z7_0 z7_1 z7_2 z7_3 z7_4 z7_5 z7_6).bind fun ⟨t52, t53, t54, t55, t56, t57, t58⟩ => (if (t56.length : Int) = (z7_s5.length : Int) then (if (t53.length : Int) = 0 then ((laws_FnLinkOnce.l42 k z7_s5 t56 z35_s2 0).bind fun ⟨z42_s2, z42_s14⟩ => (some true)) else (some false)) else (some false)))) else (some false))) else none) else none) else (some false)) else (some false)))))))))))
set_option maxHeartbeats 8000000 in
set_option maxRecDepth 100000 in
theorem laws_FnLinkOnce.calls (k : Nat) (A0 : Option Addr) (c0 : Nat) (l0 : List Int) (r : Bool) (w : World) (hr0 : Kd.C (Kd.int .u8) w A0 l0.length l0) (hc0 : l0.length ≤ c0) (hrt : A_ (r = true)) (h : laws_FnLinkOnce.f k l0 = some r) :
  Calls Try.prog 3 #[.slice A0 l0.length c0] w fun e w' => e = .returned (.bool r) ∧ Below w.heap.size w w' := by
 have HR0 := A_.mk hr0
 have HC0 := A_.mk hc0
 clear hr0 hc0
 obtain rfl := hrt.out
 clear hrt
 have HB := A_.mk (Below.refl w.heap.size w)
 unfold laws_FnLinkOnce.f at h
 have H := h
 clear h
 replace H := oa_ H
 obtain ⟨t1, A1, H⟩ := H
 replace H := A_.mk H
 have hu34 := Try.underlying34
 go_enter Try.func3, Try.ntmps3
 have HS := A_.mk (Nat.le_refl w.heap.size)
 go_wp2_with (fail)
 (with_reducible refine (laws_big.calls _ _ l0 t1 _ (Kd.C_below HR0.out HB.out) HC0.out A1.out).mono ?_)
 rintro e w1_ ⟨rfl, hb⟩
 replace hb := Drawn0.below hb
 replace HS := aHs HS hb.size
 replace HB := aHB HB hb
 clear hb 
 replace H := H.out
 by_cases hc1_ : t1 = true
 case pos =>
  rw [if_pos hc1_] at H
  subst hc1_
  clear H
  go_wp2
  go_ret
  exact ⟨rfl, HB.out⟩
 rw [if_neg hc1_] at H
 replace hc1_ := eq_false_of_ne_true hc1_
 subst hc1_
 replace H := oa_ H
 obtain ⟨t2, A2, H⟩ := H
 replace H := oa_ H
 obtain ⟨⟨t3, t4, t5, t6, t7, t8, t9⟩, A3, H⟩ := H
 try dsimp only at H
 obtain ⟨y10, Ny10⟩ : ∃ q_, q_ = ([] : List (List Int)) := ⟨_, rfl⟩
 rw [← Ny10] at H
 replace Ny10 := A_.mk Ny10
 replace H := ob_ H
 obtain ⟨⟨z7_s5, z7_s6, z7_s7, z7_0, z7_1, z7_2, z7_3, z7_4, z7_5, z7_6⟩, AL_, H⟩ := H
 have HRL7 := A_.mk H
 have AL7 := A_.mk AL_
 clear H AL_
 go_wp2_with (fail)
 (with_reducible refine (spec_DrawLinkActs.calls k _ _ l0 t2 _ (Kd.C_below HR0.out HB.out) HC0.out A2.out).mono ?_)
 rintro e w2_ ⟨v0_, rfl, ho0_, hb⟩
 replace HS := aHs HS hb.size
 obtain ⟨Ao2_0, co2_0, ev_⟩ := Kd.R_slice ho0_
 subst ev_
 have HO2_0 := aRm ho0_ HB.out.size
 replace HB := aHB HB hb
 clear hb ho0_
 go_wp2_with (first | ((with_reducible refine gc_ (f := 6) rfl ?_); refine gl_ (some 19) Try.func6 #[] ?_; (with_reducible refine (impl_NewLink.calls k t3 t4 t5 t6 t7 t8 t9 _ A3.out).mono ?_); rintro e w3_ ⟨f3_, v0_, v1_, v2_, v3_, rfl, ho0_, ho1_, ho2_, ho3_, hb⟩; refine ⟨_, rfl, ?_⟩; replace HS := aHs HS hb.size; obtain ⟨Ao3_0, co3_0, ev_⟩ := Kd.S_slice ho0_; subst ev_; have HO3_0 := aSn ho0_ HB.out.size; obtain ⟨Ao3_1, co3_1, ev_⟩ := Kd.S_slice ho1_; subst ev_; have HO3_1 := aSn ho1_ HB.out.size; obtain ⟨Ao3_2, co3_2, ev_⟩ := Kd.S_slice ho2_; subst ev_; have HO3_2 := aSn ho2_ HB.out.size; obtain ⟨Ao3_3, co3_3, ev_⟩ := Kd.R_slice ho3_; subst ev_; have HO3_3 := aRn ho3_ HB.out.size; replace HO2_0 := aRb HO2_0 hb; replace HB := aHB HB hb; clear hb ho0_ ho1_ ho2_ ho3_) | ((with_reducible refine gd_ (N := 4) rfl ?_); refine by_ 4 (cs := #[.int .i64 0, .slice none 0 0, .int .i64 0, .int .i64 0, .slice none 0 0, .slice none 0 0, .slice none 0 0]) (t := 34) ?_; intro gb4_ hg w4_ hbox hb; replace HS := A_.mk (And.intro HS.out (show gb4_ = w3_.heap.size ∧ gb4_ < w4_.heap.size from ⟨hg, blk_lt hbox⟩)); replace HO2_0 := aRb HO2_0 hb; replace HO3_0 := aSb HO3_0 hb; replace HO3_1 := aSb HO3_1 hb; replace HO3_2 := aSb HO3_2 hb; replace HO3_3 := aRb HO3_3 hb; replace HB := aHB HB hb; have BK4 := A_.mk hbox; clear hbox hb hg; have Q4 := blk7_ BK4.out) | ((with_reducible refine gate_store (t := 34) (p := 4) rfl ?_); have qf0 := bf_ BK4.out 0; have qf1 := bf_ BK4.out 1; have qf2 := bf_ BK4.out 2; have qf3 := bf_ BK4.out 3; have qf4 := bf_ BK4.out 4; have qf5 := bf_ BK4.out 5; have qf6 := bf_ BK4.out 6; refine se_ (t := 34) (p := 4) (v := ?vo_5) (w1 := (ch7_ w4_ gb4_ (.int .i64 t3) (.slice Ao3_0 t4.length co3_0) (.int .i64 t5) (.int .i64 t6) (.slice Ao3_1 t7.length co3_1) (.slice Ao3_2 t8.length co3_2) (.slice Ao3_3 t9.length co3_3))) ?hg ?ho ?hn ?hr ?_; (case ho => rfl); (case hg => rfl); (case hn => rfl); (case hr => first | (go_simp; done) | (go_simp; rfl)); intro w5_ hw; clear qf0 qf1 qf2 qf3 qf4 qf5 qf6; obtain ⟨hbx, hkp, hbb⟩ := st7_ hw BK4 HB (by have := HS.out; omega); clear hw; replace HO2_0 := aRk HO2_0 hkp HS; replace HO3_0 := aSk HO3_0 hkp HS; replace HO3_1 := aSk HO3_1 hkp HS; replace HO3_2 := aSk HO3_2 hkp HS; replace HO3_3 := aRk HO3_3 hkp HS; replace BK4 := A_.mk hbx; replace HB := A_.mk hbb; replace HS := aHs HS hkp.1; clear hkp hbb hbx Q4; have Q4 := blk7_ BK4.out) | ((with_reducible refine gd_ (N := 20) rfl ?_); refine Kd.S_lit (Kd.slice 3 (Kd.int .i64)) (w0 := w) w.heap.size 32 ?hg (N := 20) ?hd (xs := []) (inner := []) (ok := fun k_ => w5_.heap.size ≤ k_) (okp := fun k_ => w5_.heap.size ≤ k_) ?hr ?hp (fun _ hk => hk) (Nat.le_refl _) HB.out HB.out.size (by simp) ?_; (case hd => rfl); (case hg => rfl); (case hr => first | (go_simp; done) | (go_simp; rfl)); (case hp => exact (Reps.none _ _)); intro v_ w6_ ho hbb hg_ hn_; clear hn_; rw [← Ny10.out] at ho; have hkp : Kept w5_ w6_ (fun k_ => k_ < 0) := Kept.of_grown hg_ (Kept.refl _ _) (fun k_ e_ => by cases e_); replace HO2_0 := aRk HO2_0 hkp HS; replace HO3_0 := aSk HO3_0 hkp HS; replace HO3_1 := aSk HO3_1 hkp HS; replace HO3_2 := aSk HO3_2 hkp HS; replace HO3_3 := aRk HO3_3 hkp HS; replace BK4 := aBk BK4 hkp HS; replace HS := aHs HS hkp.1; obtain ⟨Ao6, co6, ev_⟩ := Kd.S_slice ho; subst ev_; have HO6 := A_.mk (Kd.S_mono (ok' := (fun k_ => ((w5_.heap.size ≤ k_ ∧ k_ < w6_.heap.size)))) (Kd.S_bound ho) (fun k_ hk_ => ⟨hk_.1, hk_.2.2.1⟩)); replace HB := A_.mk hbb; clear hkp hbb hg_ ho Q4; have Q4 := blk7_ BK4.out))
 obtain ⟨fp46_, hfp_⟩ : ∃ f_ : Nat → Nat, ∀ k_, f_ k_ = (if ((w5_.heap.size ≤ k_ ∧ k_ < w6_.heap.size)) then 0 else (if ((w2_.heap.size ≤ k_ ∧ k_ < w3_.heap.size) ∧ f3_ k_ = 0) then 1 else (if ((w2_.heap.size ≤ k_ ∧ k_ < w3_.heap.size) ∧ f3_ k_ = 1) then 2 else (if ((w2_.heap.size ≤ k_ ∧ k_ < w3_.heap.size) ∧ f3_ k_ = 2) then 3 else (if ((w2_.heap.size ≤ k_ ∧ k_ < w3_.heap.size) ∧ f3_ k_ = 3) then 4 else 5))))) := ⟨fun k_ => (if ((w5_.heap.size ≤ k_ ∧ k_ < w6_.heap.size)) then 0 else (if ((w2_.heap.size ≤ k_ ∧ k_ < w3_.heap.size) ∧ f3_ k_ = 0) then 1 else (if ((w2_.heap.size ≤ k_ ∧ k_ < w3_.heap.size) ∧ f3_ k_ = 1) then 2 else (if ((w2_.heap.size ≤ k_ ∧ k_ < w3_.heap.size) ∧ f3_ k_ = 2) then 3 else (if ((w2_.heap.size ≤ k_ ∧ k_ < w3_.heap.size) ∧ f3_ k_ = 3) then 4 else 5))))), fun _ => rfl⟩
 have hcp0_ : ∀ k_, (((w5_.heap.size ≤ k_ ∧ k_ < w6_.heap.size))) → ((w2_.heap.size ≤ k_ ∧ k_ < w6_.heap.size) ∧ fp46_ k_ = 0) := fun k_ hk_ => ⟨by have := HS.out; omega, by rw [hfp_]; have := HS.out; repeat' (first | omega | split)⟩
 have hcp1_ : ∀ k_, (((w2_.heap.size ≤ k_ ∧ k_ < w3_.heap.size) ∧ f3_ k_ = 0)) → ((w2_.heap.size ≤ k_ ∧ k_ < w6_.heap.size) ∧ fp46_ k_ = 1) := fun k_ hk_ => ⟨by have := HS.out; omega, by rw [hfp_]; have := HS.out; repeat' (first | omega | split)⟩
 have hcp2_ : ∀ k_, (((w2_.heap.size ≤ k_ ∧ k_ < w3_.heap.size) ∧ f3_ k_ = 1)) → ((w2_.heap.size ≤ k_ ∧ k_ < w6_.heap.size) ∧ fp46_ k_ = 2) := fun k_ hk_ => ⟨by have := HS.out; omega, by rw [hfp_]; have := HS.out; repeat' (first | omega | split)⟩
 have hcp3_ : ∀ k_, (((w2_.heap.size ≤ k_ ∧ k_ < w3_.heap.size) ∧ f3_ k_ = 2)) → ((w2_.heap.size ≤ k_ ∧ k_ < w6_.heap.size) ∧ fp46_ k_ = 3) := fun k_ hk_ => ⟨by have := HS.out; omega, by rw [hfp_]; have := HS.out; repeat' (first | omega | split)⟩
 have hcp4_ : ∀ k_, (((w2_.heap.size ≤ k_ ∧ k_ < w3_.heap.size) ∧ f3_ k_ = 3)) → ((w2_.heap.size ≤ k_ ∧ k_ < w6_.heap.size) ∧ fp46_ k_ = 4) := fun k_ hk_ => ⟨by have := HS.out; omega, by rw [hfp_]; have := HS.out; repeat' (first | omega | split)⟩
 have hfb4_ : fp46_ gb4_ = 5 := by rw [hfp_]; have := HS.out; repeat' (first | omega | split)
 go_loopg [5, 6, 7] k (fun kq v5 v6 v7 w' => ∃ (fx7_ : Nat → Nat) (Ax7_s5 : Option Addr) (Ax7_1 : Option Addr) (Ax7_4 : Option Addr) (Ax7_5 : Option Addr) (Ax7_6 : Option Addr) (cx7_s5 : Nat) (cx7_1 : Nat) (cx7_4 : Nat) (cx7_5 : Nat) (cx7_6 : Nat) (x7_s5 : List (List Int)) (x7_s6 : Int) (x7_s7 : Int) (x7_0 : Int) (x7_1 : List S68) (x7_2 : Int) (x7_3 : Int) (x7_4 : List (List Int)) (x7_5 : List (List Int)) (x7_6 : List Int), v5 = .slice Ax7_s5 x7_s5.length cx7_s5 ∧ v6 = .int .i64 x7_s6 ∧ v7 = .int .i64 x7_s7 ∧ A_ (laws_FnLinkOnce.l7 kq t2 x7_s5 x7_s6 x7_s7 x7_0 x7_1 x7_2 x7_3 x7_4 x7_5 x7_6 = some (z7_s5, z7_s6, z7_s7, z7_0, z7_1, z7_2, z7_3, z7_4, z7_5, z7_6)) ∧ A_ (kq ≤ k) ∧ A_ (w'.heap[gb4_]? = some (.cells #[.int .i64 x7_0, .slice Ax7_1 x7_1.length cx7_1, .int .i64 x7_2, .int .i64 x7_3, .slice Ax7_4 x7_4.length cx7_4, .slice Ax7_5 x7_5.length cx7_5, .slice Ax7_6 x7_6.length cx7_6] 34 (0, 0))) ∧ A_ (Kd.S (Kd.slice 3 (Kd.int .i64)) 32 w' w.heap.size (fun k_ => (w2_.heap.size ≤ k_ ∧ k_ < w'.heap.size) ∧ fx7_ k_ = 0) (.slice Ax7_s5 x7_s5.length cx7_s5) x7_s5) ∧ A_ (Kd.S k68 68 w' w.heap.size (fun k_ => (w2_.heap.size ≤ k_ ∧ k_ < w'.heap.size) ∧ fx7_ k_ = 1) (.slice Ax7_1 x7_1.length cx7_1) x7_1) ∧ A_ (Kd.S (Kd.slice 3 (Kd.int .i64)) 32 w' w.heap.size (fun k_ => (w2_.heap.size ≤ k_ ∧ k_ < w'.heap.size) ∧ fx7_ k_ = 2) (.slice Ax7_4 x7_4.length cx7_4) x7_4) ∧ A_ (Kd.S (Kd.slice 3 (Kd.int .i64)) 32 w' w.heap.size (fun k_ => (w2_.heap.size ≤ k_ ∧ k_ < w'.heap.size) ∧ fx7_ k_ = 3) (.slice Ax7_5 x7_5.length cx7_5) x7_5) ∧ A_ (Kd.R (Kd.int .i64) 3 w' w.heap.size (fun k_ => (w2_.heap.size ≤ k_ ∧ k_ < w'.heap.size) ∧ fx7_ k_ = 4) (.slice Ax7_6 x7_6.length cx7_6) x7_6) ∧ A_ (5 ≤ fx7_ gb4_) ∧ A_ (Kd.R k39 39 w' w.heap.size (fun k_ => ((w1_.heap.size ≤ k_ ∧ k_ < w2_.heap.size))) (.slice Ao2_0 t2.length co2_0) t2) ∧ A_ (Below w.heap.size w w') ∧ A_ (w6_.heap.size ≤ w'.heap.size))
 case atStart => exact ⟨fp46_, Ao6, Ao3_0, Ao3_1, Ao3_2, Ao3_3, co6, co3_0, co3_1, co3_2, co3_3, y10, 0, 0, t3, t4, t5, t6, t7, t8, t9, (by first | rfl | (simp; done) | (simp [*]; done)), (by first | rfl | (simp; done) | (simp [*]; done)), (by first | rfl | (simp; done) | (simp [*]; done)), AL7, ⟨Nat.le_refl _⟩, BK4, ⟨Kd.S_mono HO6.out hcp0_⟩, ⟨Kd.S_mono HO3_0.out hcp1_⟩, ⟨Kd.S_mono HO3_1.out hcp2_⟩, ⟨Kd.S_mono HO3_2.out hcp3_⟩, ⟨Kd.R_mono HO3_3.out hcp4_⟩, ⟨Nat.le_of_eq hfb4_.symm⟩, HO2_0, HB, ⟨Nat.le_refl _⟩⟩
 case round =>
  clear AL7 HB BK4 HO6 HO3_0 HO3_1 HO3_2 HO3_3 HO2_0 Q4 hfp_ hcp0_ hcp1_ hcp2_ hcp3_ hcp4_ hfb4_
  obtain ⟨fx7_, Ax7_s5, Ax7_1, Ax7_4, Ax7_5, Ax7_6, cx7_s5, cx7_1, cx7_4, cx7_5, cx7_6, x7_s5, x7_s6, x7_s7, x7_0, x7_1, x7_2, x7_3, x7_4, x7_5, x7_6, rfl, rfl, rfl, HA, HKL7, BK4, HOx7_s5, HOx7_1, HOx7_4, HOx7_5, HOx7_6, HG4_, HO2_0, HB, HSL_⟩ := hrel
  rename World => wq7_
  replace HS := aHs HS HSL_.out
  clear HSL_
  replace HS := aHs HS HG4_.out
  clear HG4_
  cases gk with
  | zero => exact absurd HA.out (by simp [laws_FnLinkOnce.l7])
  | succ kq7_ =>
   have H := HA.out
   clear HA
   simp only [laws_FnLinkOnce.l7] at H
   have Q4 := blk7_ BK4.out
   by_cases hc2_ : x7_s7 < (t2.length : Int)
   case neg =>
    rw [if_neg hc2_] at H
    have hc2_b0 : decide (x7_s7 < (t2.length : Int)) = false := decide_eq_false hc2_
    have hc2_b1 : decide (x7_s7 < t2.length) = false := decide_eq_false (by omega)
    simp only [Option.some.injEq, Prod.mk.injEq] at H
    obtain ⟨rfl, rfl, rfl, rfl, rfl, rfl, rfl, rfl, rfl, rfl⟩ := H
    have H := HRL7.out
    clear HRL7
    (try dsimp only at H)
    by_cases hc3_ : 3 < x7_s6
    case pos =>
     rw [if_pos hc3_] at H
     have hc3_b0 : decide (3 < x7_s6) = true := decide_eq_true hc3_
     replace hc3_ := A_.mk hc3_
     clear H
     go_wp2
     go_ret
     exact ⟨rfl, HB.out⟩
    rw [if_neg hc3_] at H
    have hc3_b0 : decide (3 < x7_s6) = false := decide_eq_false hc3_
    replace hc3_ := A_.mk hc3_
    replace H := oa_ H
    obtain ⟨⟨t27, t28, t29, t30, t31, t32, t33⟩, A26, H⟩ := H
    try dsimp only at H
    replace H := oa_ H
    obtain ⟨⟨t34, t35, t36, t37, t38, t39, t40, t41⟩, A27, H⟩ := H
    try dsimp only at H
    replace H := oa_ H
    obtain ⟨⟨t42, t43, t44, t45, t46, t47, t48⟩, A30, H⟩ := H
    try dsimp only at H
    by_cases hc4_ : t41 = true
    case neg =>
     rw [if_neg hc4_] at H
     replace hc4_ := eq_false_of_ne_true hc4_
     subst hc4_
     exact absurd H (by simp)
    rw [if_pos hc4_] at H
    subst hc4_
    by_cases hc5_ : (t46.length : Int) = 1
    case neg =>
     rw [if_neg hc5_] at H
     have hc5_b0 : ((t46.length : Int) == 1) = false := beq_eq_false_iff_ne.mpr hc5_
     have hc5_bn : ((t46.length : Int) != 1) = true := bne_iff_ne.mpr hc5_
     have hc5_b1 : (t46.length == 1) = false := by first | simpa using hc5_ | (simp at hc5_ ⊢; omega)
     exact absurd H (by simp)
    rw [if_pos hc5_] at H
    have hc5_b0 : ((t46.length : Int) == 1) = true := beq_iff_eq.mpr hc5_
    have hc5_bn : ((t46.length : Int) != 1) = false := bne_eq_false_iff_eq.mpr hc5_
    have hc5_b1 : (t46.length == 1) = true := by first | simpa using hc5_ | (simp at hc5_ ⊢; omega)
    replace hc5_ := A_.mk hc5_
    by_cases hp32_ : 0 ≤ (0 : Int)
    case neg => rw [if_neg hp32_] at H; cases H
    rw [if_pos hp32_] at H
    by_cases hq32_ : (0 : Int) < (t46.length : Int)
    case neg => rw [if_neg hq32_] at H; cases H
    rw [if_pos hq32_] at H
    have EB32 := A_.mk (And.intro hp32_ hq32_)
    have hn32_ : (0 < t46.length) = True := eq_true (by omega)
    replace hp32_ := eq_true hp32_
    replace hq32_ := eq_true hq32_
    obtain ⟨y49, Ny49⟩ : ∃ q_, q_ = ([1, 2] : List Int) := ⟨_, rfl⟩
    rw [← Ny49] at H
    replace Ny49 := A_.mk Ny49
    replace H := oa_ H
    obtain ⟨t50, A34, H⟩ := H
    replace H := A_.mk H
    clear Q4
    have Q4 := blk7_ BK4.out
    go_wp2_with (first | ((with_reducible refine gc_ (f := 6) rfl ?_); refine gl_ (some 74) Try.func6 #[] ?_; (with_reducible refine (impl_NewLink.calls k t27 t28 t29 t30 t31 t32 t33 _ A26.out).mono ?_); rintro e w26_ ⟨f26_, v0_, v1_, v2_, v3_, rfl, ho0_, ho1_, ho2_, ho3_, hb⟩; refine ⟨_, rfl, ?_⟩; replace HS := aHs HS hb.size; obtain ⟨Ao26_0, co26_0, ev_⟩ := Kd.S_slice ho0_; subst ev_; have HO26_0 := aSn ho0_ HB.out.size; obtain ⟨Ao26_1, co26_1, ev_⟩ := Kd.S_slice ho1_; subst ev_; have HO26_1 := aSn ho1_ HB.out.size; obtain ⟨Ao26_2, co26_2, ev_⟩ := Kd.S_slice ho2_; subst ev_; have HO26_2 := aSn ho2_ HB.out.size; obtain ⟨Ao26_3, co26_3, ev_⟩ := Kd.R_slice ho3_; subst ev_; have HO26_3 := aRn ho3_ HB.out.size; replace HOx7_s5 := aSb HOx7_s5 hb; replace HOx7_1 := aSb HOx7_1 hb; replace HOx7_4 := aSb HOx7_4 hb; replace HOx7_5 := aSb HOx7_5 hb; replace HOx7_6 := aRb HOx7_6 hb; replace BK4 := aBb BK4 hb; replace HB := aHB HB hb; clear hb ho0_ ho1_ ho2_ ho3_ Q4; have Q4 := blk7_ BK4.out) | ((with_reducible refine gc_ (f := 7) rfl ?_); refine gl_ (some 76) Try.func7 #[.agg #[.int .i64 t27, .slice Ao26_0 t28.length co26_0, .int .i64 t29, .int .i64 t30, .slice Ao26_1 t31.length co26_1, .slice Ao26_2 t32.length co26_2, .slice Ao26_3 t33.length co26_3], .agg #[.int .i64 7, .int .i64 258]] ?_; (with_reducible refine (impl_LinkStep.calls k t27 _ _ t28 t29 t30 _ _ t31 _ _ t32 _ _ t33 7 258 t34 t35 t36 t37 t38 t39 t40 true _ (Kd.S_reads' HO26_0.out).2.2 (Kd.S_reads' HO26_0.out).2.1 (Kd.S_reads' HO26_1.out).2.2 (Kd.S_reads' HO26_1.out).2.1 (Kd.S_reads' HO26_2.out).2.2 (Kd.S_reads' HO26_2.out).2.1 (Kd.R_reads' HO26_3.out).2.2 (Kd.R_reads' HO26_3.out).2.1 A27.out).mono ?_); rintro e w27_ ⟨f27_, v0_, v1_, v2_, v3_, rfl, ho0_, ho1_, ho2_, ho3_, hb⟩; refine ⟨_, rfl, ?_⟩; replace HS := aHs HS hb.size; obtain ⟨Ao27_0, co27_0, ev_⟩ := Kd.S_slice ho0_; subst ev_; have HO27_0 := aSn ho0_ HB.out.size; obtain ⟨Ao27_1, co27_1, ev_⟩ := Kd.S_slice ho1_; subst ev_; have HO27_1 := aSn ho1_ HB.out.size; obtain ⟨Ao27_2, co27_2, ev_⟩ := Kd.S_slice ho2_; subst ev_; have HO27_2 := aSn ho2_ HB.out.size; obtain ⟨Ao27_3, co27_3, ev_⟩ := Kd.R_slice ho3_; subst ev_; have HO27_3 := aRn ho3_ HB.out.size; replace HOx7_s5 := aSb HOx7_s5 hb; replace HOx7_1 := aSb HOx7_1 hb; replace HOx7_4 := aSb HOx7_4 hb; replace HOx7_5 := aSb HOx7_5 hb; replace HOx7_6 := aRb HOx7_6 hb; replace HO26_0 := aSb HO26_0 hb; replace HO26_1 := aSb HO26_1 hb; replace HO26_2 := aSb HO26_2 hb; replace HO26_3 := aRb HO26_3 hb; replace BK4 := aBb BK4 hb; replace HB := aHB HB hb; clear hb ho0_ ho1_ ho2_ ho3_ Q4; have Q4 := blk7_ BK4.out) | ((with_reducible refine gd_ (N := 10) rfl ?_); refine by_ 10 (cs := #[.int .i64 0, .slice none 0 0, .int .i64 0, .int .i64 0, .slice none 0 0, .slice none 0 0, .slice none 0 0]) (t := 34) ?_; intro gb28_ hg w28_ hbox hb; replace HS := A_.mk (And.intro HS.out (show gb28_ = w27_.heap.size ∧ gb28_ < w28_.heap.size from ⟨hg, blk_lt hbox⟩)); replace HOx7_s5 := aSb HOx7_s5 hb; replace HOx7_1 := aSb HOx7_1 hb; replace HOx7_4 := aSb HOx7_4 hb; replace HOx7_5 := aSb HOx7_5 hb; replace HOx7_6 := aRb HOx7_6 hb; replace HO27_0 := aSb HO27_0 hb; replace HO27_1 := aSb HO27_1 hb; replace HO27_2 := aSb HO27_2 hb; replace HO27_3 := aRb HO27_3 hb; replace BK4 := aBb BK4 hb; replace HB := aHB HB hb; have BK28 := A_.mk hbox; clear hbox hb hg Q4; have Q4 := blk7_ BK4.out; have Q28 := blk7_ BK28.out) | ((with_reducible refine gate_store (t := 34) (p := 10) rfl ?_); have qf0 := bf_ BK28.out 0; have qf1 := bf_ BK28.out 1; have qf2 := bf_ BK28.out 2; have qf3 := bf_ BK28.out 3; have qf4 := bf_ BK28.out 4; have qf5 := bf_ BK28.out 5; have qf6 := bf_ BK28.out 6; refine se_ (t := 34) (p := 10) (v := ?vo_29) (w1 := (ch7_ w28_ gb28_ (.int .i64 t34) (.slice Ao27_0 t35.length co27_0) (.int .i64 t36) (.int .i64 t37) (.slice Ao27_1 t38.length co27_1) (.slice Ao27_2 t39.length co27_2) (.slice Ao27_3 t40.length co27_3))) ?hg ?ho ?hn ?hr ?_; (case ho => rfl); (case hg => rfl); (case hn => rfl); (case hr => first | (go_simp; done) | (go_simp; rfl)); intro w29_ hw; clear qf0 qf1 qf2 qf3 qf4 qf5 qf6; obtain ⟨hbx, hkp, hbb⟩ := st7_ hw BK28 HB (by have := HS.out; omega); clear hw; replace HOx7_s5 := aSk HOx7_s5 hkp HS; replace HOx7_1 := aSk HOx7_1 hkp HS; replace HOx7_4 := aSk HOx7_4 hkp HS; replace HOx7_5 := aSk HOx7_5 hkp HS; replace HOx7_6 := aRk HOx7_6 hkp HS; replace HO27_0 := aSk HO27_0 hkp HS; replace HO27_1 := aSk HO27_1 hkp HS; replace HO27_2 := aSk HO27_2 hkp HS; replace HO27_3 := aRk HO27_3 hkp HS; replace BK4 := aBk BK4 hkp HS; replace BK28 := A_.mk hbx; replace HB := A_.mk hbb; replace HS := aHs HS hkp.1; clear hkp hbb hbx Q4 Q28; have Q4 := blk7_ BK4.out; have Q28 := blk7_ BK28.out) | ((with_reducible refine gc_ (f := 9) rfl ?_); refine gl_ (some 80) Try.func9 #[.agg #[.int .i64 t34, .slice Ao27_0 t35.length co27_0, .int .i64 t36, .int .i64 t37, .slice Ao27_1 t38.length co27_1, .slice Ao27_2 t39.length co27_2, .slice Ao27_3 t40.length co27_3]] ?_; (with_reducible refine (impl_DrainLink.calls k t34 _ _ t35 t36 t37 _ _ t38 _ _ t39 _ _ t40 t42 t43 t44 t45 t46 t47 t48 _ (Kd.S_reads' HO27_0.out).2.2 (Kd.S_reads' HO27_0.out).2.1 (Kd.S_reads' HO27_1.out).2.2 (Kd.S_reads' HO27_1.out).2.1 (Kd.S_reads' HO27_2.out).2.2 (Kd.S_reads' HO27_2.out).2.1 (Kd.R_reads' HO27_3.out).2.2 (Kd.R_reads' HO27_3.out).2.1 A30.out).mono ?_); rintro e w30_ ⟨f30_, v0_, v1_, v2_, v3_, rfl, ho0_, ho1_, ho2_, ho3_, hb⟩; refine ⟨_, rfl, ?_⟩; replace HS := aHs HS hb.size; obtain ⟨Ao30_0, co30_0, ev_⟩ := Kd.S_slice ho0_; subst ev_; obtain ⟨Ao30_1, co30_1, ev_⟩ := Kd.S_slice ho1_; subst ev_; have HO30_1 := aSn ho1_ HB.out.size; obtain ⟨Ao30_2, co30_2, ev_⟩ := Kd.S_slice ho2_; subst ev_; obtain ⟨Ao30_3, co30_3, ev_⟩ := Kd.R_slice ho3_; subst ev_; replace HOx7_s5 := aSb HOx7_s5 hb; replace HOx7_1 := aSb HOx7_1 hb; replace HOx7_4 := aSb HOx7_4 hb; replace HOx7_5 := aSb HOx7_5 hb; replace HOx7_6 := aRb HOx7_6 hb; replace HO27_0 := aSb HO27_0 hb; replace HO27_1 := aSb HO27_1 hb; replace HO27_2 := aSb HO27_2 hb; replace HO27_3 := aRb HO27_3 hb; replace BK4 := aBb BK4 hb; replace BK28 := aBb BK28 hb; replace HB := aHB HB hb; clear hb ho0_ ho1_ ho2_ ho3_ Q4 Q28; have Q4 := blk7_ BK4.out; have Q28 := blk7_ BK28.out) | ((with_reducible refine gate_store (t := 34) (p := 10) rfl ?_); have qf0 := bf_ BK28.out 0; have qf1 := bf_ BK28.out 1; have qf2 := bf_ BK28.out 2; have qf3 := bf_ BK28.out 3; have qf4 := bf_ BK28.out 4; have qf5 := bf_ BK28.out 5; have qf6 := bf_ BK28.out 6; refine se_ (t := 34) (p := 10) (v := ?vo_31) (w1 := (ch7_ w30_ gb28_ (.int .i64 t42) (.slice Ao30_0 t43.length co30_0) (.int .i64 t44) (.int .i64 t45) (.slice Ao30_1 t46.length co30_1) (.slice Ao30_2 t47.length co30_2) (.slice Ao30_3 t48.length co30_3))) ?hg ?ho ?hn ?hr ?_; (case ho => rfl); (case hg => rfl); (case hn => rfl); (case hr => first | (go_simp; done) | (go_simp; rfl)); intro w31_ hw; clear qf0 qf1 qf2 qf3 qf4 qf5 qf6; obtain ⟨hbx, hkp, hbb⟩ := st7_ hw BK28 HB (by have := HS.out; omega); clear hw; replace HOx7_s5 := aSk HOx7_s5 hkp HS; replace HOx7_1 := aSk HOx7_1 hkp HS; replace HOx7_4 := aSk HOx7_4 hkp HS; replace HOx7_5 := aSk HOx7_5 hkp HS; replace HOx7_6 := aRk HOx7_6 hkp HS; replace HO30_1 := aSk HO30_1 hkp HS; replace BK4 := aBk BK4 hkp HS; replace BK28 := A_.mk hbx; replace HB := A_.mk hbb; replace HS := aHs HS hkp.1; clear hkp hbb hbx Q4 Q28; have Q4 := blk7_ BK4.out; have Q28 := blk7_ BK28.out; obtain ⟨gHO30_1_, ed_⟩ := S_at0 HO30_1.out (by have := EB32.out; omega); subst ed_; obtain ⟨A32_0, c32_0, hx_, hl_, hi_⟩ := srow_ HO30_1.out EB32.out; have HX32 := A_.mk (show w31_.cell? ⟨gHO30_1_, 0, none⟩ = some (.slice A32_0 (rdl_ t46 (0 : Int)).length c32_0) from hx_); have HD32 := A_.mk hl_; have HE32 := A_.mk hi_; clear hx_ hl_ hi_ Q4 Q28; have Q4 := blk7_ BK4.out; have Q28 := blk7_ BK28.out; have QE32 := HX32.out))
    obtain ⟨ho, hbb, hg_⟩ := lit_at (Kd.int .i64) (w0 := w) (W := w31_) w.heap.size 3 2 (xs := [1, 2]) (inner := [(.int .i64 1), (.int .i64 2)]) (ok := fun k_ => w31_.heap.size ≤ k_) (okp := fun k_ => w31_.heap.size ≤ k_) (Reps.one (show Kd.M (Kd.int .i64) _ _ _ 1 [.int .i64 1] from rfl) (Reps.one (show Kd.M (Kd.int .i64) _ _ _ 2 [.int .i64 2] from rfl) (Reps.none _ _))) (fun _ hk => hk) (Nat.le_refl _) HB.out HB.out.size (by simp) rfl
    obtain ⟨w33_, hw_⟩ : ∃ q_ : World, q_ = w31_.alloc (.cells #[(.int .i64 1), (.int .i64 2)] 3) := ⟨_, rfl⟩
    have hw2_ : w31_.alloc (.cells [(.int .i64 1), (.int .i64 2)].toArray 3) = w33_ := hw_.symm
    rw [hw2_] at ho hbb hg_
    rw [← hw_]
    obtain ⟨v_, hv_⟩ : ∃ q_ : Value, q_ = .slice (some ⟨w31_.heap.size, 0, none⟩) 2 2 := ⟨_, rfl⟩
    rw [← hv_] at ho ⊢
    have hn_ := True.intro
    clear hw_ hw2_ hv_ hn_
    rw [← Ny49.out] at ho
    have hkp : Kept w31_ w33_ (fun k_ => k_ < 0) := Kept.of_grown hg_ (Kept.refl _ _) (fun k_ e_ => by cases e_)
    replace HOx7_s5 := aSk HOx7_s5 hkp HS
    replace HOx7_1 := aSk HOx7_1 hkp HS
    replace HOx7_4 := aSk HOx7_4 hkp HS
    replace HOx7_5 := aSk HOx7_5 hkp HS
    replace HOx7_6 := aRk HOx7_6 hkp HS
    replace BK4 := aBk BK4 hkp HS
    replace BK28 := aBk BK28 hkp HS
    have hb_ : Below w31_.heap.size w31_ w33_ := ⟨hg_.os, hg_.tape, hg_.output, hg_.size, fun k_ h_ => hg_.block k_ h_ (by simp)⟩
    replace HE32 := A_.mk (Kd.C_below HE32.out hb_)
    replace HX32 := A_.mk ((hb_.cell (wl_ _ _ HX32.out)).trans HX32.out)
    clear hb_
    replace HS := aHs HS hkp.1
    obtain ⟨Ao33, co33, ev_⟩ := Kd.R_slice ho
    subst ev_
    have HO33 := A_.mk (Kd.R_mono (ok' := (fun k_ => ((w31_.heap.size ≤ k_ ∧ k_ < w33_.heap.size)))) (Kd.R_bound ho) (fun k_ hk_ => ⟨hk_.1, hk_.2.2.1⟩))
    replace HB := A_.mk hbb
    clear hkp hbb hg_ ho Q4 Q28 QE32
    have Q4 := blk7_ BK4.out
    have Q28 := blk7_ BK28.out
    have QE32 := HX32.out
    go_wp2_with (fail)
    (with_reducible refine (laws_sameInts.calls k _ _ (rdl_ t46 (0 : Int)) _ _ y49 t50 _ HE32.out HD32.out (Kd.R_reads' HO33.out).2.2 (Kd.R_reads' HO33.out).2.1 A34.out).mono ?_)
    rintro e w34_ ⟨rfl, hb⟩
    replace hb := Drawn0.below hb
    replace HS := aHs HS hb.size
    replace HOx7_s5 := aSb HOx7_s5 hb
    replace HOx7_1 := aSb HOx7_1 hb
    replace HOx7_4 := aSb HOx7_4 hb
    replace HOx7_5 := aSb HOx7_5 hb
    replace HOx7_6 := aRb HOx7_6 hb
    replace HO33 := aRb HO33 hb
    replace BK4 := aBb BK4 hb
    replace BK28 := aBb BK28 hb
    replace HE32 := A_.mk (Kd.C_below HE32.out hb)
    replace HX32 := A_.mk ((hb.cell (wl_ _ _ HX32.out)).trans HX32.out)
    replace HB := aHB HB hb
    clear hb  Q4 Q28 QE32
    have Q4 := blk7_ BK4.out
    have Q28 := blk7_ BK28.out
    have QE32 := HX32.out
    replace H := H.out
    by_cases hc6_ : t50 = true
    case neg =>
     rw [if_neg hc6_] at H
     replace hc6_ := eq_false_of_ne_true hc6_
     subst hc6_
     exact absurd H (by simp)
    rw [if_pos hc6_] at H
    subst hc6_
    replace H := ob_ H
    obtain ⟨⟨z35_s2, z35_s12⟩, AL_, H⟩ := H
    have HRL35 := A_.mk H
    have AL35 := A_.mk AL_
    clear H AL_
    go_wp2
    obtain ⟨fp47_, hfp_⟩ : ∃ f_ : Nat → Nat, ∀ k_, f_ k_ = 0 := ⟨fun k_ => 0, fun _ => rfl⟩
    have hfb4_ : fp47_ gb4_ = 0 := hfp_ _
    have hfb28_ : fp47_ gb28_ = 0 := hfp_ _
    go_loopg [2, 12] k (fun kq v2 v12 w' => ∃ (fx35_ : Nat → Nat)   (x35_s2 : Bool) (x35_s12 : Int), v2 = .bool x35_s2 ∧ v12 = .int .i64 x35_s12 ∧ A_ (laws_FnLinkOnce.l35 kq x7_4 x7_s5 x35_s2 x35_s12 = some (z35_s2, z35_s12)) ∧ A_ (kq ≤ k) ∧ A_ (w'.heap[gb4_]? = some (.cells #[.int .i64 x7_0, .slice Ax7_1 x7_1.length cx7_1, .int .i64 x7_2, .int .i64 x7_3, .slice Ax7_4 x7_4.length cx7_4, .slice Ax7_5 x7_5.length cx7_5, .slice Ax7_6 x7_6.length cx7_6] 34 (0, 0))) ∧ A_ (w'.heap[gb28_]? = some (.cells #[.int .i64 t42, .slice Ao30_0 t43.length co30_0, .int .i64 t44, .int .i64 t45, .slice (some ⟨gHO30_1_, 0, none⟩) t46.length co30_1, .slice Ao30_2 t47.length co30_2, .slice Ao30_3 t48.length co30_3] 34 (0, 0))) ∧ A_ (0 ≤ fx35_ gb4_) ∧ A_ (0 ≤ fx35_ gb28_) ∧ A_ (Kd.S (Kd.slice 3 (Kd.int .i64)) 32 w' w.heap.size (fun k_ => ((w2_.heap.size ≤ k_ ∧ k_ < wq7_.heap.size) ∧ fx7_ k_ = 0)) (.slice Ax7_s5 x7_s5.length cx7_s5) x7_s5) ∧ A_ (Kd.S k68 68 w' w.heap.size (fun k_ => ((w2_.heap.size ≤ k_ ∧ k_ < wq7_.heap.size) ∧ fx7_ k_ = 1)) (.slice Ax7_1 x7_1.length cx7_1) x7_1) ∧ A_ (Kd.S (Kd.slice 3 (Kd.int .i64)) 32 w' w.heap.size (fun k_ => ((w2_.heap.size ≤ k_ ∧ k_ < wq7_.heap.size) ∧ fx7_ k_ = 2)) (.slice Ax7_4 x7_4.length cx7_4) x7_4) ∧ A_ (Kd.S (Kd.slice 3 (Kd.int .i64)) 32 w' w.heap.size (fun k_ => ((w2_.heap.size ≤ k_ ∧ k_ < wq7_.heap.size) ∧ fx7_ k_ = 3)) (.slice Ax7_5 x7_5.length cx7_5) x7_5) ∧ A_ (Kd.R (Kd.int .i64) 3 w' w.heap.size (fun k_ => ((w2_.heap.size ≤ k_ ∧ k_ < wq7_.heap.size) ∧ fx7_ k_ = 4)) (.slice Ax7_6 x7_6.length cx7_6) x7_6) ∧ A_ (Below w.heap.size w w') ∧ A_ (w34_.heap.size ≤ w'.heap.size))
    case atStart => exact ⟨fp47_, false, 0, (by first | rfl | (simp; done) | (simp [*]; done)), (by first | rfl | (simp; done) | (simp [*]; done)), AL35, ⟨Nat.le_refl _⟩, BK4, BK28, ⟨Nat.le_of_eq hfb4_.symm⟩, ⟨Nat.le_of_eq hfb28_.symm⟩, HOx7_s5, HOx7_1, HOx7_4, HOx7_5, HOx7_6, HB, ⟨Nat.le_refl _⟩⟩
    case round =>
     clear AL35 HB BK4 BK28 HOx7_s5 HOx7_1 HOx7_4 HOx7_5 HOx7_6 Q4 Q28 QE32 hfp_ hfb4_ hfb28_
     obtain ⟨fx35_, x35_s2, x35_s12, rfl, rfl, HA, HKL35, BK4, BK28, HG4_, HG28_, HOx7_s5, HOx7_1, HOx7_4, HOx7_5, HOx7_6, HB, HSL_⟩ := hrel
     rename World => wq35_
     replace HS := aHs HS HSL_.out
     clear HSL_
     replace HS := aHs HS HG4_.out
     clear HG4_
     replace HS := aHs HS HG28_.out
     clear HG28_
     cases gk with
     | zero => exact absurd HA.out (by simp [laws_FnLinkOnce.l35])
     | succ kq35_ =>
      have H := HA.out
      clear HA
      simp only [laws_FnLinkOnce.l35] at H
      have Q4 := blk7_ BK4.out
      have Q28 := blk7_ BK28.out
      by_cases hc7_ : x35_s12 < (x7_4.length : Int)
      case neg =>
       rw [if_neg hc7_] at H
       have hc7_b0 : decide (x35_s12 < (x7_4.length : Int)) = false := decide_eq_false hc7_
       have hc7_b1 : decide (x35_s12 < x7_4.length) = false := decide_eq_false (by omega)
       simp only [Option.some.injEq, Prod.mk.injEq] at H
       obtain ⟨rfl, rfl⟩ := H
       have H := HRL35.out
       clear HRL35
       (try dsimp only at H)
       replace H := oa_ H
       obtain ⟨⟨t52, t53, t54, t55, t56, t57, t58⟩, A39, H⟩ := H
       try dsimp only at H
       by_cases hc8_ : (t56.length : Int) = (x7_s5.length : Int)
       case neg =>
        rw [if_neg hc8_] at H
        have hc8_b0 : ((t56.length : Int) == (x7_s5.length : Int)) = false := beq_eq_false_iff_ne.mpr hc8_
        have hc8_bn : ((t56.length : Int) != (x7_s5.length : Int)) = true := bne_iff_ne.mpr hc8_
        have hc8_b1 : (t56.length == x7_s5.length) = false := by first | simpa using hc8_ | (simp at hc8_ ⊢; omega)
        exact absurd H (by simp)
       rw [if_pos hc8_] at H
       have hc8_b0 : ((t56.length : Int) == (x7_s5.length : Int)) = true := beq_iff_eq.mpr hc8_
       have hc8_bn : ((t56.length : Int) != (x7_s5.length : Int)) = false := bne_eq_false_iff_eq.mpr hc8_
       have hc8_b1 : (t56.length == x7_s5.length) = true := by first | simpa using hc8_ | (simp at hc8_ ⊢; omega)
       replace hc8_ := A_.mk hc8_
       by_cases hc9_ : (t53.length : Int) = 0
       case neg =>
        rw [if_neg hc9_] at H
        have hc9_b0 : ((t53.length : Int) == 0) = false := beq_eq_false_iff_ne.mpr hc9_
        have hc9_bn : ((t53.length : Int) != 0) = true := bne_iff_ne.mpr hc9_
        have hc9_b1 : (t53.length == 0) = false := by first | simpa using hc9_ | (simp at hc9_ ⊢; omega)
        exact absurd H (by simp)
       rw [if_pos hc9_] at H
       have hc9_b0 : ((t53.length : Int) == 0) = true := beq_iff_eq.mpr hc9_
       have hc9_bn : ((t53.length : Int) != 0) = false := bne_eq_false_iff_eq.mpr hc9_
       have hc9_b1 : (t53.length == 0) = true := by first | simpa using hc9_ | (simp at hc9_ ⊢; omega)
       replace hc9_ := A_.mk hc9_
       replace H := ob_ H
       obtain ⟨⟨z42_s2, z42_s14⟩, AL_, H⟩ := H
       have HRL42 := A_.mk H
       have AL42 := A_.mk AL_
       clear H AL_
       go_wp2_with (first | ((with_reducible refine gc_ (f := 9) rfl ?_); refine gl_ (some 127) Try.func9 #[.agg #[.int .i64 x7_0, .slice Ax7_1 x7_1.length cx7_1, .int .i64 x7_2, .int .i64 x7_3, .slice Ax7_4 x7_4.length cx7_4, .slice Ax7_5 x7_5.length cx7_5, .slice Ax7_6 x7_6.length cx7_6]] ?_; (with_reducible refine (impl_DrainLink.calls k x7_0 _ _ x7_1 x7_2 x7_3 _ _ x7_4 _ _ x7_5 _ _ x7_6 t52 t53 t54 t55 t56 t57 t58 _ (Kd.S_reads' HOx7_1.out).2.2 (Kd.S_reads' HOx7_1.out).2.1 (Kd.S_reads' HOx7_4.out).2.2 (Kd.S_reads' HOx7_4.out).2.1 (Kd.S_reads' HOx7_5.out).2.2 (Kd.S_reads' HOx7_5.out).2.1 (Kd.R_reads' HOx7_6.out).2.2 (Kd.R_reads' HOx7_6.out).2.1 A39.out).mono ?_); rintro e w39_ ⟨f39_, v0_, v1_, v2_, v3_, rfl, ho0_, ho1_, ho2_, ho3_, hb⟩; refine ⟨_, rfl, ?_⟩; replace HS := aHs HS hb.size; obtain ⟨Ao39_0, co39_0, ev_⟩ := Kd.S_slice ho0_; subst ev_; obtain ⟨Ao39_1, co39_1, ev_⟩ := Kd.S_slice ho1_; subst ev_; have HO39_1 := aSn ho1_ HB.out.size; obtain ⟨Ao39_2, co39_2, ev_⟩ := Kd.S_slice ho2_; subst ev_; obtain ⟨Ao39_3, co39_3, ev_⟩ := Kd.R_slice ho3_; subst ev_; replace HOx7_s5 := aSb HOx7_s5 hb; replace HOx7_1 := aSb HOx7_1 hb; replace HOx7_4 := aSb HOx7_4 hb; replace HOx7_5 := aSb HOx7_5 hb; replace HOx7_6 := aRb HOx7_6 hb; replace BK4 := aBb BK4 hb; replace BK28 := aBb BK28 hb; replace HB := aHB HB hb; clear hb ho0_ ho1_ ho2_ ho3_ Q4 Q28; have Q4 := blk7_ BK4.out; have Q28 := blk7_ BK28.out) | ((with_reducible refine gd_ (N := 13) rfl ?_); refine by_ 13 (cs := #[.int .i64 0, .slice none 0 0, .int .i64 0, .int .i64 0, .slice none 0 0, .slice none 0 0, .slice none 0 0]) (t := 34) ?_; intro gb40_ hg w40_ hbox hb; replace HS := A_.mk (And.intro HS.out (show gb40_ = w39_.heap.size ∧ gb40_ < w40_.heap.size from ⟨hg, blk_lt hbox⟩)); replace HOx7_s5 := aSb HOx7_s5 hb; replace HO39_1 := aSb HO39_1 hb; replace BK4 := aBb BK4 hb; replace BK28 := aBb BK28 hb; replace HB := aHB HB hb; have BK40 := A_.mk hbox; clear hbox hb hg Q4 Q28; have Q4 := blk7_ BK4.out; have Q28 := blk7_ BK28.out; have Q40 := blk7_ BK40.out) | ((with_reducible refine gate_store (t := 34) (p := 13) rfl ?_); have qf0 := bf_ BK40.out 0; have qf1 := bf_ BK40.out 1; have qf2 := bf_ BK40.out 2; have qf3 := bf_ BK40.out 3; have qf4 := bf_ BK40.out 4; have qf5 := bf_ BK40.out 5; have qf6 := bf_ BK40.out 6; refine se_ (t := 34) (p := 13) (v := ?vo_41) (w1 := (ch7_ w40_ gb40_ (.int .i64 t52) (.slice Ao39_0 t53.length co39_0) (.int .i64 t54) (.int .i64 t55) (.slice Ao39_1 t56.length co39_1) (.slice Ao39_2 t57.length co39_2) (.slice Ao39_3 t58.length co39_3))) ?hg ?ho ?hn ?hr ?_; (case ho => rfl); (case hg => rfl); (case hn => rfl); (case hr => first | (go_simp; done) | (go_simp; rfl)); intro w41_ hw; clear qf0 qf1 qf2 qf3 qf4 qf5 qf6; obtain ⟨hbx, hkp, hbb⟩ := st7_ hw BK40 HB (by have := HS.out; omega); clear hw; replace HOx7_s5 := aSk HOx7_s5 hkp HS; replace HO39_1 := aSk HO39_1 hkp HS; replace BK4 := aBk BK4 hkp HS; replace BK28 := aBk BK28 hkp HS; replace BK40 := A_.mk hbx; replace HB := A_.mk hbb; replace HS := aHs HS hkp.1; clear hkp hbb hbx Q4 Q28 Q40; have Q4 := blk7_ BK4.out; have Q28 := blk7_ BK28.out; have Q40 := blk7_ BK40.out))
       obtain ⟨fp48_, hfp_⟩ : ∃ f_ : Nat → Nat, ∀ k_, f_ k_ = 0 := ⟨fun k_ => 0, fun _ => rfl⟩
       have hfb4_ : fp48_ gb4_ = 0 := hfp_ _
       have hfb28_ : fp48_ gb28_ = 0 := hfp_ _
       have hfb40_ : fp48_ gb40_ = 0 := hfp_ _
       go_loopg [2, 14] k (fun kq v2 v14 w' => ∃ (fx42_ : Nat → Nat)   (x42_s2 : Bool) (x42_s14 : Int), v2 = .bool x42_s2 ∧ v14 = .int .i64 x42_s14 ∧ A_ (laws_FnLinkOnce.l42 kq x7_s5 t56 x42_s2 x42_s14 = some (z42_s2, z42_s14)) ∧ A_ (kq ≤ k) ∧ A_ (w'.heap[gb4_]? = some (.cells #[.int .i64 x7_0, .slice Ax7_1 x7_1.length cx7_1, .int .i64 x7_2, .int .i64 x7_3, .slice Ax7_4 x7_4.length cx7_4, .slice Ax7_5 x7_5.length cx7_5, .slice Ax7_6 x7_6.length cx7_6] 34 (0, 0))) ∧ A_ (w'.heap[gb28_]? = some (.cells #[.int .i64 t42, .slice Ao30_0 t43.length co30_0, .int .i64 t44, .int .i64 t45, .slice (some ⟨gHO30_1_, 0, none⟩) t46.length co30_1, .slice Ao30_2 t47.length co30_2, .slice Ao30_3 t48.length co30_3] 34 (0, 0))) ∧ A_ (w'.heap[gb40_]? = some (.cells #[.int .i64 t52, .slice Ao39_0 t53.length co39_0, .int .i64 t54, .int .i64 t55, .slice Ao39_1 t56.length co39_1, .slice Ao39_2 t57.length co39_2, .slice Ao39_3 t58.length co39_3] 34 (0, 0))) ∧ A_ (0 ≤ fx42_ gb4_) ∧ A_ (0 ≤ fx42_ gb28_) ∧ A_ (0 ≤ fx42_ gb40_) ∧ A_ (Kd.S (Kd.slice 3 (Kd.int .i64)) 32 w' w.heap.size (fun k_ => ((w2_.heap.size ≤ k_ ∧ k_ < wq7_.heap.size) ∧ fx7_ k_ = 0)) (.slice Ax7_s5 x7_s5.length cx7_s5) x7_s5) ∧ A_ (Kd.S (Kd.slice 3 (Kd.int .i64)) 32 w' w.heap.size (fun k_ => ((wq35_.heap.size ≤ k_ ∧ k_ < w39_.heap.size) ∧ f39_ k_ = 1)) (.slice Ao39_1 t56.length co39_1) t56) ∧ A_ (Below w.heap.size w w') ∧ A_ (w41_.heap.size ≤ w'.heap.size))
       case atStart => exact ⟨fp48_, x35_s2, 0, (by first | rfl | (simp; done) | (simp [*]; done)), (by first | rfl | (simp; done) | (simp [*]; done)), AL42, ⟨Nat.le_refl _⟩, BK4, BK28, BK40, ⟨Nat.le_of_eq hfb4_.symm⟩, ⟨Nat.le_of_eq hfb28_.symm⟩, ⟨Nat.le_of_eq hfb40_.symm⟩, HOx7_s5, HO39_1, HB, ⟨Nat.le_refl _⟩⟩
       case round =>
        clear AL42 HB BK4 BK28 BK40 HOx7_s5 HO39_1 Q4 Q28 Q40 hfp_ hfb4_ hfb28_ hfb40_
        obtain ⟨fx42_, x42_s2, x42_s14, rfl, rfl, HA, HKL42, BK4, BK28, BK40, HG4_, HG28_, HG40_, HOx7_s5, HO39_1, HB, HSL_⟩ := hrel
        rename World => wq42_
        replace HS := aHs HS HSL_.out
        clear HSL_
        replace HS := aHs HS HG4_.out
        clear HG4_
        replace HS := aHs HS HG28_.out
        clear HG28_
        replace HS := aHs HS HG40_.out
        clear HG40_
        cases gk with
        | zero => exact absurd HA.out (by simp [laws_FnLinkOnce.l42])
        | succ kq42_ =>
         have H := HA.out
         clear HA
         simp only [laws_FnLinkOnce.l42] at H
         have Q4 := blk7_ BK4.out
         have Q28 := blk7_ BK28.out
         have Q40 := blk7_ BK40.out
         by_cases hc10_ : x42_s14 < (x7_s5.length : Int)
         case neg =>
          rw [if_neg hc10_] at H
          have hc10_b0 : decide (x42_s14 < (x7_s5.length : Int)) = false := decide_eq_false hc10_
          have hc10_b1 : decide (x42_s14 < x7_s5.length) = false := decide_eq_false (by omega)
          simp only [Option.some.injEq, Prod.mk.injEq] at H
          obtain ⟨rfl, rfl⟩ := H
          have H := HRL42.out
          clear HRL42
          (try dsimp only at H)
          clear H
          go_wp2
          go_ret
          exact ⟨rfl, HB.out⟩
         rw [if_pos hc10_] at H
         have hc10_b0 : decide (x42_s14 < (x7_s5.length : Int)) = true := decide_eq_true hc10_
         have hc10_b1 : decide (x42_s14 < x7_s5.length) = true := decide_eq_true (by omega)
         by_cases hp43_ : 0 ≤ x42_s14
         case neg => rw [if_neg hp43_] at H; cases H
         rw [if_pos hp43_] at H
         by_cases hq43_ : x42_s14 < (t56.length : Int)
         case neg => rw [if_neg hq43_] at H; cases H
         rw [if_pos hq43_] at H
         have EB43 := A_.mk (And.intro hp43_ hq43_)
         replace hp43_ := eq_true hp43_
         replace hq43_ := eq_true hq43_
         by_cases hp44_ : 0 ≤ x42_s14
         case neg => rw [if_neg hp44_] at H; cases H
         rw [if_pos hp44_] at H
         by_cases hq44_ : x42_s14 < (x7_s5.length : Int)
         case neg => rw [if_neg hq44_] at H; cases H
         rw [if_pos hq44_] at H
         have EB44 := A_.mk (And.intro hp44_ hq44_)
         replace hp44_ := eq_true hp44_
         replace hq44_ := eq_true hq44_
         replace H := oa_ H
         obtain ⟨t59, A45, H⟩ := H
         replace H := A_.mk H
         go_wp2_with (fail)
         obtain ⟨gHO39_1_, ed_⟩ := S_at0 HO39_1.out (by have := EB43.out; omega)
         subst ed_
         obtain ⟨A43_0, c43_0, hx_, hl_, hi_⟩ := srow_ HO39_1.out EB43.out
         have HX43 := A_.mk hx_
         have HD43 := A_.mk hl_
         have HE43 := A_.mk hi_
         clear hx_ hl_ hi_
         obtain ⟨gHOx7_s5_, ed_⟩ := S_at0 HOx7_s5.out (by have := EB44.out; omega)
         subst ed_
         obtain ⟨A44_0, c44_0, hx_, hl_, hi_⟩ := srow_ HOx7_s5.out EB44.out
         have HX44 := A_.mk hx_
         have HD44 := A_.mk hl_
         have HE44 := A_.mk hi_
         clear hx_ hl_ hi_
         refine start_ (n := 12) (S := fun w' => (w'.cell? ⟨gb40_, 0, none⟩ = some (.int .i64 t52) ∧ w'.cell? ⟨gb40_, 1, none⟩ = some (.slice Ao39_0 t53.length co39_0) ∧ w'.cell? ⟨gb40_, 2, none⟩ = some (.int .i64 t54) ∧ w'.cell? ⟨gb40_, 3, none⟩ = some (.int .i64 t55) ∧ w'.cell? ⟨gb40_, 4, none⟩ = some (.slice (some ⟨gHO39_1_, 0, none⟩) t56.length co39_1) ∧ w'.cell? ⟨gb40_, 5, none⟩ = some (.slice Ao39_2 t57.length co39_2) ∧ w'.cell? ⟨gb40_, 6, none⟩ = some (.slice Ao39_3 t58.length co39_3)) ∧ (w'.cell? ⟨gHO39_1_, (x42_s14).toNat, none⟩ = some (.slice A43_0 (rdl_ t56 x42_s14).length c43_0)) ∧ (w'.cell? ⟨gHOx7_s5_, (x42_s14).toNat, none⟩ = some (.slice A44_0 (rdl_ x7_s5 x42_s14).length c44_0))) (ds := []) #[F, F, F, F, F, F, F, F, F, F, F, F] (by kernel_rfl) rfl rfl ⟨blk7_ BK40.out, HX43.out, HX44.out⟩ (fun hHeld => ?_)
         clear Q4 Q28 Q40
         have hb := below_drew (Below.refl wq42_.heap.size wq42_)
         replace HS := aHs HS hb.size
         replace HOx7_s5 := aSb HOx7_s5 hb
         replace HO39_1 := aSb HO39_1 hb
         replace BK4 := aBb BK4 hb
         replace BK28 := aBb BK28 hb
         replace BK40 := aBb BK40 hb
         replace HE43 := A_.mk (Kd.C_below HE43.out hb)
         replace HX43 := A_.mk ((hb.cell (wl_ _ _ HX43.out)).trans HX43.out)
         replace HE44 := A_.mk (Kd.C_below HE44.out hb)
         replace HX44 := A_.mk ((hb.cell (wl_ _ _ HX44.out)).trans HX44.out)
         replace HB := aHB HB hb
         clear hb
         generalize wq42_.drew = w49d_ at HOx7_s5 HO39_1 HE43 HE44 HX43 HX44 BK4 BK28 BK40 HB HS hHeld ⊢
         refine pd_ (i := 0) (N := some 148) #[T, F, F, F, F, F, F, F, F, F, F, F] rfl ?_
         refine pd_ (i := 1) (N := some 149) #[T, T, F, F, F, F, F, F, F, F, F, F] rfl ?_
         refine tl_ (i := 2) (N := some 150) #[T, T, T, F, F, F, F, F, F, F, F, F] rfl hHeld ?_
         refine pd_ (i := 3) (N := some 151) #[T, T, T, T, F, F, F, F, F, F, F, F] rfl ?_
         refine pd_ (i := 4) (N := some 152) #[T, T, T, T, T, F, F, F, F, F, F, F] rfl ?_
         refine tl_ (i := 5) (N := some 153) #[T, T, T, T, T, T, F, F, F, F, F, F] rfl hHeld ?_
         refine pd_ (i := 6) (N := some 154) #[T, T, T, T, T, T, T, F, F, F, F, F] rfl ?_
         refine pd_ (i := 7) (N := some 155) #[T, T, T, T, T, T, T, T, F, F, F, F] rfl ?_
         refine pd_ (i := 8) (N := some 156) #[T, T, T, T, T, T, T, T, T, F, F, F] rfl ?_
         refine tl_ (i := 9) (N := some 157) #[T, T, T, T, T, T, T, T, T, T, F, F] rfl hHeld ?_
         refine on_ (i := 10) (N := some 158) #[T, T, T, T, T, T, T, T, T, T, T, F] rfl (fun K hK => ?_)
         refine gz_ Try.func10 #[.slice A43_0 (rdl_ t56 x42_s14).length c43_0, .slice A44_0 (rdl_ x7_s5 x42_s14).length c44_0] ?_
         with_reducible refine (laws_sameInts.calls kq42_ _ _ (rdl_ t56 x42_s14) _ _ (rdl_ x7_s5 x42_s14) t59 _ HE43.out HD43.out HE44.out HD44.out A45.out).mono ?_
         rintro e w45_ ⟨rfl, hb⟩
         refine ⟨_, rfl, ?_⟩
         replace hb := Drawn0.below hb
         replace HS := aHs HS hb.size
         replace HOx7_s5 := aSb HOx7_s5 hb
         replace HO39_1 := aSb HO39_1 hb
         replace BK4 := aBb BK4 hb
         replace BK28 := aBb BK28 hb
         replace BK40 := aBb BK40 hb
         replace HE43 := A_.mk (Kd.C_below HE43.out hb)
         replace HX43 := A_.mk ((hb.cell (wl_ _ _ HX43.out)).trans HX43.out)
         replace HE44 := A_.mk (Kd.C_below HE44.out hb)
         replace HX44 := A_.mk ((hb.cell (wl_ _ _ HX44.out)).trans HX44.out)
         replace HB := aHB HB hb
         clear hb 
         refine hK.out _ _ ⟨blk7_ BK40.out, HX43.out, HX44.out⟩ (fun hHeld => ?_)
         clear hK K
         refine nm_ ?_
         refine pd_ (i := 11) (N := some 159) #[T, T, T, T, T, T, T, T, T, T, T, T] rfl ?_
         refine done_ (by kernel_rfl) ?_
         have Q4 := blk7_ BK4.out
         have Q28 := blk7_ BK28.out
         have Q40 := blk7_ BK40.out
         replace H := H.out
         by_cases hc11_ : t59 = true
         case pos =>
          rw [if_pos hc11_] at H
          subst hc11_
          have HA := A_.mk H
          clear H
          go_wp2
          obtain ⟨fp50_, hfp_⟩ : ∃ f_ : Nat → Nat, ∀ k_, f_ k_ = 0 := ⟨fun k_ => 0, fun _ => rfl⟩
          have hfb4_ : fp50_ gb4_ = 0 := hfp_ _
          have hfb28_ : fp50_ gb28_ = 0 := hfp_ _
          have hfb40_ : fp50_ gb40_ = 0 := hfp_ _
          go_roundg kq42_
          case measure => have := HKL42.out; omega
          case rel => exact ⟨fp50_, x42_s2, (wrap64 (x42_s14 + 1)), (by first | rfl | (simp; done) | (simp [*]; done)), (by first | rfl | (simp; done) | (simp [*]; done)), HA, ⟨by have := HKL42.out; omega⟩, BK4, BK28, BK40, ⟨Nat.le_of_eq hfb4_.symm⟩, ⟨Nat.le_of_eq hfb28_.symm⟩, ⟨Nat.le_of_eq hfb40_.symm⟩, HOx7_s5, HO39_1, HB, ⟨(by have := HS.out; omega)⟩⟩
         rw [if_neg hc11_] at H
         replace hc11_ := eq_false_of_ne_true hc11_
         subst hc11_
         exact absurd H (by simp)
      rw [if_pos hc7_] at H
      have hc7_b0 : decide (x35_s12 < (x7_4.length : Int)) = true := decide_eq_true hc7_
      have hc7_b1 : decide (x35_s12 < x7_4.length) = true := decide_eq_true (by omega)
      by_cases hc12_ : (x7_s5.length : Int) ≤ x35_s12
      case pos =>
       rw [if_pos hc12_] at H
       have hc12_b0 : decide ((x7_s5.length : Int) ≤ x35_s12) = true := decide_eq_true hc12_
       have hc12_b1 : decide (x7_s5.length ≤ x35_s12) = true := decide_eq_true (by omega)
       exact absurd H (by simp)
      rw [if_neg hc12_] at H
      have hc12_b0 : decide ((x7_s5.length : Int) ≤ x35_s12) = false := decide_eq_false hc12_
      have hc12_b1 : decide (x7_s5.length ≤ x35_s12) = false := decide_eq_false (by omega)
      by_cases hp36_ : 0 ≤ x35_s12
      case neg => rw [if_neg hp36_] at H; cases H
      rw [if_pos hp36_] at H
      by_cases hq36_ : x35_s12 < (x7_4.length : Int)
      case neg => rw [if_neg hq36_] at H; cases H
      rw [if_pos hq36_] at H
      have EB36 := A_.mk (And.intro hp36_ hq36_)
      replace hp36_ := eq_true hp36_
      replace hq36_ := eq_true hq36_
      by_cases hp37_ : 0 ≤ x35_s12
      case neg => rw [if_neg hp37_] at H; cases H
      rw [if_pos hp37_] at H
      by_cases hq37_ : x35_s12 < (x7_s5.length : Int)
      case neg => rw [if_neg hq37_] at H; cases H
      rw [if_pos hq37_] at H
      have EB37 := A_.mk (And.intro hp37_ hq37_)
      replace hp37_ := eq_true hp37_
      replace hq37_ := eq_true hq37_
      replace H := oa_ H
      obtain ⟨t51, A38, H⟩ := H
      replace H := A_.mk H
      go_wp2_with (fail)
      obtain ⟨gHOx7_4_, ed_⟩ := S_at0 HOx7_4.out (by have := EB36.out; omega)
      subst ed_
      obtain ⟨A36_0, c36_0, hx_, hl_, hi_⟩ := srow_ HOx7_4.out EB36.out
      have HX36 := A_.mk hx_
      have HD36 := A_.mk hl_
      have HE36 := A_.mk hi_
      clear hx_ hl_ hi_
      obtain ⟨gHOx7_s5_, ed_⟩ := S_at0 HOx7_s5.out (by have := EB37.out; omega)
      subst ed_
      obtain ⟨A37_0, c37_0, hx_, hl_, hi_⟩ := srow_ HOx7_s5.out EB37.out
      have HX37 := A_.mk hx_
      have HD37 := A_.mk hl_
      have HE37 := A_.mk hi_
      clear hx_ hl_ hi_
      refine start_ (n := 18) (S := fun w' => (w'.cell? ⟨gb4_, 0, none⟩ = some (.int .i64 x7_0) ∧ w'.cell? ⟨gb4_, 1, none⟩ = some (.slice Ax7_1 x7_1.length cx7_1) ∧ w'.cell? ⟨gb4_, 2, none⟩ = some (.int .i64 x7_2) ∧ w'.cell? ⟨gb4_, 3, none⟩ = some (.int .i64 x7_3) ∧ w'.cell? ⟨gb4_, 4, none⟩ = some (.slice (some ⟨gHOx7_4_, 0, none⟩) x7_4.length cx7_4) ∧ w'.cell? ⟨gb4_, 5, none⟩ = some (.slice Ax7_5 x7_5.length cx7_5) ∧ w'.cell? ⟨gb4_, 6, none⟩ = some (.slice Ax7_6 x7_6.length cx7_6)) ∧ (w'.cell? ⟨gHOx7_4_, (x35_s12).toNat, none⟩ = some (.slice A36_0 (rdl_ x7_4 x35_s12).length c36_0)) ∧ (w'.cell? ⟨gHOx7_s5_, (x35_s12).toNat, none⟩ = some (.slice A37_0 (rdl_ x7_s5 x35_s12).length c37_0))) (ds := []) #[F, F, F, F, F, F, F, F, F, F, F, F, F, F, F, F, F, F] (by kernel_rfl) rfl rfl ⟨blk7_ BK4.out, HX36.out, HX37.out⟩ (fun hHeld => ?_)
      clear Q4 Q28
      have hb := below_drew (Below.refl wq35_.heap.size wq35_)
      replace HS := aHs HS hb.size
      replace HOx7_s5 := aSb HOx7_s5 hb
      replace HOx7_1 := aSb HOx7_1 hb
      replace HOx7_4 := aSb HOx7_4 hb
      replace HOx7_5 := aSb HOx7_5 hb
      replace HOx7_6 := aRb HOx7_6 hb
      replace BK4 := aBb BK4 hb
      replace BK28 := aBb BK28 hb
      replace HE36 := A_.mk (Kd.C_below HE36.out hb)
      replace HX36 := A_.mk ((hb.cell (wl_ _ _ HX36.out)).trans HX36.out)
      replace HE37 := A_.mk (Kd.C_below HE37.out hb)
      replace HX37 := A_.mk ((hb.cell (wl_ _ _ HX37.out)).trans HX37.out)
      replace HB := aHB HB hb
      clear hb
      generalize wq35_.drew = w51d_ at HOx7_s5 HOx7_1 HOx7_4 HOx7_5 HOx7_6 HE36 HE37 HX36 HX37 BK4 BK28 HB HS hHeld ⊢
      refine pd_ (i := 0) (N := some 108) #[T, F, F, F, F, F, F, F, F, F, F, F, F, F, F, F, F, F] rfl ?_
      refine pd_ (i := 1) (N := some 109) #[T, T, F, F, F, F, F, F, F, F, F, F, F, F, F, F, F, F] rfl ?_
      refine pd_ (i := 2) (N := some 110) #[T, T, T, F, F, F, F, F, F, F, F, F, F, F, F, F, F, F] rfl ?_
      refine pd_ (i := 3) (N := some 111) #[T, T, T, T, F, F, F, F, F, F, F, F, F, F, F, F, F, F] rfl ?_
      refine pd_ (i := 4) (N := some 112) #[T, T, T, T, T, F, F, F, F, F, F, F, F, F, F, F, F, F] rfl ?_
      refine pd_ (i := 5) (N := some 113) #[T, T, T, T, T, T, F, F, F, F, F, F, F, F, F, F, F, F] rfl ?_
      refine pd_ (i := 6) (N := some 114) #[T, T, T, T, T, T, T, F, F, F, F, F, F, F, F, F, F, F] rfl ?_
      refine tl_ (i := 7) (N := some 115) #[T, T, T, T, T, T, T, T, F, F, F, F, F, F, F, F, F, F] rfl hHeld ?_
      refine pd_ (i := 8) (N := some 116) #[T, T, T, T, T, T, T, T, T, F, F, F, F, F, F, F, F, F] rfl ?_
      refine pd_ (i := 9) (N := some 117) #[T, T, T, T, T, T, T, T, T, T, F, F, F, F, F, F, F, F] rfl ?_
      refine tl_ (i := 10) (N := some 118) #[T, T, T, T, T, T, T, T, T, T, T, F, F, F, F, F, F, F] rfl hHeld ?_
      refine pd_ (i := 11) (N := some 119) #[T, T, T, T, T, T, T, T, T, T, T, T, F, F, F, F, F, F] rfl ?_
      refine pd_ (i := 12) (N := some 120) #[T, T, T, T, T, T, T, T, T, T, T, T, T, F, F, F, F, F] rfl ?_
      refine pd_ (i := 13) (N := some 121) #[T, T, T, T, T, T, T, T, T, T, T, T, T, T, F, F, F, F] rfl ?_
      refine tl_ (i := 14) (N := some 122) #[T, T, T, T, T, T, T, T, T, T, T, T, T, T, T, F, F, F] rfl hHeld ?_
      refine on_ (i := 15) (N := some 123) #[T, T, T, T, T, T, T, T, T, T, T, T, T, T, T, T, F, F] rfl (fun K hK => ?_)
      refine gz_ Try.func10 #[.slice A36_0 (rdl_ x7_4 x35_s12).length c36_0, .slice A37_0 (rdl_ x7_s5 x35_s12).length c37_0] ?_
      with_reducible refine (laws_sameInts.calls kq35_ _ _ (rdl_ x7_4 x35_s12) _ _ (rdl_ x7_s5 x35_s12) t51 _ HE36.out HD36.out HE37.out HD37.out A38.out).mono ?_
      rintro e w38_ ⟨rfl, hb⟩
      refine ⟨_, rfl, ?_⟩
      replace hb := Drawn0.below hb
      replace HS := aHs HS hb.size
      replace HOx7_s5 := aSb HOx7_s5 hb
      replace HOx7_1 := aSb HOx7_1 hb
      replace HOx7_4 := aSb HOx7_4 hb
      replace HOx7_5 := aSb HOx7_5 hb
      replace HOx7_6 := aRb HOx7_6 hb
      replace BK4 := aBb BK4 hb
      replace BK28 := aBb BK28 hb
      replace HE36 := A_.mk (Kd.C_below HE36.out hb)
      replace HX36 := A_.mk ((hb.cell (wl_ _ _ HX36.out)).trans HX36.out)
      replace HE37 := A_.mk (Kd.C_below HE37.out hb)
      replace HX37 := A_.mk ((hb.cell (wl_ _ _ HX37.out)).trans HX37.out)
      replace HB := aHB HB hb
      clear hb 
      refine hK.out _ _ ⟨blk7_ BK4.out, HX36.out, HX37.out⟩ (fun hHeld => ?_)
      clear hK K
      refine nm_ ?_
      refine pd_ (i := 16) (N := some 124) #[T, T, T, T, T, T, T, T, T, T, T, T, T, T, T, T, T, F] rfl ?_
      refine pd_ (i := 17) (N := some 125) #[T, T, T, T, T, T, T, T, T, T, T, T, T, T, T, T, T, T] rfl ?_
      refine done_ (by kernel_rfl) ?_
      have Q4 := blk7_ BK4.out
      have Q28 := blk7_ BK28.out
      replace H := H.out
      by_cases hc13_ : t51 = true
      case pos =>
       rw [if_pos hc13_] at H
       subst hc13_
       have HA := A_.mk H
       clear H
       go_wp2
       obtain ⟨fp52_, hfp_⟩ : ∃ f_ : Nat → Nat, ∀ k_, f_ k_ = 0 := ⟨fun k_ => 0, fun _ => rfl⟩
       have hfb4_ : fp52_ gb4_ = 0 := hfp_ _
       have hfb28_ : fp52_ gb28_ = 0 := hfp_ _
       go_roundg kq35_
       case measure => have := HKL35.out; omega
       case rel => exact ⟨fp52_, x35_s2, (wrap64 (x35_s12 + 1)), (by first | rfl | (simp; done) | (simp [*]; done)), (by first | rfl | (simp; done) | (simp [*]; done)), HA, ⟨by have := HKL35.out; omega⟩, BK4, BK28, ⟨Nat.le_of_eq hfb4_.symm⟩, ⟨Nat.le_of_eq hfb28_.symm⟩, HOx7_s5, HOx7_1, HOx7_4, HOx7_5, HOx7_6, HB, ⟨(by have := HS.out; omega)⟩⟩
      rw [if_neg hc13_] at H
      replace hc13_ := eq_false_of_ne_true hc13_
      subst hc13_
      exact absurd H (by simp)
   rw [if_pos hc2_] at H
   have hc2_b0 : decide (x7_s7 < (t2.length : Int)) = true := decide_eq_true hc2_
   have hc2_b1 : decide (x7_s7 < t2.length) = true := decide_eq_true (by omega)
   by_cases hp8_ : 0 ≤ x7_s7
   case neg => rw [if_neg hp8_] at H; cases H
   rw [if_pos hp8_] at H
   by_cases hq8_ : x7_s7 < (t2.length : Int)
   case neg => rw [if_neg hq8_] at H; cases H
   rw [if_pos hq8_] at H
   have EB8 := A_.mk (And.intro hp8_ hq8_)
   replace hp8_ := eq_true hp8_
   replace hq8_ := eq_true hq8_
   replace H := oa_ H
   obtain ⟨⟨t11, t12, t13, t14, t15, t16, t17, t18⟩, A9, H⟩ := H
   try dsimp only at H
   replace H := A_.mk H
   go_wp2_with (fail)
   obtain ⟨gHO2_0_, ed_⟩ := R_at0 HO2_0.out (by have := EB8.out; omega)
   subst ed_
   obtain ⟨ad_, ea_, hx0_, hx1_⟩ := at_T39 (Kd.R_reads' HO2_0.out).2.2 x7_s7 EB8.out.1 EB8.out.2
   injection ea_ with ea_
   subst ea_
   rw [add_at, Nat.zero_add] at hx0_ hx1_
   have HX8 := A_.mk (And.intro hx0_ hx1_)
   clear hx0_ hx1_
   refine start_ (n := 12) (S := fun w' => (w'.cell? ⟨gb4_, 0, none⟩ = some (.int .i64 x7_0) ∧ w'.cell? ⟨gb4_, 1, none⟩ = some (.slice Ax7_1 x7_1.length cx7_1) ∧ w'.cell? ⟨gb4_, 2, none⟩ = some (.int .i64 x7_2) ∧ w'.cell? ⟨gb4_, 3, none⟩ = some (.int .i64 x7_3) ∧ w'.cell? ⟨gb4_, 4, none⟩ = some (.slice Ax7_4 x7_4.length cx7_4) ∧ w'.cell? ⟨gb4_, 5, none⟩ = some (.slice Ax7_5 x7_5.length cx7_5) ∧ w'.cell? ⟨gb4_, 6, none⟩ = some (.slice Ax7_6 x7_6.length cx7_6)) ∧ (w'.cell? ⟨gHO2_0_, (x7_s7).toNat * 2, none⟩ = some (.int .i64 ((rd_T39 t2 x7_s7).f0)) ∧ w'.cell? ⟨gHO2_0_, (x7_s7).toNat * 2 + 1, none⟩ = some (.int .i64 ((rd_T39 t2 x7_s7).f1)))) (ds := [10]) #[F, F, F, F, F, F, F, F, F, F, F, F] (by kernel_rfl) rfl rfl ⟨blk7_ BK4.out, HX8.out⟩ (fun hHeld => ?_)
   clear Q4
   have hb := below_drew (Below.refl wq7_.heap.size wq7_)
   replace HS := aHs HS hb.size
   replace HOx7_s5 := aSb HOx7_s5 hb
   replace HOx7_1 := aSb HOx7_1 hb
   replace HOx7_4 := aSb HOx7_4 hb
   replace HOx7_5 := aSb HOx7_5 hb
   replace HOx7_6 := aRb HOx7_6 hb
   replace HO2_0 := aRb HO2_0 hb
   replace BK4 := aBb BK4 hb
   replace HX8 := A_.mk (el2_ hb HX8.out)
   replace HB := aHB HB hb
   clear hb
   generalize wq7_.drew = w53d_ at HOx7_s5 HOx7_1 HOx7_4 HOx7_5 HOx7_6 HO2_0 HX8 BK4 HB HS hHeld ⊢
   refine tl_ (i := 0) (N := some 28) #[T, F, F, F, F, F, F, F, F, F, F, F] rfl hHeld ?_
   refine pd_ (i := 1) (N := some 29) #[T, T, F, F, F, F, F, F, F, F, F, F] rfl ?_
   refine pd_ (i := 2) (N := some 30) #[T, T, T, F, F, F, F, F, F, F, F, F] rfl ?_
   refine pd_ (i := 3) (N := some 31) #[T, T, T, T, F, F, F, F, F, F, F, F] rfl ?_
   refine tl_ (i := 4) (N := some 32) #[T, T, T, T, T, F, F, F, F, F, F, F] rfl hHeld ?_
   refine join_ (σ := Value × Value × Value × Value × Nat × Nat × Nat × (Nat → Nat)) 2 #[T, T, T, T, T, T, T, T, T, T, F, F] (fun s_ => [(33, .tuple #[.agg #[.int .i64 t11, s_.1, .int .i64 t13, .int .i64 t14, s_.2.1, s_.2.2.1, s_.2.2.2.1], .bool t18]), (27, .tuple #[.agg #[.int .i64 t11, s_.1, .int .i64 t13, .int .i64 t14, s_.2.1, s_.2.2.1, s_.2.2.2.1], .bool t18]), (34, .agg #[.int .i64 t11, s_.1, .int .i64 t13, .int .i64 t14, s_.2.1, s_.2.2.1, s_.2.2.2.1]), (35, .bool t18), (8, .pointer (some ⟨s_.2.2.2.2.1, 0, none⟩))]) (fun s_ w' => ((w'.cell? ⟨gb4_, 0, none⟩ = some (.int .i64 x7_0) ∧ w'.cell? ⟨gb4_, 1, none⟩ = some (.slice Ax7_1 x7_1.length cx7_1) ∧ w'.cell? ⟨gb4_, 2, none⟩ = some (.int .i64 x7_2) ∧ w'.cell? ⟨gb4_, 3, none⟩ = some (.int .i64 x7_3) ∧ w'.cell? ⟨gb4_, 4, none⟩ = some (.slice Ax7_4 x7_4.length cx7_4) ∧ w'.cell? ⟨gb4_, 5, none⟩ = some (.slice Ax7_5 x7_5.length cx7_5) ∧ w'.cell? ⟨gb4_, 6, none⟩ = some (.slice Ax7_6 x7_6.length cx7_6)) ∧ (w'.cell? ⟨gHO2_0_, (x7_s7).toNat * 2, none⟩ = some (.int .i64 ((rd_T39 t2 x7_s7).f0)) ∧ w'.cell? ⟨gHO2_0_, (x7_s7).toNat * 2 + 1, none⟩ = some (.int .i64 ((rd_T39 t2 x7_s7).f1)))) ∧ Kd.S (Kd.slice 3 (Kd.int .i64)) 32 w' w.heap.size (fun k_ => ((w2_.heap.size ≤ k_ ∧ k_ < wq7_.heap.size) ∧ fx7_ k_ = 0)) (.slice Ax7_s5 x7_s5.length cx7_s5) x7_s5 ∧ Kd.R k39 39 w' w.heap.size (fun k_ => ((w1_.heap.size ≤ k_ ∧ k_ < w2_.heap.size))) (.slice (some ⟨gHO2_0_, 0, none⟩) t2.length co2_0) t2 ∧ w'.heap[gb4_]? = some (.cells #[.int .i64 x7_0, .slice Ax7_1 x7_1.length cx7_1, .int .i64 x7_2, .int .i64 x7_3, .slice Ax7_4 x7_4.length cx7_4, .slice Ax7_5 x7_5.length cx7_5, .slice Ax7_6 x7_6.length cx7_6] 34 (0, 0)) ∧ Below w.heap.size w w' ∧ w53d_.heap.size ≤ w'.heap.size ∧ (w53d_.heap.size ≤ s_.2.2.2.2.2.1 ∧ s_.2.2.2.2.2.1 ≤ s_.2.2.2.2.2.2.1 ∧ s_.2.2.2.2.2.2.1 ≤ w'.heap.size) ∧ Kd.S k68 68 w' w.heap.size (fun k_ => (s_.2.2.2.2.2.1 ≤ k_ ∧ k_ < s_.2.2.2.2.2.2.1) ∧ s_.2.2.2.2.2.2.2 k_ = 0) s_.1 t12 ∧ Kd.S (Kd.slice 3 (Kd.int .i64)) 32 w' w.heap.size (fun k_ => (s_.2.2.2.2.2.1 ≤ k_ ∧ k_ < s_.2.2.2.2.2.2.1) ∧ s_.2.2.2.2.2.2.2 k_ = 1) s_.2.1 t15 ∧ Kd.S (Kd.slice 3 (Kd.int .i64)) 32 w' w.heap.size (fun k_ => (s_.2.2.2.2.2.1 ≤ k_ ∧ k_ < s_.2.2.2.2.2.2.1) ∧ s_.2.2.2.2.2.2.2 k_ = 2) s_.2.2.1 t16 ∧ Kd.R (Kd.int .i64) 3 w' w.heap.size (fun k_ => (s_.2.2.2.2.2.1 ≤ k_ ∧ k_ < s_.2.2.2.2.2.2.1) ∧ s_.2.2.2.2.2.2.2 k_ = 3) s_.2.2.2.1 t17 ∧ w'.heap[s_.2.2.2.2.1]? = some (.cells #[.int .i64 0, .slice none 0 0, .int .i64 0, .int .i64 0, .slice none 0 0, .slice none 0 0, .slice none 0 0] 34 (0, 0)) ∧ (w53d_.heap.size ≤ s_.2.2.2.2.1 ∧ s_.2.2.2.2.1 < w'.heap.size ∧ (s_.2.2.2.2.1 < s_.2.2.2.2.2.1 ∨ s_.2.2.2.2.2.2.1 ≤ s_.2.2.2.2.1))) ?_ ?_
   rotate_left
   ·intro hCont
    refine two_ (i := 5) (j := 9) (Ni := some 33) (Nj := some 8) #[T, T, T, T, T, T, F, F, F, F, F, F] #[T, T, T, T, T, F, F, F, F, T, F, F] rfl rfl rfl rfl (by kernel_rfl) (by decide) (by decide) (fun K hK => ?_) (fun K hK => ?_)
    ·skip
     refine gz_ Try.func7 #[.agg #[.int .i64 x7_0, .slice Ax7_1 x7_1.length cx7_1, .int .i64 x7_2, .int .i64 x7_3, .slice Ax7_4 x7_4.length cx7_4, .slice Ax7_5 x7_5.length cx7_5, .slice Ax7_6 x7_6.length cx7_6], .agg #[.int .i64 ((rd_T39 t2 x7_s7).f0), .int .i64 ((rd_T39 t2 x7_s7).f1)]] ?_
     with_reducible refine (impl_LinkStep.calls kq7_ x7_0 _ _ x7_1 x7_2 x7_3 _ _ x7_4 _ _ x7_5 _ _ x7_6 ((rd_T39 t2 x7_s7).f0) ((rd_T39 t2 x7_s7).f1) t11 t12 t13 t14 t15 t16 t17 t18 _ (Kd.S_reads' HOx7_1.out).2.2 (Kd.S_reads' HOx7_1.out).2.1 (Kd.S_reads' HOx7_4.out).2.2 (Kd.S_reads' HOx7_4.out).2.1 (Kd.S_reads' HOx7_5.out).2.2 (Kd.S_reads' HOx7_5.out).2.1 (Kd.R_reads' HOx7_6.out).2.2 (Kd.R_reads' HOx7_6.out).2.1 A9.out).mono ?_
     rintro e w9_ ⟨f9_, v0_, v1_, v2_, v3_, rfl, ho0_, ho1_, ho2_, ho3_, hb⟩
     refine ⟨_, rfl, ?_⟩
     replace HS := aHs HS hb.size
     obtain ⟨Ao9_0, co9_0, ev_⟩ := Kd.S_slice ho0_
     subst ev_
     have HO9_0 := aSn ho0_ HB.out.size
     obtain ⟨Ao9_1, co9_1, ev_⟩ := Kd.S_slice ho1_
     subst ev_
     have HO9_1 := aSn ho1_ HB.out.size
     obtain ⟨Ao9_2, co9_2, ev_⟩ := Kd.S_slice ho2_
     subst ev_
     have HO9_2 := aSn ho2_ HB.out.size
     obtain ⟨Ao9_3, co9_3, ev_⟩ := Kd.R_slice ho3_
     subst ev_
     have HO9_3 := aRn ho3_ HB.out.size
     replace HOx7_s5 := aSb HOx7_s5 hb
     replace HOx7_1 := aSb HOx7_1 hb
     replace HOx7_4 := aSb HOx7_4 hb
     replace HOx7_5 := aSb HOx7_5 hb
     replace HOx7_6 := aRb HOx7_6 hb
     replace HO2_0 := aRb HO2_0 hb
     replace BK4 := aBb BK4 hb
     replace HX8 := A_.mk (el2_ hb HX8.out)
     replace HB := aHB HB hb
     clear hb ho0_ ho1_ ho2_ ho3_
     refine hK.out _ _ ⟨blk7_ BK4.out, HX8.out⟩ (fun hHeld => ?_)
     clear hK K
     refine nm_ ?_
     refine pd_ (i := 6) (N := some 27) #[T, T, T, T, T, T, T, F, F, F, F, F] rfl ?_
     refine pd_ (i := 7) (N := some 34) #[T, T, T, T, T, T, T, T, F, F, F, F] rfl ?_
     refine pd_ (i := 8) (N := some 35) #[T, T, T, T, T, T, T, T, T, F, F, F] rfl ?_
     refine on_ (i := 9) (N := some 8) #[T, T, T, T, T, T, T, T, T, T, F, F] rfl (fun K hK => ?_)
     refine box_step ?hg (N := 8) ?hd (cs := #[.int .i64 0, .slice none 0 0, .int .i64 0, .int .i64 0, .slice none 0 0, .slice none 0 0, .slice none 0 0]) (t := 34) ?hr ?_; (case hd => rfl); (case hg => rfl); (case hr => first | (go_simp; done) | (go_simp; rfl))
     intro gb10_ hg w10_ hbox hb
     replace HS := A_.mk (And.intro HS.out (show gb10_ = w9_.heap.size ∧ gb10_ < w10_.heap.size from ⟨hg, blk_lt hbox⟩))
     replace HOx7_s5 := aSb HOx7_s5 hb
     replace HOx7_1 := aSb HOx7_1 hb
     replace HOx7_4 := aSb HOx7_4 hb
     replace HOx7_5 := aSb HOx7_5 hb
     replace HOx7_6 := aRb HOx7_6 hb
     replace HO2_0 := aRb HO2_0 hb
     replace HO9_0 := aSb HO9_0 hb
     replace HO9_1 := aSb HO9_1 hb
     replace HO9_2 := aSb HO9_2 hb
     replace HO9_3 := aRb HO9_3 hb
     replace BK4 := aBb BK4 hb
     replace HX8 := A_.mk (el2_ hb HX8.out)
     replace HB := aHB HB hb
     have BK10 := A_.mk hbox
     clear hbox hb hg
     refine hK.out _ _ ⟨blk7_ BK4.out, HX8.out⟩ (fun hHeld => ?_)
     clear hK K
     refine nm_ ?_
     exact norm_ (by simp only [putAll, Act.put, List.setIfInBounds_toArray, List.set_cons_zero, List.set_cons_succ]) (hCont (.slice Ao9_0 t12.length co9_0, .slice Ao9_1 t15.length co9_1, .slice Ao9_2 t16.length co9_2, .slice Ao9_3 t17.length co9_3, gb10_, (w53d_.heap.size), (w9_.heap.size), f9_) _ ⟨hHeld, HOx7_s5.out, HO2_0.out, BK4.out, HB.out, (by have := HS.out; omega), (by have := HS.out; (try dsimp only); omega), HO9_0.out, HO9_1.out, HO9_2.out, HO9_3.out, BK10.out, (by have := HS.out; (try dsimp only); omega)⟩)
    ·skip
     refine box_step ?hg (N := 8) ?hd (cs := #[.int .i64 0, .slice none 0 0, .int .i64 0, .int .i64 0, .slice none 0 0, .slice none 0 0, .slice none 0 0]) (t := 34) ?hr ?_; (case hd => rfl); (case hg => rfl); (case hr => first | (go_simp; done) | (go_simp; rfl))
     intro gb10_ hg w10_ hbox hb
     replace HS := A_.mk (And.intro HS.out (show gb10_ = w53d_.heap.size ∧ gb10_ < w10_.heap.size from ⟨hg, blk_lt hbox⟩))
     replace HOx7_s5 := aSb HOx7_s5 hb
     replace HOx7_1 := aSb HOx7_1 hb
     replace HOx7_4 := aSb HOx7_4 hb
     replace HOx7_5 := aSb HOx7_5 hb
     replace HOx7_6 := aRb HOx7_6 hb
     replace HO2_0 := aRb HO2_0 hb
     replace BK4 := aBb BK4 hb
     replace HX8 := A_.mk (el2_ hb HX8.out)
     replace HB := aHB HB hb
     have BK10 := A_.mk hbox
     clear hbox hb hg
     refine hK.out _ _ ⟨blk7_ BK4.out, HX8.out⟩ (fun hHeld => ?_)
     clear hK K
     refine nm_ ?_
     refine on_ (i := 5) (N := some 33) #[T, T, T, T, T, T, F, F, F, T, F, F] rfl (fun K hK => ?_)
     refine gz_ Try.func7 #[.agg #[.int .i64 x7_0, .slice Ax7_1 x7_1.length cx7_1, .int .i64 x7_2, .int .i64 x7_3, .slice Ax7_4 x7_4.length cx7_4, .slice Ax7_5 x7_5.length cx7_5, .slice Ax7_6 x7_6.length cx7_6], .agg #[.int .i64 ((rd_T39 t2 x7_s7).f0), .int .i64 ((rd_T39 t2 x7_s7).f1)]] ?_
     with_reducible refine (impl_LinkStep.calls kq7_ x7_0 _ _ x7_1 x7_2 x7_3 _ _ x7_4 _ _ x7_5 _ _ x7_6 ((rd_T39 t2 x7_s7).f0) ((rd_T39 t2 x7_s7).f1) t11 t12 t13 t14 t15 t16 t17 t18 _ (Kd.S_reads' HOx7_1.out).2.2 (Kd.S_reads' HOx7_1.out).2.1 (Kd.S_reads' HOx7_4.out).2.2 (Kd.S_reads' HOx7_4.out).2.1 (Kd.S_reads' HOx7_5.out).2.2 (Kd.S_reads' HOx7_5.out).2.1 (Kd.R_reads' HOx7_6.out).2.2 (Kd.R_reads' HOx7_6.out).2.1 A9.out).mono ?_
     rintro e w9_ ⟨f9_, v0_, v1_, v2_, v3_, rfl, ho0_, ho1_, ho2_, ho3_, hb⟩
     refine ⟨_, rfl, ?_⟩
     replace HS := aHs HS hb.size
     obtain ⟨Ao9_0, co9_0, ev_⟩ := Kd.S_slice ho0_
     subst ev_
     have HO9_0 := aSn ho0_ HB.out.size
     obtain ⟨Ao9_1, co9_1, ev_⟩ := Kd.S_slice ho1_
     subst ev_
     have HO9_1 := aSn ho1_ HB.out.size
     obtain ⟨Ao9_2, co9_2, ev_⟩ := Kd.S_slice ho2_
     subst ev_
     have HO9_2 := aSn ho2_ HB.out.size
     obtain ⟨Ao9_3, co9_3, ev_⟩ := Kd.R_slice ho3_
     subst ev_
     have HO9_3 := aRn ho3_ HB.out.size
     replace HOx7_s5 := aSb HOx7_s5 hb
     replace HOx7_1 := aSb HOx7_1 hb
     replace HOx7_4 := aSb HOx7_4 hb
     replace HOx7_5 := aSb HOx7_5 hb
     replace HOx7_6 := aRb HOx7_6 hb
     replace HO2_0 := aRb HO2_0 hb
     replace BK4 := aBb BK4 hb
     replace BK10 := aBb BK10 hb
     replace HX8 := A_.mk (el2_ hb HX8.out)
     replace HB := aHB HB hb
     clear hb ho0_ ho1_ ho2_ ho3_
     refine hK.out _ _ ⟨blk7_ BK4.out, HX8.out⟩ (fun hHeld => ?_)
     clear hK K
     refine nm_ ?_
     refine pd_ (i := 6) (N := some 27) #[T, T, T, T, T, T, T, F, F, T, F, F] rfl ?_
     refine pd_ (i := 7) (N := some 34) #[T, T, T, T, T, T, T, T, F, T, F, F] rfl ?_
     refine pd_ (i := 8) (N := some 35) #[T, T, T, T, T, T, T, T, T, T, F, F] rfl ?_
     exact norm_ (by simp only [putAll, Act.put, List.setIfInBounds_toArray, List.set_cons_zero, List.set_cons_succ]) (hCont (.slice Ao9_0 t12.length co9_0, .slice Ao9_1 t15.length co9_1, .slice Ao9_2 t16.length co9_2, .slice Ao9_3 t17.length co9_3, gb10_, (w10_.heap.size), (w9_.heap.size), f9_) _ ⟨hHeld, HOx7_s5.out, HO2_0.out, BK4.out, HB.out, (by have := HS.out; omega), (by have := HS.out; (try dsimp only); omega), HO9_0.out, HO9_1.out, HO9_2.out, HO9_3.out, BK10.out, (by have := HS.out; (try dsimp only); omega)⟩)
   rintro ⟨z0_, z1_, z2_, z3_, gb10_, lo53j_, up53j_, f9_⟩ w53j_ ⟨hHeld, m0_, m1_, m2_, m3_, m4_, m5_, m6_, m7_, m8_, m9_, m10_, m11_⟩
   replace HOx7_s5 := A_.mk m0_
   replace HO2_0 := A_.mk m1_
   replace BK4 := A_.mk m2_
   replace HB := A_.mk m3_
   replace HS := A_.mk (And.intro HS.out m4_)
   replace HS := A_.mk (And.intro HS.out (show w53d_.heap.size ≤ lo53j_ ∧ lo53j_ ≤ up53j_ ∧ up53j_ ≤ w53j_.heap.size from m5_))
   obtain ⟨Ao9_0, co9_0, ev_⟩ := Kd.S_slice m6_
   replace ev_ : z0_ = _ := ev_
   subst ev_
   have HO9_0 := A_.mk (show Kd.S k68 68 w53j_ w.heap.size (fun k_ => ((lo53j_ ≤ k_ ∧ k_ < up53j_) ∧ f9_ k_ = 0)) (.slice Ao9_0 t12.length co9_0) t12 from m6_)
   obtain ⟨Ao9_1, co9_1, ev_⟩ := Kd.S_slice m7_
   replace ev_ : z1_ = _ := ev_
   subst ev_
   have HO9_1 := A_.mk (show Kd.S (Kd.slice 3 (Kd.int .i64)) 32 w53j_ w.heap.size (fun k_ => ((lo53j_ ≤ k_ ∧ k_ < up53j_) ∧ f9_ k_ = 1)) (.slice Ao9_1 t15.length co9_1) t15 from m7_)
   obtain ⟨Ao9_2, co9_2, ev_⟩ := Kd.S_slice m8_
   replace ev_ : z2_ = _ := ev_
   subst ev_
   have HO9_2 := A_.mk (show Kd.S (Kd.slice 3 (Kd.int .i64)) 32 w53j_ w.heap.size (fun k_ => ((lo53j_ ≤ k_ ∧ k_ < up53j_) ∧ f9_ k_ = 2)) (.slice Ao9_2 t16.length co9_2) t16 from m8_)
   obtain ⟨Ao9_3, co9_3, ev_⟩ := Kd.R_slice m9_
   replace ev_ : z3_ = _ := ev_
   subst ev_
   have HO9_3 := A_.mk (show Kd.R (Kd.int .i64) 3 w53j_ w.heap.size (fun k_ => ((lo53j_ ≤ k_ ∧ k_ < up53j_) ∧ f9_ k_ = 3)) (.slice Ao9_3 t17.length co9_3) t17 from m9_)
   have BK10 := A_.mk (show w53j_.heap[gb10_]? = some (.cells #[.int .i64 0, .slice none 0 0, .int .i64 0, .int .i64 0, .slice none 0 0, .slice none 0 0, .slice none 0 0] 34 (0, 0)) from m10_)
   replace HS := A_.mk (And.intro HS.out (show w53d_.heap.size ≤ gb10_ ∧ gb10_ < w53j_.heap.size ∧ (gb10_ < lo53j_ ∨ up53j_ ≤ gb10_) from m11_))
   clear m0_ m1_ m2_ m3_ m4_ m5_ m6_ m7_ m8_ m9_ m10_ m11_
   refine norm_ (a' := ?_) ?_ ?_
   rotate_left
   ·simp only [putAll, Act.put, List.setIfInBounds_toArray, List.set_cons_zero, List.set_cons_succ]
    rfl
   refine last_ (i := 10) (N := none) #[T, T, T, T, T, T, T, T, T, T, T, F] rfl rfl (by kernel_rfl) (by decide) (fun K hK => ?_)
   have Q4 := blk7_ BK4.out
   have Q10 := blk7_ BK10.out
   have qf0 := bf_ BK10.out 0; have qf1 := bf_ BK10.out 1; have qf2 := bf_ BK10.out 2; have qf3 := bf_ BK10.out 3; have qf4 := bf_ BK10.out 4; have qf5 := bf_ BK10.out 5; have qf6 := bf_ BK10.out 6
   obtain ⟨w11_, hw⟩ : ∃ q_ : World, q_ = (ch7_ w53j_ gb10_ (.int .i64 t11) (.slice Ao9_0 t12.length co9_0) (.int .i64 t13) (.int .i64 t14) (.slice Ao9_1 t15.length co9_1) (.slice Ao9_2 t16.length co9_2) (.slice Ao9_3 t17.length co9_3)) := ⟨_, rfl⟩
   refine skip_ (w1 := w11_) (by rfl) rfl ?_ ?_
   ·rw [hw]; go_simp; try rfl
   refine hK.out _ _ ?_
   clear hK K qf0 qf1 qf2 qf3 qf4 qf5 qf6 Q4 Q10
   obtain ⟨hbx, hkp, hbb⟩ := st7_ hw BK10 HB (by have := HS.out; omega)
   clear hw
   replace HOx7_s5 := aSk HOx7_s5 hkp HS
   replace HO2_0 := aRk HO2_0 hkp HS
   replace HO9_0 := aSk HO9_0 hkp HS
   replace HO9_1 := aSk HO9_1 hkp HS
   replace HO9_2 := aSk HO9_2 hkp HS
   replace HO9_3 := aRk HO9_3 hkp HS
   replace BK4 := aBk BK4 hkp HS
   replace BK10 := A_.mk hbx
   replace HB := A_.mk hbb
   replace HS := aHs HS hkp.1
   clear hkp hbb hbx
   refine pd_ (i := 11) (N := some 9) #[T, T, T, T, T, T, T, T, T, T, T, T] rfl ?_
   refine done_ (by kernel_rfl) ?_
   have Q4 := blk7_ BK4.out
   have Q10 := blk7_ BK10.out
   replace H := H.out
   by_cases hc14_ : t18 = true
   case neg =>
    rw [if_neg hc14_] at H
    replace hc14_ := eq_false_of_ne_true hc14_
    subst hc14_
    by_cases hc15_ : ((rd_T39 t2 x7_s7).f0) = 4
    case pos =>
     rw [if_pos hc15_] at H
     have hc15_b0 : (((rd_T39 t2 x7_s7).f0) == 4) = true := beq_iff_eq.mpr hc15_
     have hc15_bn : (((rd_T39 t2 x7_s7).f0) != 4) = false := bne_eq_false_iff_eq.mpr hc15_
     replace hc15_ := A_.mk hc15_
     replace H := oa_ H
     obtain ⟨t25, A22, H⟩ := H
     have HA := A_.mk H
     clear H Q4 Q10
     have Q4 := blk7_ BK4.out
     have Q10 := blk7_ BK10.out
     obtain ⟨ad_, ea_, hx0_, hx1_⟩ := at_T39 (Kd.R_reads' HO2_0.out).2.2 x7_s7 EB8.out.1 EB8.out.2
     injection ea_ with ea_
     subst ea_
     rw [add_at, Nat.zero_add] at hx0_ hx1_
     have HX8 := A_.mk (And.intro hx0_ hx1_)
     clear hx0_ hx1_ Q4 Q10
     have Q4 := blk7_ BK4.out
     have Q10 := blk7_ BK10.out
     have QE8 := HX8.out
     have QL8_0 := HX8.out.1
     have QL8_1 := HX8.out.2
     go_wp2_with (fail)
     (with_reducible refine (laws_btoi.calls true t25 _ A22.out).mono ?_)
     rintro e w22_ ⟨rfl, hb⟩
     replace hb := Drawn0.below hb
     replace HS := aHs HS hb.size
     replace HOx7_s5 := aSb HOx7_s5 hb
     replace HO2_0 := aRb HO2_0 hb
     replace HO9_0 := aSb HO9_0 hb
     replace HO9_1 := aSb HO9_1 hb
     replace HO9_2 := aSb HO9_2 hb
     replace HO9_3 := aRb HO9_3 hb
     replace BK4 := aBb BK4 hb
     replace BK10 := aBb BK10 hb
     replace HB := aHB HB hb
     clear hb  Q4 Q10 QE8 QL8_0 QL8_1
     have Q4 := blk7_ BK4.out
     have Q10 := blk7_ BK10.out
     go_wp2_with (first | ((with_reducible refine gate_store (t := 34) (p := 4) rfl ?_); have qf0 := bf_ BK4.out 0; have qf1 := bf_ BK4.out 1; have qf2 := bf_ BK4.out 2; have qf3 := bf_ BK4.out 3; have qf4 := bf_ BK4.out 4; have qf5 := bf_ BK4.out 5; have qf6 := bf_ BK4.out 6; refine se_ (t := 34) (p := 4) (v := ?vo_23) (w1 := (ch7_ w22_ gb4_ (.int .i64 t11) (.slice Ao9_0 t12.length co9_0) (.int .i64 t13) (.int .i64 t14) (.slice Ao9_1 t15.length co9_1) (.slice Ao9_2 t16.length co9_2) (.slice Ao9_3 t17.length co9_3))) ?hg ?ho ?hn ?hr ?_; (case ho => rfl); (case hg => rfl); (case hn => rfl); (case hr => first | (go_simp; done) | (go_simp; rfl)); intro w23_ hw; clear qf0 qf1 qf2 qf3 qf4 qf5 qf6; obtain ⟨hbx, hkp, hbb⟩ := st7_ hw BK4 HB (by have := HS.out; omega); clear hw; replace HOx7_s5 := aSk HOx7_s5 hkp HS; replace HO2_0 := aRk HO2_0 hkp HS; replace HO9_0 := aSk HO9_0 hkp HS; replace HO9_1 := aSk HO9_1 hkp HS; replace HO9_2 := aSk HO9_2 hkp HS; replace HO9_3 := aRk HO9_3 hkp HS; replace BK10 := aBk BK10 hkp HS; replace BK4 := A_.mk hbx; replace HB := A_.mk hbb; replace HS := aHs HS hkp.1; clear hkp hbb hbx Q4 Q10; have Q4 := blk7_ BK4.out; have Q10 := blk7_ BK10.out))
     obtain ⟨fp54_, hfp_⟩ : ∃ f_ : Nat → Nat, ∀ k_, f_ k_ = (if ((w2_.heap.size ≤ k_ ∧ k_ < wq7_.heap.size) ∧ fx7_ k_ = 0) then 0 else (if ((lo53j_ ≤ k_ ∧ k_ < up53j_) ∧ f9_ k_ = 0) then 1 else (if ((lo53j_ ≤ k_ ∧ k_ < up53j_) ∧ f9_ k_ = 1) then 2 else (if ((lo53j_ ≤ k_ ∧ k_ < up53j_) ∧ f9_ k_ = 2) then 3 else (if ((lo53j_ ≤ k_ ∧ k_ < up53j_) ∧ f9_ k_ = 3) then 4 else 5))))) := ⟨fun k_ => (if ((w2_.heap.size ≤ k_ ∧ k_ < wq7_.heap.size) ∧ fx7_ k_ = 0) then 0 else (if ((lo53j_ ≤ k_ ∧ k_ < up53j_) ∧ f9_ k_ = 0) then 1 else (if ((lo53j_ ≤ k_ ∧ k_ < up53j_) ∧ f9_ k_ = 1) then 2 else (if ((lo53j_ ≤ k_ ∧ k_ < up53j_) ∧ f9_ k_ = 2) then 3 else (if ((lo53j_ ≤ k_ ∧ k_ < up53j_) ∧ f9_ k_ = 3) then 4 else 5))))), fun _ => rfl⟩
     have hcp0_ : ∀ k_, (((w2_.heap.size ≤ k_ ∧ k_ < wq7_.heap.size) ∧ fx7_ k_ = 0)) → ((w2_.heap.size ≤ k_ ∧ k_ < w23_.heap.size) ∧ fp54_ k_ = 0) := fun k_ hk_ => ⟨by have := HS.out; omega, by rw [hfp_]; have := HS.out; repeat' (first | omega | split)⟩
     have hcp1_ : ∀ k_, (((lo53j_ ≤ k_ ∧ k_ < up53j_) ∧ f9_ k_ = 0)) → ((w2_.heap.size ≤ k_ ∧ k_ < w23_.heap.size) ∧ fp54_ k_ = 1) := fun k_ hk_ => ⟨by have := HS.out; omega, by rw [hfp_]; have := HS.out; repeat' (first | omega | split)⟩
     have hcp2_ : ∀ k_, (((lo53j_ ≤ k_ ∧ k_ < up53j_) ∧ f9_ k_ = 1)) → ((w2_.heap.size ≤ k_ ∧ k_ < w23_.heap.size) ∧ fp54_ k_ = 2) := fun k_ hk_ => ⟨by have := HS.out; omega, by rw [hfp_]; have := HS.out; repeat' (first | omega | split)⟩
     have hcp3_ : ∀ k_, (((lo53j_ ≤ k_ ∧ k_ < up53j_) ∧ f9_ k_ = 2)) → ((w2_.heap.size ≤ k_ ∧ k_ < w23_.heap.size) ∧ fp54_ k_ = 3) := fun k_ hk_ => ⟨by have := HS.out; omega, by rw [hfp_]; have := HS.out; repeat' (first | omega | split)⟩
     have hcp4_ : ∀ k_, (((lo53j_ ≤ k_ ∧ k_ < up53j_) ∧ f9_ k_ = 3)) → ((w2_.heap.size ≤ k_ ∧ k_ < w23_.heap.size) ∧ fp54_ k_ = 4) := fun k_ hk_ => ⟨by have := HS.out; omega, by rw [hfp_]; have := HS.out; repeat' (first | omega | split)⟩
     have hfb4_ : fp54_ gb4_ = 5 := by rw [hfp_]; have := HS.out; repeat' (first | omega | split)
     have hfb10_ : fp54_ gb10_ = 5 := by rw [hfp_]; have := HS.out; repeat' (first | omega | split)
     go_roundg kq7_
     case measure => have := HKL7.out; omega
     case rel => exact ⟨fp54_, Ax7_s5, Ao9_0, Ao9_1, Ao9_2, Ao9_3, cx7_s5, co9_0, co9_1, co9_2, co9_3, x7_s5, (wrap64 (x7_s6 + t25)), (wrap64 (x7_s7 + 1)), t11, t12, t13, t14, t15, t16, t17, (by first | rfl | (simp; done) | (simp [*]; done)), (by first | rfl | (simp; done) | (simp [*]; done)), (by first | rfl | (simp; done) | (simp [*]; done)), HA, ⟨by have := HKL7.out; omega⟩, BK4, ⟨Kd.S_mono HOx7_s5.out hcp0_⟩, ⟨Kd.S_mono HO9_0.out hcp1_⟩, ⟨Kd.S_mono HO9_1.out hcp2_⟩, ⟨Kd.S_mono HO9_2.out hcp3_⟩, ⟨Kd.R_mono HO9_3.out hcp4_⟩, ⟨Nat.le_of_eq hfb4_.symm⟩, HO2_0, HB, ⟨(by have := HS.out; omega)⟩⟩
    rw [if_neg hc15_] at H
    have hc15_b0 : (((rd_T39 t2 x7_s7).f0) == 4) = false := beq_eq_false_iff_ne.mpr hc15_
    have hc15_bn : (((rd_T39 t2 x7_s7).f0) != 4) = true := bne_iff_ne.mpr hc15_
    replace H := oa_ H
    obtain ⟨t26, A24, H⟩ := H
    have HA := A_.mk H
    clear H Q4 Q10
    have Q4 := blk7_ BK4.out
    have Q10 := blk7_ BK10.out
    obtain ⟨ad_, ea_, hx0_, hx1_⟩ := at_T39 (Kd.R_reads' HO2_0.out).2.2 x7_s7 EB8.out.1 EB8.out.2
    injection ea_ with ea_
    subst ea_
    rw [add_at, Nat.zero_add] at hx0_ hx1_
    have HX8 := A_.mk (And.intro hx0_ hx1_)
    clear hx0_ hx1_ Q4 Q10
    have Q4 := blk7_ BK4.out
    have Q10 := blk7_ BK10.out
    have QE8 := HX8.out
    have QL8_0 := HX8.out.1
    have QL8_1 := HX8.out.2
    go_wp2_with (fail)
    (with_reducible refine (laws_btoi.calls false t26 _ A24.out).mono ?_)
    rintro e w24_ ⟨rfl, hb⟩
    replace hb := Drawn0.below hb
    replace HS := aHs HS hb.size
    replace HOx7_s5 := aSb HOx7_s5 hb
    replace HO2_0 := aRb HO2_0 hb
    replace HO9_0 := aSb HO9_0 hb
    replace HO9_1 := aSb HO9_1 hb
    replace HO9_2 := aSb HO9_2 hb
    replace HO9_3 := aRb HO9_3 hb
    replace BK4 := aBb BK4 hb
    replace BK10 := aBb BK10 hb
    replace HB := aHB HB hb
    clear hb  Q4 Q10 QE8 QL8_0 QL8_1
    have Q4 := blk7_ BK4.out
    have Q10 := blk7_ BK10.out
    go_wp2_with (first | ((with_reducible refine gate_store (t := 34) (p := 4) rfl ?_); have qf0 := bf_ BK4.out 0; have qf1 := bf_ BK4.out 1; have qf2 := bf_ BK4.out 2; have qf3 := bf_ BK4.out 3; have qf4 := bf_ BK4.out 4; have qf5 := bf_ BK4.out 5; have qf6 := bf_ BK4.out 6; refine se_ (t := 34) (p := 4) (v := ?vo_25) (w1 := (ch7_ w24_ gb4_ (.int .i64 t11) (.slice Ao9_0 t12.length co9_0) (.int .i64 t13) (.int .i64 t14) (.slice Ao9_1 t15.length co9_1) (.slice Ao9_2 t16.length co9_2) (.slice Ao9_3 t17.length co9_3))) ?hg ?ho ?hn ?hr ?_; (case ho => rfl); (case hg => rfl); (case hn => rfl); (case hr => first | (go_simp; done) | (go_simp; rfl)); intro w25_ hw; clear qf0 qf1 qf2 qf3 qf4 qf5 qf6; obtain ⟨hbx, hkp, hbb⟩ := st7_ hw BK4 HB (by have := HS.out; omega); clear hw; replace HOx7_s5 := aSk HOx7_s5 hkp HS; replace HO2_0 := aRk HO2_0 hkp HS; replace HO9_0 := aSk HO9_0 hkp HS; replace HO9_1 := aSk HO9_1 hkp HS; replace HO9_2 := aSk HO9_2 hkp HS; replace HO9_3 := aRk HO9_3 hkp HS; replace BK10 := aBk BK10 hkp HS; replace BK4 := A_.mk hbx; replace HB := A_.mk hbb; replace HS := aHs HS hkp.1; clear hkp hbb hbx Q4 Q10; have Q4 := blk7_ BK4.out; have Q10 := blk7_ BK10.out))
    obtain ⟨fp55_, hfp_⟩ : ∃ f_ : Nat → Nat, ∀ k_, f_ k_ = (if ((w2_.heap.size ≤ k_ ∧ k_ < wq7_.heap.size) ∧ fx7_ k_ = 0) then 0 else (if ((lo53j_ ≤ k_ ∧ k_ < up53j_) ∧ f9_ k_ = 0) then 1 else (if ((lo53j_ ≤ k_ ∧ k_ < up53j_) ∧ f9_ k_ = 1) then 2 else (if ((lo53j_ ≤ k_ ∧ k_ < up53j_) ∧ f9_ k_ = 2) then 3 else (if ((lo53j_ ≤ k_ ∧ k_ < up53j_) ∧ f9_ k_ = 3) then 4 else 5))))) := ⟨fun k_ => (if ((w2_.heap.size ≤ k_ ∧ k_ < wq7_.heap.size) ∧ fx7_ k_ = 0) then 0 else (if ((lo53j_ ≤ k_ ∧ k_ < up53j_) ∧ f9_ k_ = 0) then 1 else (if ((lo53j_ ≤ k_ ∧ k_ < up53j_) ∧ f9_ k_ = 1) then 2 else (if ((lo53j_ ≤ k_ ∧ k_ < up53j_) ∧ f9_ k_ = 2) then 3 else (if ((lo53j_ ≤ k_ ∧ k_ < up53j_) ∧ f9_ k_ = 3) then 4 else 5))))), fun _ => rfl⟩
    have hcp0_ : ∀ k_, (((w2_.heap.size ≤ k_ ∧ k_ < wq7_.heap.size) ∧ fx7_ k_ = 0)) → ((w2_.heap.size ≤ k_ ∧ k_ < w25_.heap.size) ∧ fp55_ k_ = 0) := fun k_ hk_ => ⟨by have := HS.out; omega, by rw [hfp_]; have := HS.out; repeat' (first | omega | split)⟩
    have hcp1_ : ∀ k_, (((lo53j_ ≤ k_ ∧ k_ < up53j_) ∧ f9_ k_ = 0)) → ((w2_.heap.size ≤ k_ ∧ k_ < w25_.heap.size) ∧ fp55_ k_ = 1) := fun k_ hk_ => ⟨by have := HS.out; omega, by rw [hfp_]; have := HS.out; repeat' (first | omega | split)⟩
    have hcp2_ : ∀ k_, (((lo53j_ ≤ k_ ∧ k_ < up53j_) ∧ f9_ k_ = 1)) → ((w2_.heap.size ≤ k_ ∧ k_ < w25_.heap.size) ∧ fp55_ k_ = 2) := fun k_ hk_ => ⟨by have := HS.out; omega, by rw [hfp_]; have := HS.out; repeat' (first | omega | split)⟩
    have hcp3_ : ∀ k_, (((lo53j_ ≤ k_ ∧ k_ < up53j_) ∧ f9_ k_ = 2)) → ((w2_.heap.size ≤ k_ ∧ k_ < w25_.heap.size) ∧ fp55_ k_ = 3) := fun k_ hk_ => ⟨by have := HS.out; omega, by rw [hfp_]; have := HS.out; repeat' (first | omega | split)⟩
    have hcp4_ : ∀ k_, (((lo53j_ ≤ k_ ∧ k_ < up53j_) ∧ f9_ k_ = 3)) → ((w2_.heap.size ≤ k_ ∧ k_ < w25_.heap.size) ∧ fp55_ k_ = 4) := fun k_ hk_ => ⟨by have := HS.out; omega, by rw [hfp_]; have := HS.out; repeat' (first | omega | split)⟩
    have hfb4_ : fp55_ gb4_ = 5 := by rw [hfp_]; have := HS.out; repeat' (first | omega | split)
    have hfb10_ : fp55_ gb10_ = 5 := by rw [hfp_]; have := HS.out; repeat' (first | omega | split)
    go_roundg kq7_
    case measure => have := HKL7.out; omega
    case rel => exact ⟨fp55_, Ax7_s5, Ao9_0, Ao9_1, Ao9_2, Ao9_3, cx7_s5, co9_0, co9_1, co9_2, co9_3, x7_s5, (wrap64 (x7_s6 + t26)), (wrap64 (x7_s7 + 1)), t11, t12, t13, t14, t15, t16, t17, (by first | rfl | (simp; done) | (simp [*]; done)), (by first | rfl | (simp; done) | (simp [*]; done)), (by first | rfl | (simp; done) | (simp [*]; done)), HA, ⟨by have := HKL7.out; omega⟩, BK4, ⟨Kd.S_mono HOx7_s5.out hcp0_⟩, ⟨Kd.S_mono HO9_0.out hcp1_⟩, ⟨Kd.S_mono HO9_1.out hcp2_⟩, ⟨Kd.S_mono HO9_2.out hcp3_⟩, ⟨Kd.R_mono HO9_3.out hcp4_⟩, ⟨Nat.le_of_eq hfb4_.symm⟩, HO2_0, HB, ⟨(by have := HS.out; omega)⟩⟩
   rw [if_pos hc14_] at H
   subst hc14_
   by_cases hc16_ : ((rd_T39 t2 x7_s7).f0) = 7
   case pos =>
    rw [if_pos hc16_] at H
    have hc16_b0 : (((rd_T39 t2 x7_s7).f0) == 7) = true := beq_iff_eq.mpr hc16_
    have hc16_bn : (((rd_T39 t2 x7_s7).f0) != 7) = false := bne_eq_false_iff_eq.mpr hc16_
    replace hc16_ := A_.mk hc16_
    obtain ⟨y19, Ny19⟩ : ∃ q_, q_ = ([(wrap64 (Int.tdiv ((rd_T39 t2 x7_s7).f1) 256)), (Int.tmod ((rd_T39 t2 x7_s7).f1) 256)] : List Int) := ⟨_, rfl⟩
    rw [← Ny19] at H
    replace Ny19 := A_.mk Ny19
    by_cases hl17_ : (x7_s5.length + 1) * 24 ≤ 140737488355328
    case neg => rw [if_neg hl17_] at H; cases H
    rw [if_pos hl17_] at H
    have LM13 := A_.mk hl17_
    clear hl17_
    obtain ⟨y20, Ny20⟩ : ∃ q_, q_ = (x7_s5 ++ [y19]) := ⟨_, rfl⟩
    rw [← Ny20] at H
    replace Ny20 := A_.mk Ny20
    replace H := A_.mk H
    clear Q4 Q10
    have Q4 := blk7_ BK4.out
    have Q10 := blk7_ BK10.out
    obtain ⟨ad_, ea_, hx0_, hx1_⟩ := at_T39 (Kd.R_reads' HO2_0.out).2.2 x7_s7 EB8.out.1 EB8.out.2
    injection ea_ with ea_
    subst ea_
    rw [add_at, Nat.zero_add] at hx0_ hx1_
    have HX8 := A_.mk (And.intro hx0_ hx1_)
    clear hx0_ hx1_ Q4 Q10
    have Q4 := blk7_ BK4.out
    have Q10 := blk7_ BK10.out
    have QE8 := HX8.out
    have QL8_0 := HX8.out.1
    have QL8_1 := HX8.out.2
    go_wp2_with (fail)
    refine start_ (n := 17) (S := fun w' => (w'.cell? ⟨gHO2_0_, (x7_s7).toNat * 2, none⟩ = some (.int .i64 ((rd_T39 t2 x7_s7).f0)) ∧ w'.cell? ⟨gHO2_0_, (x7_s7).toNat * 2 + 1, none⟩ = some (.int .i64 ((rd_T39 t2 x7_s7).f1)))) (ds := []) #[F, F, F, F, F, F, F, F, F, F, F, F, F, F, F, F, F] (by kernel_rfl) rfl rfl (HX8.out) (fun hHeld => ?_)
    clear Q4 Q10 QE8 QL8_0 QL8_1
    have hb := below_drew (Below.refl w11_.heap.size w11_)
    replace HS := aHs HS hb.size
    replace HOx7_s5 := aSb HOx7_s5 hb
    replace HO2_0 := aRb HO2_0 hb
    replace HO9_0 := aSb HO9_0 hb
    replace HO9_1 := aSb HO9_1 hb
    replace HO9_2 := aSb HO9_2 hb
    replace HO9_3 := aRb HO9_3 hb
    replace BK4 := aBb BK4 hb
    replace BK10 := aBb BK10 hb
    replace HX8 := A_.mk (el2_ hb HX8.out)
    replace HB := aHB HB hb
    clear hb
    generalize w11_.drew = w56d_ at HOx7_s5 HO2_0 HO9_0 HO9_1 HO9_2 HO9_3 HX8 BK4 BK10 HB HS hHeld ⊢
    refine pd_ (i := 0) (N := some 45) #[T, F, F, F, F, F, F, F, F, F, F, F, F, F, F, F, F] rfl ?_
    refine pd_ (i := 1) (N := some 46) #[T, T, F, F, F, F, F, F, F, F, F, F, F, F, F, F, F] rfl ?_
    refine pd_ (i := 2) (N := some 47) #[T, T, T, F, F, F, F, F, F, F, F, F, F, F, F, F, F] rfl ?_
    refine pd_ (i := 3) (N := some 48) #[T, T, T, T, F, F, F, F, F, F, F, F, F, F, F, F, F] rfl ?_
    refine pd_ (i := 4) (N := some 49) #[T, T, T, T, T, F, F, F, F, F, F, F, F, F, F, F, F] rfl ?_
    refine tl_ (i := 5) (N := some 50) #[T, T, T, T, T, T, F, F, F, F, F, F, F, F, F, F, F] rfl hHeld ?_
    refine pd_ (i := 6) (N := some 51) #[T, T, T, T, T, T, T, F, F, F, F, F, F, F, F, F, F] rfl ?_
    refine pd_ (i := 7) (N := some 52) #[T, T, T, T, T, T, T, T, F, F, F, F, F, F, F, F, F] rfl ?_
    refine pd_ (i := 8) (N := some 53) #[T, T, T, T, T, T, T, T, T, F, F, F, F, F, F, F, F] rfl ?_
    refine pd_ (i := 9) (N := some 54) #[T, T, T, T, T, T, T, T, T, T, F, F, F, F, F, F, F] rfl ?_
    refine pd_ (i := 10) (N := some 55) #[T, T, T, T, T, T, T, T, T, T, T, F, F, F, F, F, F] rfl ?_
    refine tl_ (i := 11) (N := some 56) #[T, T, T, T, T, T, T, T, T, T, T, T, F, F, F, F, F] rfl hHeld ?_
    refine pd_ (i := 12) (N := some 57) #[T, T, T, T, T, T, T, T, T, T, T, T, T, F, F, F, F] rfl ?_
    refine on_ (i := 13) (N := some 58) #[T, T, T, T, T, T, T, T, T, T, T, T, T, T, F, F, F] rfl (fun K hK => ?_)
    refine Kd.R_lit_step (Kd.int .i64) (w0 := w) w.heap.size 3 (by rfl) (N := 58) rfl (xs := [(wrap64 (Int.tdiv ((rd_T39 t2 x7_s7).f1) 256)), (Int.tmod ((rd_T39 t2 x7_s7).f1) 256)]) (inner := [(.int .i64 (wrap64 (Int.tdiv ((rd_T39 t2 x7_s7).f1) 256))), (.int .i64 (Int.tmod ((rd_T39 t2 x7_s7).f1) 256))]) (ok := fun k_ => w56d_.heap.size ≤ k_) (okp := fun k_ => w56d_.heap.size ≤ k_) ?lR ?lP (fun _ hk => hk) (Nat.le_refl _) HB.out HB.out.size (by simp) ?_
    case lR => first | (go_simp; done) | (go_simp; rfl)
    case lP => exact (Reps.one (show Kd.M (Kd.int .i64) _ _ _ (wrap64 (Int.tdiv ((rd_T39 t2 x7_s7).f1) 256)) [.int .i64 (wrap64 (Int.tdiv ((rd_T39 t2 x7_s7).f1) 256))] from rfl) (Reps.one (show Kd.M (Kd.int .i64) _ _ _ (Int.tmod ((rd_T39 t2 x7_s7).f1) 256) [.int .i64 (Int.tmod ((rd_T39 t2 x7_s7).f1) 256)] from rfl) (Reps.none _ _)))
    intro v_ w12_ ho hbb hg_ hn_
    clear hn_
    rw [← Ny19.out] at ho
    have hkp : Kept w56d_ w12_ (fun k_ => k_ < 0) := Kept.of_grown hg_ (Kept.refl _ _) (fun k_ e_ => by cases e_)
    replace HOx7_s5 := aSk HOx7_s5 hkp HS
    replace HO2_0 := aRk HO2_0 hkp HS
    replace HO9_0 := aSk HO9_0 hkp HS
    replace HO9_1 := aSk HO9_1 hkp HS
    replace HO9_2 := aSk HO9_2 hkp HS
    replace HO9_3 := aRk HO9_3 hkp HS
    replace BK4 := aBk BK4 hkp HS
    replace BK10 := aBk BK10 hkp HS
    have hb_ : Below w56d_.heap.size w56d_ w12_ := ⟨hg_.os, hg_.tape, hg_.output, hg_.size, fun k_ h_ => hg_.block k_ h_ (by simp)⟩
    replace HX8 := A_.mk (el2_ hb_ HX8.out)
    clear hb_
    replace HS := aHs HS hkp.1
    obtain ⟨Ao12, co12, ev_⟩ := Kd.R_slice ho
    subst ev_
    have HO12 := A_.mk (Kd.R_mono (ok' := (fun k_ => ((w56d_.heap.size ≤ k_ ∧ k_ < w12_.heap.size)))) (Kd.R_bound ho) (fun k_ hk_ => ⟨hk_.1, hk_.2.2.1⟩))
    replace HB := A_.mk hbb
    clear hkp hbb hg_ ho
    refine hK.out _ _ (HX8.out) (fun hHeld => ?_)
    clear hK K
    refine nm_ ?_
    refine on_ (i := 14) (N := some 59) #[T, T, T, T, T, T, T, T, T, T, T, T, T, T, T, F, F] rfl (fun K hK => ?_)
    refine value_ (w1 := ?_) (v := ?_) (by rfl) rfl ?_ ?_
    rotate_left 2
    ·go_simp
     constructor
     ·rfl
     ·rfl
    refine hK.out _ _ ((el2_ (ba_ (Below.refl _ _) _) HX8.out)) (fun hHeld => ?_)
    clear hK K
    refine nm_ ?_
    refine on_ (i := 15) (N := some 60) #[T, T, T, T, T, T, T, T, T, T, T, T, T, T, T, T, F] rfl (fun K hK => ?_)
    refine Kd.S_append_step (Kd.slice 3 (Kd.int .i64)) (w0 := w) w.heap.size (by rfl) (.tmp 45) (.tmp 59) 29 32 ((.slice none 0 0)) 24 rfl Try.underlying29 info32 rfl (by decide) (by omega) (.slice Ax7_s5 x7_s5.length cx7_s5) x7_s5 y19 [.slice Ao12 y19.length co12] (fun k_ => (((w2_.heap.size ≤ k_ ∧ k_ < wq7_.heap.size) ∧ fx7_ k_ = 0)) ∨ (((w56d_.heap.size ≤ k_ ∧ k_ < w12_.heap.size))) ∨ w12_.heap.size ≤ k_) (fun k_ => ((w56d_.heap.size ≤ k_ ∧ k_ < w12_.heap.size))) rfl rfl ?aP ?aQ ?aF ?aO HB.out HB.out.size ?aL ?_
    case aP => exact Kd.M_row HO12.out
    case aQ => exact fun k_ hk_ => ⟨.inr (.inl hk_), fun e_ => by have := (Kd.S_R HOx7_s5.out).1 k_ e_.symm; clear e_; have := HS.out; omega⟩
    case aF => exact fun k_ hk_ => .inr (.inr hk_)
    case aO => exact Kd.S_mono HOx7_s5.out (fun k_ hk_ => ⟨.inl hk_, fun e_ => by have := HS.out; omega⟩)
    case aL => have := LM13.out; omega
    intro v_ w13_ ho hbb hg hat
    clear hat
    rw [← Ny20.out] at ho
    have hkp : Kept w12_ w13_ (fun k_ => ((w2_.heap.size ≤ k_ ∧ k_ < wq7_.heap.size) ∧ fx7_ k_ = 0)) := Kept.of_grown hg (Kept.refl _ _) (fun k_ e_ => .inl ((Kd.S_R HOx7_s5.out).1 k_ e_))
    replace HO2_0 := aRk HO2_0 hkp HS
    replace HO9_0 := aSk HO9_0 hkp HS
    replace HO9_1 := aSk HO9_1 hkp HS
    replace HO9_2 := aSk HO9_2 hkp HS
    replace HO9_3 := aRk HO9_3 hkp HS
    replace BK4 := aBk BK4 hkp HS
    replace BK10 := aBk BK10 hkp HS
    replace HS := aHs HS hkp.1
    obtain ⟨Ao13, co13, ev_⟩ := Kd.S_slice ho
    subst ev_
    have HO13 := A_.mk (Kd.S_mono (ok' := (fun k_ => ((w2_.heap.size ≤ k_ ∧ k_ < wq7_.heap.size) ∧ fx7_ k_ = 0) ∨ ((w56d_.heap.size ≤ k_ ∧ k_ < w12_.heap.size)) ∨ ((w12_.heap.size ≤ k_ ∧ k_ < w13_.heap.size)))) (Kd.S_bound ho) (fun k_ hk_ => by have := hk_.1; have := hk_.2.2.1; have := hk_.2.1; clear hk_; have := HS.out; omega))
    replace HB := A_.mk hbb
    clear hkp hbb hg ho HOx7_s5 HO12 HX8
    obtain ⟨ad_, ea_, hx0_, hx1_⟩ := at_T39 (Kd.R_reads' HO2_0.out).2.2 x7_s7 EB8.out.1 EB8.out.2
    injection ea_ with ea_
    subst ea_
    rw [add_at, Nat.zero_add] at hx0_ hx1_
    have HX8 := A_.mk (And.intro hx0_ hx1_)
    clear hx0_ hx1_
    refine hK.out _ _ (HX8.out) (fun hHeld => ?_)
    clear hK K
    refine nm_ ?_
    refine pd_ (i := 16) (N := some 5) #[T, T, T, T, T, T, T, T, T, T, T, T, T, T, T, T, T] rfl ?_
    refine done_ (by kernel_rfl) ?_
    have Q4 := blk7_ BK4.out
    have Q10 := blk7_ BK10.out
    have QL8_0 := HX8.out.1
    have QL8_1 := HX8.out.2
    replace H := H.out
    by_cases hc18_ : ((rd_T39 t2 x7_s7).f0) = 4
    case pos =>
     rw [if_pos hc18_] at H
     have hc18_b0 : (((rd_T39 t2 x7_s7).f0) == 4) = true := beq_iff_eq.mpr hc18_
     have hc18_bn : (((rd_T39 t2 x7_s7).f0) != 4) = false := bne_eq_false_iff_eq.mpr hc18_
     replace hc18_ := A_.mk hc18_
     replace H := oa_ H
     obtain ⟨t21, A14, H⟩ := H
     have HA := A_.mk H
     clear H Q4 Q10 QL8_0 QL8_1
     have Q4 := blk7_ BK4.out
     have Q10 := blk7_ BK10.out
     have QE8 := HX8.out
     have QL8_0 := HX8.out.1
     have QL8_1 := HX8.out.2
     go_wp2_with (fail)
     (with_reducible refine (laws_btoi.calls true t21 _ A14.out).mono ?_)
     rintro e w14_ ⟨rfl, hb⟩
     replace hb := Drawn0.below hb
     replace HS := aHs HS hb.size
     replace HO2_0 := aRb HO2_0 hb
     replace HO9_0 := aSb HO9_0 hb
     replace HO9_1 := aSb HO9_1 hb
     replace HO9_2 := aSb HO9_2 hb
     replace HO9_3 := aRb HO9_3 hb
     replace HO13 := aSb HO13 hb
     replace BK4 := aBb BK4 hb
     replace BK10 := aBb BK10 hb
     replace HB := aHB HB hb
     clear hb  Q4 Q10 QE8 QL8_0 QL8_1
     have Q4 := blk7_ BK4.out
     have Q10 := blk7_ BK10.out
     go_wp2_with (first | ((with_reducible refine gate_store (t := 34) (p := 4) rfl ?_); have qf0 := bf_ BK4.out 0; have qf1 := bf_ BK4.out 1; have qf2 := bf_ BK4.out 2; have qf3 := bf_ BK4.out 3; have qf4 := bf_ BK4.out 4; have qf5 := bf_ BK4.out 5; have qf6 := bf_ BK4.out 6; refine se_ (t := 34) (p := 4) (v := ?vo_15) (w1 := (ch7_ w14_ gb4_ (.int .i64 t11) (.slice Ao9_0 t12.length co9_0) (.int .i64 t13) (.int .i64 t14) (.slice Ao9_1 t15.length co9_1) (.slice Ao9_2 t16.length co9_2) (.slice Ao9_3 t17.length co9_3))) ?hg ?ho ?hn ?hr ?_; (case ho => rfl); (case hg => rfl); (case hn => rfl); (case hr => first | (go_simp; done) | (go_simp; rfl)); intro w15_ hw; clear qf0 qf1 qf2 qf3 qf4 qf5 qf6; obtain ⟨hbx, hkp, hbb⟩ := st7_ hw BK4 HB (by have := HS.out; omega); clear hw; replace HO2_0 := aRk HO2_0 hkp HS; replace HO9_0 := aSk HO9_0 hkp HS; replace HO9_1 := aSk HO9_1 hkp HS; replace HO9_2 := aSk HO9_2 hkp HS; replace HO9_3 := aRk HO9_3 hkp HS; replace HO13 := aSk HO13 hkp HS; replace BK10 := aBk BK10 hkp HS; replace BK4 := A_.mk hbx; replace HB := A_.mk hbb; replace HS := aHs HS hkp.1; clear hkp hbb hbx Q4 Q10; have Q4 := blk7_ BK4.out; have Q10 := blk7_ BK10.out))
     obtain ⟨fp57_, hfp_⟩ : ∃ f_ : Nat → Nat, ∀ k_, f_ k_ = (if ((w2_.heap.size ≤ k_ ∧ k_ < wq7_.heap.size) ∧ fx7_ k_ = 0) ∨ ((w56d_.heap.size ≤ k_ ∧ k_ < w12_.heap.size)) ∨ ((w12_.heap.size ≤ k_ ∧ k_ < w13_.heap.size)) then 0 else (if ((lo53j_ ≤ k_ ∧ k_ < up53j_) ∧ f9_ k_ = 0) then 1 else (if ((lo53j_ ≤ k_ ∧ k_ < up53j_) ∧ f9_ k_ = 1) then 2 else (if ((lo53j_ ≤ k_ ∧ k_ < up53j_) ∧ f9_ k_ = 2) then 3 else (if ((lo53j_ ≤ k_ ∧ k_ < up53j_) ∧ f9_ k_ = 3) then 4 else 5))))) := ⟨fun k_ => (if ((w2_.heap.size ≤ k_ ∧ k_ < wq7_.heap.size) ∧ fx7_ k_ = 0) ∨ ((w56d_.heap.size ≤ k_ ∧ k_ < w12_.heap.size)) ∨ ((w12_.heap.size ≤ k_ ∧ k_ < w13_.heap.size)) then 0 else (if ((lo53j_ ≤ k_ ∧ k_ < up53j_) ∧ f9_ k_ = 0) then 1 else (if ((lo53j_ ≤ k_ ∧ k_ < up53j_) ∧ f9_ k_ = 1) then 2 else (if ((lo53j_ ≤ k_ ∧ k_ < up53j_) ∧ f9_ k_ = 2) then 3 else (if ((lo53j_ ≤ k_ ∧ k_ < up53j_) ∧ f9_ k_ = 3) then 4 else 5))))), fun _ => rfl⟩
     have hcp0_ : ∀ k_, (((w2_.heap.size ≤ k_ ∧ k_ < wq7_.heap.size) ∧ fx7_ k_ = 0) ∨ ((w56d_.heap.size ≤ k_ ∧ k_ < w12_.heap.size)) ∨ ((w12_.heap.size ≤ k_ ∧ k_ < w13_.heap.size))) → ((w2_.heap.size ≤ k_ ∧ k_ < w15_.heap.size) ∧ fp57_ k_ = 0) := fun k_ hk_ => ⟨by have := HS.out; omega, by rw [hfp_]; have := HS.out; repeat' (first | omega | split)⟩
     have hcp1_ : ∀ k_, (((lo53j_ ≤ k_ ∧ k_ < up53j_) ∧ f9_ k_ = 0)) → ((w2_.heap.size ≤ k_ ∧ k_ < w15_.heap.size) ∧ fp57_ k_ = 1) := fun k_ hk_ => ⟨by have := HS.out; omega, by rw [hfp_]; have := HS.out; repeat' (first | omega | split)⟩
     have hcp2_ : ∀ k_, (((lo53j_ ≤ k_ ∧ k_ < up53j_) ∧ f9_ k_ = 1)) → ((w2_.heap.size ≤ k_ ∧ k_ < w15_.heap.size) ∧ fp57_ k_ = 2) := fun k_ hk_ => ⟨by have := HS.out; omega, by rw [hfp_]; have := HS.out; repeat' (first | omega | split)⟩
     have hcp3_ : ∀ k_, (((lo53j_ ≤ k_ ∧ k_ < up53j_) ∧ f9_ k_ = 2)) → ((w2_.heap.size ≤ k_ ∧ k_ < w15_.heap.size) ∧ fp57_ k_ = 3) := fun k_ hk_ => ⟨by have := HS.out; omega, by rw [hfp_]; have := HS.out; repeat' (first | omega | split)⟩
     have hcp4_ : ∀ k_, (((lo53j_ ≤ k_ ∧ k_ < up53j_) ∧ f9_ k_ = 3)) → ((w2_.heap.size ≤ k_ ∧ k_ < w15_.heap.size) ∧ fp57_ k_ = 4) := fun k_ hk_ => ⟨by have := HS.out; omega, by rw [hfp_]; have := HS.out; repeat' (first | omega | split)⟩
     have hfb4_ : fp57_ gb4_ = 5 := by rw [hfp_]; have := HS.out; repeat' (first | omega | split)
     have hfb10_ : fp57_ gb10_ = 5 := by rw [hfp_]; have := HS.out; repeat' (first | omega | split)
     go_roundg kq7_
     case measure => have := HKL7.out; omega
     case rel => exact ⟨fp57_, Ao13, Ao9_0, Ao9_1, Ao9_2, Ao9_3, co13, co9_0, co9_1, co9_2, co9_3, y20, (wrap64 (x7_s6 + t21)), (wrap64 (x7_s7 + 1)), t11, t12, t13, t14, t15, t16, t17, (by first | rfl | (simp; done) | (simp [*]; done)), (by first | rfl | (simp; done) | (simp [*]; done)), (by first | rfl | (simp; done) | (simp [*]; done)), HA, ⟨by have := HKL7.out; omega⟩, BK4, ⟨Kd.S_mono HO13.out hcp0_⟩, ⟨Kd.S_mono HO9_0.out hcp1_⟩, ⟨Kd.S_mono HO9_1.out hcp2_⟩, ⟨Kd.S_mono HO9_2.out hcp3_⟩, ⟨Kd.R_mono HO9_3.out hcp4_⟩, ⟨Nat.le_of_eq hfb4_.symm⟩, HO2_0, HB, ⟨(by have := HS.out; omega)⟩⟩
    rw [if_neg hc18_] at H
    have hc18_b0 : (((rd_T39 t2 x7_s7).f0) == 4) = false := beq_eq_false_iff_ne.mpr hc18_
    have hc18_bn : (((rd_T39 t2 x7_s7).f0) != 4) = true := bne_iff_ne.mpr hc18_
    replace H := oa_ H
    obtain ⟨t22, A16, H⟩ := H
    have HA := A_.mk H
    clear H Q4 Q10 QL8_0 QL8_1
    have Q4 := blk7_ BK4.out
    have Q10 := blk7_ BK10.out
    have QE8 := HX8.out
    have QL8_0 := HX8.out.1
    have QL8_1 := HX8.out.2
    go_wp2_with (fail)
    (with_reducible refine (laws_btoi.calls false t22 _ A16.out).mono ?_)
    rintro e w16_ ⟨rfl, hb⟩
    replace hb := Drawn0.below hb
    replace HS := aHs HS hb.size
    replace HO2_0 := aRb HO2_0 hb
    replace HO9_0 := aSb HO9_0 hb
    replace HO9_1 := aSb HO9_1 hb
    replace HO9_2 := aSb HO9_2 hb
    replace HO9_3 := aRb HO9_3 hb
    replace HO13 := aSb HO13 hb
    replace BK4 := aBb BK4 hb
    replace BK10 := aBb BK10 hb
    replace HB := aHB HB hb
    clear hb  Q4 Q10 QE8 QL8_0 QL8_1
    have Q4 := blk7_ BK4.out
    have Q10 := blk7_ BK10.out
    go_wp2_with (first | ((with_reducible refine gate_store (t := 34) (p := 4) rfl ?_); have qf0 := bf_ BK4.out 0; have qf1 := bf_ BK4.out 1; have qf2 := bf_ BK4.out 2; have qf3 := bf_ BK4.out 3; have qf4 := bf_ BK4.out 4; have qf5 := bf_ BK4.out 5; have qf6 := bf_ BK4.out 6; refine se_ (t := 34) (p := 4) (v := ?vo_17) (w1 := (ch7_ w16_ gb4_ (.int .i64 t11) (.slice Ao9_0 t12.length co9_0) (.int .i64 t13) (.int .i64 t14) (.slice Ao9_1 t15.length co9_1) (.slice Ao9_2 t16.length co9_2) (.slice Ao9_3 t17.length co9_3))) ?hg ?ho ?hn ?hr ?_; (case ho => rfl); (case hg => rfl); (case hn => rfl); (case hr => first | (go_simp; done) | (go_simp; rfl)); intro w17_ hw; clear qf0 qf1 qf2 qf3 qf4 qf5 qf6; obtain ⟨hbx, hkp, hbb⟩ := st7_ hw BK4 HB (by have := HS.out; omega); clear hw; replace HO2_0 := aRk HO2_0 hkp HS; replace HO9_0 := aSk HO9_0 hkp HS; replace HO9_1 := aSk HO9_1 hkp HS; replace HO9_2 := aSk HO9_2 hkp HS; replace HO9_3 := aRk HO9_3 hkp HS; replace HO13 := aSk HO13 hkp HS; replace BK10 := aBk BK10 hkp HS; replace BK4 := A_.mk hbx; replace HB := A_.mk hbb; replace HS := aHs HS hkp.1; clear hkp hbb hbx Q4 Q10; have Q4 := blk7_ BK4.out; have Q10 := blk7_ BK10.out))
    obtain ⟨fp58_, hfp_⟩ : ∃ f_ : Nat → Nat, ∀ k_, f_ k_ = (if ((w2_.heap.size ≤ k_ ∧ k_ < wq7_.heap.size) ∧ fx7_ k_ = 0) ∨ ((w56d_.heap.size ≤ k_ ∧ k_ < w12_.heap.size)) ∨ ((w12_.heap.size ≤ k_ ∧ k_ < w13_.heap.size)) then 0 else (if ((lo53j_ ≤ k_ ∧ k_ < up53j_) ∧ f9_ k_ = 0) then 1 else (if ((lo53j_ ≤ k_ ∧ k_ < up53j_) ∧ f9_ k_ = 1) then 2 else (if ((lo53j_ ≤ k_ ∧ k_ < up53j_) ∧ f9_ k_ = 2) then 3 else (if ((lo53j_ ≤ k_ ∧ k_ < up53j_) ∧ f9_ k_ = 3) then 4 else 5))))) := ⟨fun k_ => (if ((w2_.heap.size ≤ k_ ∧ k_ < wq7_.heap.size) ∧ fx7_ k_ = 0) ∨ ((w56d_.heap.size ≤ k_ ∧ k_ < w12_.heap.size)) ∨ ((w12_.heap.size ≤ k_ ∧ k_ < w13_.heap.size)) then 0 else (if ((lo53j_ ≤ k_ ∧ k_ < up53j_) ∧ f9_ k_ = 0) then 1 else (if ((lo53j_ ≤ k_ ∧ k_ < up53j_) ∧ f9_ k_ = 1) then 2 else (if ((lo53j_ ≤ k_ ∧ k_ < up53j_) ∧ f9_ k_ = 2) then 3 else (if ((lo53j_ ≤ k_ ∧ k_ < up53j_) ∧ f9_ k_ = 3) then 4 else 5))))), fun _ => rfl⟩
    have hcp0_ : ∀ k_, (((w2_.heap.size ≤ k_ ∧ k_ < wq7_.heap.size) ∧ fx7_ k_ = 0) ∨ ((w56d_.heap.size ≤ k_ ∧ k_ < w12_.heap.size)) ∨ ((w12_.heap.size ≤ k_ ∧ k_ < w13_.heap.size))) → ((w2_.heap.size ≤ k_ ∧ k_ < w17_.heap.size) ∧ fp58_ k_ = 0) := fun k_ hk_ => ⟨by have := HS.out; omega, by rw [hfp_]; have := HS.out; repeat' (first | omega | split)⟩
    have hcp1_ : ∀ k_, (((lo53j_ ≤ k_ ∧ k_ < up53j_) ∧ f9_ k_ = 0)) → ((w2_.heap.size ≤ k_ ∧ k_ < w17_.heap.size) ∧ fp58_ k_ = 1) := fun k_ hk_ => ⟨by have := HS.out; omega, by rw [hfp_]; have := HS.out; repeat' (first | omega | split)⟩
    have hcp2_ : ∀ k_, (((lo53j_ ≤ k_ ∧ k_ < up53j_) ∧ f9_ k_ = 1)) → ((w2_.heap.size ≤ k_ ∧ k_ < w17_.heap.size) ∧ fp58_ k_ = 2) := fun k_ hk_ => ⟨by have := HS.out; omega, by rw [hfp_]; have := HS.out; repeat' (first | omega | split)⟩
    have hcp3_ : ∀ k_, (((lo53j_ ≤ k_ ∧ k_ < up53j_) ∧ f9_ k_ = 2)) → ((w2_.heap.size ≤ k_ ∧ k_ < w17_.heap.size) ∧ fp58_ k_ = 3) := fun k_ hk_ => ⟨by have := HS.out; omega, by rw [hfp_]; have := HS.out; repeat' (first | omega | split)⟩
    have hcp4_ : ∀ k_, (((lo53j_ ≤ k_ ∧ k_ < up53j_) ∧ f9_ k_ = 3)) → ((w2_.heap.size ≤ k_ ∧ k_ < w17_.heap.size) ∧ fp58_ k_ = 4) := fun k_ hk_ => ⟨by have := HS.out; omega, by rw [hfp_]; have := HS.out; repeat' (first | omega | split)⟩
    have hfb4_ : fp58_ gb4_ = 5 := by rw [hfp_]; have := HS.out; repeat' (first | omega | split)
    have hfb10_ : fp58_ gb10_ = 5 := by rw [hfp_]; have := HS.out; repeat' (first | omega | split)
    go_roundg kq7_
    case measure => have := HKL7.out; omega
    case rel => exact ⟨fp58_, Ao13, Ao9_0, Ao9_1, Ao9_2, Ao9_3, co13, co9_0, co9_1, co9_2, co9_3, y20, (wrap64 (x7_s6 + t22)), (wrap64 (x7_s7 + 1)), t11, t12, t13, t14, t15, t16, t17, (by first | rfl | (simp; done) | (simp [*]; done)), (by first | rfl | (simp; done) | (simp [*]; done)), (by first | rfl | (simp; done) | (simp [*]; done)), HA, ⟨by have := HKL7.out; omega⟩, BK4, ⟨Kd.S_mono HO13.out hcp0_⟩, ⟨Kd.S_mono HO9_0.out hcp1_⟩, ⟨Kd.S_mono HO9_1.out hcp2_⟩, ⟨Kd.S_mono HO9_2.out hcp3_⟩, ⟨Kd.R_mono HO9_3.out hcp4_⟩, ⟨Nat.le_of_eq hfb4_.symm⟩, HO2_0, HB, ⟨(by have := HS.out; omega)⟩⟩
   rw [if_neg hc16_] at H
   have hc16_b0 : (((rd_T39 t2 x7_s7).f0) == 7) = false := beq_eq_false_iff_ne.mpr hc16_
   have hc16_bn : (((rd_T39 t2 x7_s7).f0) != 7) = true := bne_iff_ne.mpr hc16_
   by_cases hc19_ : ((rd_T39 t2 x7_s7).f0) = 4
   case pos =>
    rw [if_pos hc19_] at H
    have hc19_b0 : (((rd_T39 t2 x7_s7).f0) == 4) = true := beq_iff_eq.mpr hc19_
    have hc19_bn : (((rd_T39 t2 x7_s7).f0) != 4) = false := bne_eq_false_iff_eq.mpr hc19_
    replace hc19_ := A_.mk hc19_
    replace H := oa_ H
    obtain ⟨t23, A18, H⟩ := H
    have HA := A_.mk H
    clear H Q4 Q10
    have Q4 := blk7_ BK4.out
    have Q10 := blk7_ BK10.out
    obtain ⟨ad_, ea_, hx0_, hx1_⟩ := at_T39 (Kd.R_reads' HO2_0.out).2.2 x7_s7 EB8.out.1 EB8.out.2
    injection ea_ with ea_
    subst ea_
    rw [add_at, Nat.zero_add] at hx0_ hx1_
    have HX8 := A_.mk (And.intro hx0_ hx1_)
    clear hx0_ hx1_ Q4 Q10
    have Q4 := blk7_ BK4.out
    have Q10 := blk7_ BK10.out
    have QE8 := HX8.out
    have QL8_0 := HX8.out.1
    have QL8_1 := HX8.out.2
    go_wp2_with (fail)
    (with_reducible refine (laws_btoi.calls true t23 _ A18.out).mono ?_)
    rintro e w18_ ⟨rfl, hb⟩
    replace hb := Drawn0.below hb
    replace HS := aHs HS hb.size
    replace HOx7_s5 := aSb HOx7_s5 hb
    replace HO2_0 := aRb HO2_0 hb
    replace HO9_0 := aSb HO9_0 hb
    replace HO9_1 := aSb HO9_1 hb
    replace HO9_2 := aSb HO9_2 hb
    replace HO9_3 := aRb HO9_3 hb
    replace BK4 := aBb BK4 hb
    replace BK10 := aBb BK10 hb
    replace HB := aHB HB hb
    clear hb  Q4 Q10 QE8 QL8_0 QL8_1
    have Q4 := blk7_ BK4.out
    have Q10 := blk7_ BK10.out
    go_wp2_with (first | ((with_reducible refine gate_store (t := 34) (p := 4) rfl ?_); have qf0 := bf_ BK4.out 0; have qf1 := bf_ BK4.out 1; have qf2 := bf_ BK4.out 2; have qf3 := bf_ BK4.out 3; have qf4 := bf_ BK4.out 4; have qf5 := bf_ BK4.out 5; have qf6 := bf_ BK4.out 6; refine se_ (t := 34) (p := 4) (v := ?vo_19) (w1 := (ch7_ w18_ gb4_ (.int .i64 t11) (.slice Ao9_0 t12.length co9_0) (.int .i64 t13) (.int .i64 t14) (.slice Ao9_1 t15.length co9_1) (.slice Ao9_2 t16.length co9_2) (.slice Ao9_3 t17.length co9_3))) ?hg ?ho ?hn ?hr ?_; (case ho => rfl); (case hg => rfl); (case hn => rfl); (case hr => first | (go_simp; done) | (go_simp; rfl)); intro w19_ hw; clear qf0 qf1 qf2 qf3 qf4 qf5 qf6; obtain ⟨hbx, hkp, hbb⟩ := st7_ hw BK4 HB (by have := HS.out; omega); clear hw; replace HOx7_s5 := aSk HOx7_s5 hkp HS; replace HO2_0 := aRk HO2_0 hkp HS; replace HO9_0 := aSk HO9_0 hkp HS; replace HO9_1 := aSk HO9_1 hkp HS; replace HO9_2 := aSk HO9_2 hkp HS; replace HO9_3 := aRk HO9_3 hkp HS; replace BK10 := aBk BK10 hkp HS; replace BK4 := A_.mk hbx; replace HB := A_.mk hbb; replace HS := aHs HS hkp.1; clear hkp hbb hbx Q4 Q10; have Q4 := blk7_ BK4.out; have Q10 := blk7_ BK10.out))
    obtain ⟨fp59_, hfp_⟩ : ∃ f_ : Nat → Nat, ∀ k_, f_ k_ = (if ((w2_.heap.size ≤ k_ ∧ k_ < wq7_.heap.size) ∧ fx7_ k_ = 0) then 0 else (if ((lo53j_ ≤ k_ ∧ k_ < up53j_) ∧ f9_ k_ = 0) then 1 else (if ((lo53j_ ≤ k_ ∧ k_ < up53j_) ∧ f9_ k_ = 1) then 2 else (if ((lo53j_ ≤ k_ ∧ k_ < up53j_) ∧ f9_ k_ = 2) then 3 else (if ((lo53j_ ≤ k_ ∧ k_ < up53j_) ∧ f9_ k_ = 3) then 4 else 5))))) := ⟨fun k_ => (if ((w2_.heap.size ≤ k_ ∧ k_ < wq7_.heap.size) ∧ fx7_ k_ = 0) then 0 else (if ((lo53j_ ≤ k_ ∧ k_ < up53j_) ∧ f9_ k_ = 0) then 1 else (if ((lo53j_ ≤ k_ ∧ k_ < up53j_) ∧ f9_ k_ = 1) then 2 else (if ((lo53j_ ≤ k_ ∧ k_ < up53j_) ∧ f9_ k_ = 2) then 3 else (if ((lo53j_ ≤ k_ ∧ k_ < up53j_) ∧ f9_ k_ = 3) then 4 else 5))))), fun _ => rfl⟩
    have hcp0_ : ∀ k_, (((w2_.heap.size ≤ k_ ∧ k_ < wq7_.heap.size) ∧ fx7_ k_ = 0)) → ((w2_.heap.size ≤ k_ ∧ k_ < w19_.heap.size) ∧ fp59_ k_ = 0) := fun k_ hk_ => ⟨by have := HS.out; omega, by rw [hfp_]; have := HS.out; repeat' (first | omega | split)⟩
    have hcp1_ : ∀ k_, (((lo53j_ ≤ k_ ∧ k_ < up53j_) ∧ f9_ k_ = 0)) → ((w2_.heap.size ≤ k_ ∧ k_ < w19_.heap.size) ∧ fp59_ k_ = 1) := fun k_ hk_ => ⟨by have := HS.out; omega, by rw [hfp_]; have := HS.out; repeat' (first | omega | split)⟩
    have hcp2_ : ∀ k_, (((lo53j_ ≤ k_ ∧ k_ < up53j_) ∧ f9_ k_ = 1)) → ((w2_.heap.size ≤ k_ ∧ k_ < w19_.heap.size) ∧ fp59_ k_ = 2) := fun k_ hk_ => ⟨by have := HS.out; omega, by rw [hfp_]; have := HS.out; repeat' (first | omega | split)⟩
    have hcp3_ : ∀ k_, (((lo53j_ ≤ k_ ∧ k_ < up53j_) ∧ f9_ k_ = 2)) → ((w2_.heap.size ≤ k_ ∧ k_ < w19_.heap.size) ∧ fp59_ k_ = 3) := fun k_ hk_ => ⟨by have := HS.out; omega, by rw [hfp_]; have := HS.out; repeat' (first | omega | split)⟩
    have hcp4_ : ∀ k_, (((lo53j_ ≤ k_ ∧ k_ < up53j_) ∧ f9_ k_ = 3)) → ((w2_.heap.size ≤ k_ ∧ k_ < w19_.heap.size) ∧ fp59_ k_ = 4) := fun k_ hk_ => ⟨by have := HS.out; omega, by rw [hfp_]; have := HS.out; repeat' (first | omega | split)⟩
    have hfb4_ : fp59_ gb4_ = 5 := by rw [hfp_]; have := HS.out; repeat' (first | omega | split)
    have hfb10_ : fp59_ gb10_ = 5 := by rw [hfp_]; have := HS.out; repeat' (first | omega | split)
    go_roundg kq7_
    case measure => have := HKL7.out; omega
    case rel => exact ⟨fp59_, Ax7_s5, Ao9_0, Ao9_1, Ao9_2, Ao9_3, cx7_s5, co9_0, co9_1, co9_2, co9_3, x7_s5, (wrap64 (x7_s6 + t23)), (wrap64 (x7_s7 + 1)), t11, t12, t13, t14, t15, t16, t17, (by first | rfl | (simp; done) | (simp [*]; done)), (by first | rfl | (simp; done) | (simp [*]; done)), (by first | rfl | (simp; done) | (simp [*]; done)), HA, ⟨by have := HKL7.out; omega⟩, BK4, ⟨Kd.S_mono HOx7_s5.out hcp0_⟩, ⟨Kd.S_mono HO9_0.out hcp1_⟩, ⟨Kd.S_mono HO9_1.out hcp2_⟩, ⟨Kd.S_mono HO9_2.out hcp3_⟩, ⟨Kd.R_mono HO9_3.out hcp4_⟩, ⟨Nat.le_of_eq hfb4_.symm⟩, HO2_0, HB, ⟨(by have := HS.out; omega)⟩⟩
   rw [if_neg hc19_] at H
   have hc19_b0 : (((rd_T39 t2 x7_s7).f0) == 4) = false := beq_eq_false_iff_ne.mpr hc19_
   have hc19_bn : (((rd_T39 t2 x7_s7).f0) != 4) = true := bne_iff_ne.mpr hc19_
   replace H := oa_ H
   obtain ⟨t24, A20, H⟩ := H
   have HA := A_.mk H
   clear H Q4 Q10
   have Q4 := blk7_ BK4.out
   have Q10 := blk7_ BK10.out
   obtain ⟨ad_, ea_, hx0_, hx1_⟩ := at_T39 (Kd.R_reads' HO2_0.out).2.2 x7_s7 EB8.out.1 EB8.out.2
   injection ea_ with ea_
   subst ea_
   rw [add_at, Nat.zero_add] at hx0_ hx1_
   have HX8 := A_.mk (And.intro hx0_ hx1_)
   clear hx0_ hx1_ Q4 Q10
   have Q4 := blk7_ BK4.out
   have Q10 := blk7_ BK10.out
   have QE8 := HX8.out
   have QL8_0 := HX8.out.1
   have QL8_1 := HX8.out.2
   go_wp2_with (fail)
   (with_reducible refine (laws_btoi.calls false t24 _ A20.out).mono ?_)
   rintro e w20_ ⟨rfl, hb⟩
   replace hb := Drawn0.below hb
   replace HS := aHs HS hb.size
   replace HOx7_s5 := aSb HOx7_s5 hb
   replace HO2_0 := aRb HO2_0 hb
   replace HO9_0 := aSb HO9_0 hb
   replace HO9_1 := aSb HO9_1 hb
   replace HO9_2 := aSb HO9_2 hb
   replace HO9_3 := aRb HO9_3 hb
   replace BK4 := aBb BK4 hb
   replace BK10 := aBb BK10 hb
   replace HB := aHB HB hb
   clear hb  Q4 Q10 QE8 QL8_0 QL8_1
   have Q4 := blk7_ BK4.out
   have Q10 := blk7_ BK10.out
   go_wp2_with (first | ((with_reducible refine gate_store (t := 34) (p := 4) rfl ?_); have qf0 := bf_ BK4.out 0; have qf1 := bf_ BK4.out 1; have qf2 := bf_ BK4.out 2; have qf3 := bf_ BK4.out 3; have qf4 := bf_ BK4.out 4; have qf5 := bf_ BK4.out 5; have qf6 := bf_ BK4.out 6; refine se_ (t := 34) (p := 4) (v := ?vo_21) (w1 := (ch7_ w20_ gb4_ (.int .i64 t11) (.slice Ao9_0 t12.length co9_0) (.int .i64 t13) (.int .i64 t14) (.slice Ao9_1 t15.length co9_1) (.slice Ao9_2 t16.length co9_2) (.slice Ao9_3 t17.length co9_3))) ?hg ?ho ?hn ?hr ?_; (case ho => rfl); (case hg => rfl); (case hn => rfl); (case hr => first | (go_simp; done) | (go_simp; rfl)); intro w21_ hw; clear qf0 qf1 qf2 qf3 qf4 qf5 qf6; obtain ⟨hbx, hkp, hbb⟩ := st7_ hw BK4 HB (by have := HS.out; omega); clear hw; replace HOx7_s5 := aSk HOx7_s5 hkp HS; replace HO2_0 := aRk HO2_0 hkp HS; replace HO9_0 := aSk HO9_0 hkp HS; replace HO9_1 := aSk HO9_1 hkp HS; replace HO9_2 := aSk HO9_2 hkp HS; replace HO9_3 := aRk HO9_3 hkp HS; replace BK10 := aBk BK10 hkp HS; replace BK4 := A_.mk hbx; replace HB := A_.mk hbb; replace HS := aHs HS hkp.1; clear hkp hbb hbx Q4 Q10; have Q4 := blk7_ BK4.out; have Q10 := blk7_ BK10.out))
   obtain ⟨fp60_, hfp_⟩ : ∃ f_ : Nat → Nat, ∀ k_, f_ k_ = (if ((w2_.heap.size ≤ k_ ∧ k_ < wq7_.heap.size) ∧ fx7_ k_ = 0) then 0 else (if ((lo53j_ ≤ k_ ∧ k_ < up53j_) ∧ f9_ k_ = 0) then 1 else (if ((lo53j_ ≤ k_ ∧ k_ < up53j_) ∧ f9_ k_ = 1) then 2 else (if ((lo53j_ ≤ k_ ∧ k_ < up53j_) ∧ f9_ k_ = 2) then 3 else (if ((lo53j_ ≤ k_ ∧ k_ < up53j_) ∧ f9_ k_ = 3) then 4 else 5))))) := ⟨fun k_ => (if ((w2_.heap.size ≤ k_ ∧ k_ < wq7_.heap.size) ∧ fx7_ k_ = 0) then 0 else (if ((lo53j_ ≤ k_ ∧ k_ < up53j_) ∧ f9_ k_ = 0) then 1 else (if ((lo53j_ ≤ k_ ∧ k_ < up53j_) ∧ f9_ k_ = 1) then 2 else (if ((lo53j_ ≤ k_ ∧ k_ < up53j_) ∧ f9_ k_ = 2) then 3 else (if ((lo53j_ ≤ k_ ∧ k_ < up53j_) ∧ f9_ k_ = 3) then 4 else 5))))), fun _ => rfl⟩
   have hcp0_ : ∀ k_, (((w2_.heap.size ≤ k_ ∧ k_ < wq7_.heap.size) ∧ fx7_ k_ = 0)) → ((w2_.heap.size ≤ k_ ∧ k_ < w21_.heap.size) ∧ fp60_ k_ = 0) := fun k_ hk_ => ⟨by have := HS.out; omega, by rw [hfp_]; have := HS.out; repeat' (first | omega | split)⟩
   have hcp1_ : ∀ k_, (((lo53j_ ≤ k_ ∧ k_ < up53j_) ∧ f9_ k_ = 0)) → ((w2_.heap.size ≤ k_ ∧ k_ < w21_.heap.size) ∧ fp60_ k_ = 1) := fun k_ hk_ => ⟨by have := HS.out; omega, by rw [hfp_]; have := HS.out; repeat' (first | omega | split)⟩
   have hcp2_ : ∀ k_, (((lo53j_ ≤ k_ ∧ k_ < up53j_) ∧ f9_ k_ = 1)) → ((w2_.heap.size ≤ k_ ∧ k_ < w21_.heap.size) ∧ fp60_ k_ = 2) := fun k_ hk_ => ⟨by have := HS.out; omega, by rw [hfp_]; have := HS.out; repeat' (first | omega | split)⟩
   have hcp3_ : ∀ k_, (((lo53j_ ≤ k_ ∧ k_ < up53j_) ∧ f9_ k_ = 2)) → ((w2_.heap.size ≤ k_ ∧ k_ < w21_.heap.size) ∧ fp60_ k_ = 3) := fun k_ hk_ => ⟨by have := HS.out; omega, by rw [hfp_]; have := HS.out; repeat' (first | omega | split)⟩
   have hcp4_ : ∀ k_, (((lo53j_ ≤ k_ ∧ k_ < up53j_) ∧ f9_ k_ = 3)) → ((w2_.heap.size ≤ k_ ∧ k_ < w21_.heap.size) ∧ fp60_ k_ = 4) := fun k_ hk_ => ⟨by have := HS.out; omega, by rw [hfp_]; have := HS.out; repeat' (first | omega | split)⟩
   have hfb4_ : fp60_ gb4_ = 5 := by rw [hfp_]; have := HS.out; repeat' (first | omega | split)
   have hfb10_ : fp60_ gb10_ = 5 := by rw [hfp_]; have := HS.out; repeat' (first | omega | split)
   go_roundg kq7_
   case measure => have := HKL7.out; omega
   case rel => exact ⟨fp60_, Ax7_s5, Ao9_0, Ao9_1, Ao9_2, Ao9_3, cx7_s5, co9_0, co9_1, co9_2, co9_3, x7_s5, (wrap64 (x7_s6 + t24)), (wrap64 (x7_s7 + 1)), t11, t12, t13, t14, t15, t16, t17, (by first | rfl | (simp; done) | (simp [*]; done)), (by first | rfl | (simp; done) | (simp [*]; done)), (by first | rfl | (simp; done) | (simp [*]; done)), HA, ⟨by have := HKL7.out; omega⟩, BK4, ⟨Kd.S_mono HOx7_s5.out hcp0_⟩, ⟨Kd.S_mono HO9_0.out hcp1_⟩, ⟨Kd.S_mono HO9_1.out hcp2_⟩, ⟨Kd.S_mono HO9_2.out hcp3_⟩, ⟨Kd.R_mono HO9_3.out hcp4_⟩, ⟨Nat.le_of_eq hfb4_.symm⟩, HO2_0, HB, ⟨(by have := HS.out; omega)⟩⟩
/-- THE ONE PURE STATEMENT of laws_FnLinkOnce. -/
def laws_FnLinkOnce.Pure : Prop := ∀ (l0 : List Int), (l0.length ≤ 9223372036854775807 ∧ ∀ e333 ∈ l0, (Lit.int .u8 e333).wf = true) → ∃ k, laws_FnLinkOnce.f k l0 = some true

end Go.Proofs.Ytflopendlbciaaa.PFnLinkOnce
