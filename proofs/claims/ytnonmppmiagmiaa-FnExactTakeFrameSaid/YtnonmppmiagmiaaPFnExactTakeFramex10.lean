-- Written by a program of this session (wip/xp): not trusted, Lean checks it.
import Derived.Test.YtnonmppmiagmiaaPFnExactTakeFramex0
import Derived.Test.YtnonmppmiagmiaaPFnExactTakeFramex1
import Derived.Test.YtnonmppmiagmiaaPFnExactTakeFramex3
import Derived.Test.YtnonmppmiagmiaaPFnExactTakeFramex7
import Derived.Test.YtnonmppmiagmiaaPFnExactTakeFramex8
import Derived.Test.YtnonmppmiagmiaaPFnExactTakeFramex9
namespace Go.Proofs.Ytnonmppmiagmiaa.PFnExactTakeFrame
open Go.RowKit Go.Proofs.YtnonmppmiagmiaaW.PrintWords Go.Proofs.YtnonmppmiagmiaaW.PrintLast Go.Proofs.YtnonmppmiagmiaaW.PrintMore
attribute [local go_sem] max2_int min2_int max_two min_two max_three min_three max_four min_four   -- for this text's walks alone
set_option linter.unusedVariables false
set_option linter.unusedSimpArgs false

theorem if_true_ {c : Prop} [Decidable c] {a : Option Bool} (h : (if c then a else (some false)) = some true) : c ∧ a = some true := by
  by_cases hc : c
  · rw [if_pos hc] at h; exact ⟨hc, h⟩
  · rw [if_neg hc] at h; simp at h
theorem calls_cast {P : Program} {n : Nat} {a b : Array Value} {w : World} {Q : Ending → World → Prop} (h : a = b) (hc : Calls P n a w Q) : Calls P n b w Q := h ▸ hc

/-! ### laws_FnExactTakeFrame: function 3, all its calls in a row -/
def laws_FnExactTakeFrame.f (k : Nat) (a0_0 : Int) (l0_1 : List (List Int)) (l1 : List Int) : Option (Bool) := (if 1048576 < (l1.length : Int) then (some true) else ((laws_szReceiver.f k a0_0 l0_1 1048576).bind fun t1 => (if t1 < 0 then (some true) else ((laws_toReceiver.f k a0_0 l0_1).bind fun ⟨t2, t3⟩ => ((laws_toIntS.f k l1).bind fun t4 => ((spec_TakeFrame.f k t2 t3 t4).bind fun ⟨t5, t6, t7⟩ => ((laws_toReceiver.f k a0_0 l0_1).bind fun ⟨t8, t9⟩ => ((laws_toIntS.f k l1).bind fun t10 => ((impl_TakeFrame.f k t8 t9 t10).bind fun ⟨t11, t12, t13⟩ => ((laws_eqReceiver.f k t11 t12 t5 t6).bind fun t14 => (if t14 = true then (if t7 = t13 then ((laws_toReceiver.f k a0_0 l0_1).bind fun ⟨t15, t16⟩ => ((laws_eqReceiver.f k t8 t9 t15 t16).bind fun t17 => (if t17 = true then ((laws_toIntS.f k l1).bind fun t18 => ((laws_eqIntS.f k t10 t18).bind fun t19 => (if t19 = true then ((laws_markReceiver.f k t8 t9 1).bind fun ⟨t20, t21⟩ => ((laws_markIntS.f k t10 t20).bind fun ⟨t22, t23⟩ => (if ¬ (t22 < 0) then ((laws_eqReceiver.f k t11 t12 t5 t6).bind fun t24 => (if t24 = true then ((laws_markReceiver.f k t11 t12 1).bind fun ⟨t25, t26⟩ => ((laws_heldReceiver.f k t11 t26 1).bind fun t27 => (if ¬ (t27 < 0) then (if t25 = t27 then ((laws_toReceiver.f k a0_0 l0_1).bind fun ⟨t28, t29⟩ => ((laws_toIntS.f k l1).bind fun t30 => ((impl_TakeFrame.f k t28 t29 t30).bind fun ⟨t31, t32, t33⟩ => ((laws_eqReceiver.f k t31 t32 t5 t6).bind fun t34 => (if t34 = true then (if t7 = t33 then ((laws_heldReceiver.f k t11 t26 1).bind fun t35 => (if ¬ (t35 < 0) then (if t25 = t35 then (some true) else (some false)) else (some false))) else (some false)) else (some false)))))) else (some false)) else (some false)))) else (some false))) else (some false)))) else (some false)))) else (some false)))) else (some false)) else (some false))))))))))))
set_option maxHeartbeats 8000000 in
set_option maxRecDepth 100000 in
theorem laws_FnExactTakeFrame.calls (k : Nat) (a0_0 : Int) (A0_1 : Option Addr) (c0_1 : Nat) (l0_1 : List (List Int)) (A1 : Option Addr) (c1 : Nat) (l1 : List Int) (r : Bool) (w : World) (hr0_1 : Kd.C (Kd.slice 3 (Kd.int .i64)) w A0_1 l0_1.length l0_1) (hc0_1 : l0_1.length ≤ c0_1) (hr1 : Kd.C (Kd.int .i64) w A1 l1.length l1) (hc1 : l1.length ≤ c1) (hrt : Aside0 (r = true)) (h : laws_FnExactTakeFrame.f k a0_0 l0_1 l1 = some r) :
    Calls Try.prog 3 #[.agg #[.int .i64 a0_0, .slice A0_1 l0_1.length c0_1], .slice A1 l1.length c1] w fun e w' => e = .returned (.bool r) ∧ Below w.heap.size w w' := by
  have HR0_1 := Aside0.mk hr0_1
  have HC0_1 := Aside0.mk hc0_1
  clear hr0_1 hc0_1
  have HR1 := Aside0.mk hr1
  have HC1 := Aside0.mk hc1
  clear hr1 hc1
  obtain rfl := hrt.out
  clear hrt
  have HB := Aside0.mk (Below.refl w.heap.size w)
  unfold laws_FnExactTakeFrame.f at h
  have H := h
  clear h
  by_cases hc0_ : 1048576 < (l1.length : Int)
  case pos =>
    clear H
    have hc0_b0 : decide (1048576 < (l1.length : Int)) = true := decide_eq_true hc0_
    have hc0_b1 : decide (1048576 < l1.length) = true := decide_eq_true (by omega)
    clear hc0_
    have hu24 := Try.underlying24
    go_enter Try.func3, Try.ntmps3
    go_wp2_with (first | ((with_reducible refine gate_dst (N := 2) rfl ?_); refine box_event ?hg (N := 2) ?hd (cs := #[.int .i64 a0_0, .slice A0_1 l0_1.length c0_1]) (t := 24) ?hr ?_; (case hd => rfl); (case hg => rfl); (case hr => first | (go_simp; done) | (go_simp; rfl)); intro gb1_ hg w1_ hbox hb; have hs1 := Aside0.mk hb.size; have GE1 := Aside0.mk (show w.heap.size ≤ gb1_ from Nat.le_of_eq hg.symm); have GL1 := Aside0.mk (blk_lt hbox); replace HB := Aside0.mk (below_then HB.out HB.out.size hb); have BK1 := Aside0.mk hbox; clear hbox hb hg; have hc1_0 : w1_.cell? ⟨gb1_, 0, none⟩ = some (.int .i64 a0_0) := (blk_cell BK1.out 0).trans rfl; have hf1_0 := blk_frozen BK1.out 0; have hc1_1 : w1_.cell? ⟨gb1_, 1, none⟩ = some (.slice A0_1 l0_1.length c0_1) := (blk_cell BK1.out 1).trans rfl; have hf1_1 := blk_frozen BK1.out 1))
    go_ret
    exact ⟨rfl, HB.out⟩
  rw [if_neg hc0_] at H
  have hc0_b0 : decide (1048576 < (l1.length : Int)) = false := decide_eq_false hc0_
  have hc0_b1 : decide (1048576 < l1.length) = false := decide_eq_false (by omega)
  clear hc0_
  replace H := Option.bind_eq_some_iff.mp H
  obtain ⟨t1, A2_0, H⟩ := H
  have A2 := Aside0.mk A2_0
  clear A2_0
  by_cases hc19_ : t1 < 0
  case pos =>
    clear H
    have hc19_b0 : decide (t1 < 0) = true := decide_eq_true hc19_
    clear hc19_
    have hu24 := Try.underlying24
    go_enter Try.func3, Try.ntmps3
    go_wp2_with (first | ((with_reducible refine gate_dst (N := 2) rfl ?_); refine box_event ?hg (N := 2) ?hd (cs := #[.int .i64 a0_0, .slice A0_1 l0_1.length c0_1]) (t := 24) ?hr ?_; (case hd => rfl); (case hg => rfl); (case hr => first | (go_simp; done) | (go_simp; rfl)); intro gb1_ hg w1_ hbox hb; have hs1 := Aside0.mk hb.size; have GE1 := Aside0.mk (show w.heap.size ≤ gb1_ from Nat.le_of_eq hg.symm); have GL1 := Aside0.mk (blk_lt hbox); replace HB := Aside0.mk (below_then HB.out HB.out.size hb); have BK1 := Aside0.mk hbox; clear hbox hb hg; have hc1_0 : w1_.cell? ⟨gb1_, 0, none⟩ = some (.int .i64 a0_0) := (blk_cell BK1.out 0).trans rfl; have hf1_0 := blk_frozen BK1.out 0; have hc1_1 : w1_.cell? ⟨gb1_, 1, none⟩ = some (.slice A0_1 l0_1.length c0_1) := (blk_cell BK1.out 1).trans rfl; have hf1_1 := blk_frozen BK1.out 1))
    (with_reducible refine (laws_szReceiver.calls k a0_0 _ _ l0_1 1048576 t1 _ (Kd.C_below HR0_1.out HB.out) HC0_1.out A2.out).mono ?_)
    rintro e w2_ ⟨rfl, hb⟩
    have hs2 := Aside0.mk hb.size
    replace BK1 := Aside0.mk (blk_below BK1.out hb)
    replace HB := Aside0.mk (below_then HB.out HB.out.size hb)
    clear hb 
    clear hc1_0 hf1_0 hc1_1 hf1_1
    have hc1_0 : w2_.cell? ⟨gb1_, 0, none⟩ = some (.int .i64 a0_0) := (blk_cell BK1.out 0).trans rfl
    have hf1_0 := blk_frozen BK1.out 0
    have hc1_1 : w2_.cell? ⟨gb1_, 1, none⟩ = some (.slice A0_1 l0_1.length c0_1) := (blk_cell BK1.out 1).trans rfl
    have hf1_1 := blk_frozen BK1.out 1
    go_wp2
    go_ret
    exact ⟨rfl, HB.out⟩
  rw [if_neg hc19_] at H
  have hc19_b0 : decide (t1 < 0) = false := decide_eq_false hc19_
  clear hc19_
  replace H := Option.bind_eq_some_iff.mp H
  obtain ⟨⟨t2, t3⟩, A3_0, H⟩ := H
  have A3 := Aside0.mk A3_0
  clear A3_0
  replace H := Option.bind_eq_some_iff.mp H
  obtain ⟨t4, A4_0, H⟩ := H
  have A4 := Aside0.mk A4_0
  clear A4_0
  replace H := Option.bind_eq_some_iff.mp H
  obtain ⟨⟨t5, t6, t7⟩, A5_0, H⟩ := H
  have A5 := Aside0.mk A5_0
  clear A5_0
  replace H := Option.bind_eq_some_iff.mp H
  obtain ⟨⟨t8, t9⟩, A8_0, H⟩ := H
  have A8 := Aside0.mk A8_0
  clear A8_0
  replace H := Option.bind_eq_some_iff.mp H
  obtain ⟨t10, A11_0, H⟩ := H
  have A11 := Aside0.mk A11_0
  clear A11_0
  replace H := Option.bind_eq_some_iff.mp H
  obtain ⟨⟨t11, t12, t13⟩, A12_0, H⟩ := H
  have A12 := Aside0.mk A12_0
  clear A12_0
  replace H := Option.bind_eq_some_iff.mp H
  obtain ⟨t14, A15_0, H⟩ := H
  have A15 := Aside0.mk A15_0
  clear A15_0
  replace H := if_true_ H
  obtain ⟨hc72_, H⟩ := H
  subst hc72_
  replace H := if_true_ H
  obtain ⟨hc75_, H⟩ := H
  subst hc75_
  replace H := Option.bind_eq_some_iff.mp H
  obtain ⟨⟨t15, t16⟩, A17_0, H⟩ := H
  have A17 := Aside0.mk A17_0
  clear A17_0
  replace H := Option.bind_eq_some_iff.mp H
  obtain ⟨t17, A18_0, H⟩ := H
  have A18 := Aside0.mk A18_0
  clear A18_0
  replace H := if_true_ H
  obtain ⟨hc86_, H⟩ := H
  subst hc86_
  replace H := Option.bind_eq_some_iff.mp H
  obtain ⟨t18, A19_0, H⟩ := H
  have A19 := Aside0.mk A19_0
  clear A19_0
  replace H := Option.bind_eq_some_iff.mp H
  obtain ⟨t19, A20_0, H⟩ := H
  have A20 := Aside0.mk A20_0
  clear A20_0
  replace H := if_true_ H
  obtain ⟨hc97_, H⟩ := H
  subst hc97_
  replace H := Option.bind_eq_some_iff.mp H
  obtain ⟨⟨t20, t21⟩, A21_0, H⟩ := H
  have A21 := Aside0.mk A21_0
  clear A21_0
  replace H := Option.bind_eq_some_iff.mp H
  obtain ⟨⟨t22, t23⟩, A22_0, H⟩ := H
  have A22 := Aside0.mk A22_0
  clear A22_0
  replace H := if_true_ H
  obtain ⟨hc108_, H⟩ := H
  have hc108_b0 : decide (t22 < 0) = false := decide_eq_false hc108_
  clear hc108_
  replace H := Option.bind_eq_some_iff.mp H
  obtain ⟨t24, A23_0, H⟩ := H
  have A23 := Aside0.mk A23_0
  clear A23_0
  replace H := if_true_ H
  obtain ⟨hc116_, H⟩ := H
  subst hc116_
  replace H := Option.bind_eq_some_iff.mp H
  obtain ⟨⟨t25, t26⟩, A24_0, H⟩ := H
  have A24 := Aside0.mk A24_0
  clear A24_0
  replace H := Option.bind_eq_some_iff.mp H
  obtain ⟨t27, A25_0, H⟩ := H
  have A25 := Aside0.mk A25_0
  clear A25_0
  replace H := if_true_ H
  obtain ⟨hc127_, H⟩ := H
  have hc127_b0 : decide (t27 < 0) = false := decide_eq_false hc127_
  clear hc127_
  replace H := if_true_ H
  obtain ⟨hc131_, H⟩ := H
  subst hc131_
  replace H := Option.bind_eq_some_iff.mp H
  obtain ⟨⟨t28, t29⟩, A26_0, H⟩ := H
  have A26 := Aside0.mk A26_0
  clear A26_0
  replace H := Option.bind_eq_some_iff.mp H
  obtain ⟨t30, A27_0, H⟩ := H
  have A27 := Aside0.mk A27_0
  clear A27_0
  replace H := Option.bind_eq_some_iff.mp H
  obtain ⟨⟨t31, t32, t33⟩, A28_0, H⟩ := H
  have A28 := Aside0.mk A28_0
  clear A28_0
  replace H := Option.bind_eq_some_iff.mp H
  obtain ⟨t34, A31_0, H⟩ := H
  have A31 := Aside0.mk A31_0
  clear A31_0
  replace H := if_true_ H
  obtain ⟨hc150_, H⟩ := H
  subst hc150_
  replace H := if_true_ H
  obtain ⟨hc153_, H⟩ := H
  subst hc153_
  replace H := Option.bind_eq_some_iff.mp H
  obtain ⟨t35, A32_0, H⟩ := H
  have A32 := Aside0.mk A32_0
  clear A32_0
  replace H := if_true_ H
  obtain ⟨hc160_, H⟩ := H
  have hc160_b0 : decide (t35 < 0) = false := decide_eq_false hc160_
  clear hc160_
  replace H := if_true_ H
  obtain ⟨hc164_, H⟩ := H
  subst hc164_
  clear H
  have hu24 := Try.underlying24
  have hu27 := Try.underlying27
  go_enter Try.func3, Try.ntmps3
  go_wp2_with (first | ((with_reducible refine gate_dst (N := 2) rfl ?_); refine box_event ?hg (N := 2) ?hd (cs := #[.int .i64 a0_0, .slice A0_1 l0_1.length c0_1]) (t := 24) ?hr ?_; (case hd => rfl); (case hg => rfl); (case hr => first | (go_simp; done) | (go_simp; rfl)); intro gb1_ hg w1_ hbox hb; have hs1 := Aside0.mk hb.size; have GE1 := Aside0.mk (show w.heap.size ≤ gb1_ from Nat.le_of_eq hg.symm); have GL1 := Aside0.mk (blk_lt hbox); replace HB := Aside0.mk (below_then HB.out HB.out.size hb); have BK1 := Aside0.mk hbox; clear hbox hb hg; have hc1_0 : w1_.cell? ⟨gb1_, 0, none⟩ = some (.int .i64 a0_0) := (blk_cell BK1.out 0).trans rfl; have hf1_0 := blk_frozen BK1.out 0; have hc1_1 : w1_.cell? ⟨gb1_, 1, none⟩ = some (.slice A0_1 l0_1.length c0_1) := (blk_cell BK1.out 1).trans rfl; have hf1_1 := blk_frozen BK1.out 1))
  (with_reducible refine (laws_szReceiver.calls k a0_0 _ _ l0_1 1048576 t1 _ (Kd.C_below HR0_1.out HB.out) HC0_1.out A2.out).mono ?_)
  rintro e w2_ ⟨rfl, hb⟩
  have hs2 := Aside0.mk hb.size
  replace BK1 := Aside0.mk (blk_below BK1.out hb)
  replace HB := Aside0.mk (below_then HB.out HB.out.size hb)
  clear hb 
  clear hc1_0 hf1_0 hc1_1 hf1_1
  have hc1_0 : w2_.cell? ⟨gb1_, 0, none⟩ = some (.int .i64 a0_0) := (blk_cell BK1.out 0).trans rfl
  have hf1_0 := blk_frozen BK1.out 0
  have hc1_1 : w2_.cell? ⟨gb1_, 1, none⟩ = some (.slice A0_1 l0_1.length c0_1) := (blk_cell BK1.out 1).trans rfl
  have hf1_1 := blk_frozen BK1.out 1
  go_wp2_with fail
  (with_reducible refine (laws_toReceiver.calls k a0_0 _ _ l0_1 t2 t3 _ (Kd.C_below HR0_1.out HB.out) HC0_1.out A3.out).mono ?_)
  rintro e w3_ ⟨v1_, rfl, ho0_, hb⟩
  have hs3 := Aside0.mk hb.size
  replace BK1 := Aside0.mk (blk_below BK1.out hb)
  obtain ⟨Ao3_1, co3_1, ev_⟩ := Kd.S_slice ho0_
  subst ev_
  have HO3_1 := Aside0.mk (Kd.S_lower (Kd.S_mono (ok' := (fun k_ => w2_.heap.size ≤ k_ ∧ k_ < w3_.heap.size)) (Kd.S_bound ho0_) (fun k_ hk_ => ⟨hk_.2.1, hk_.2.2.1⟩)) HB.out.size)
  replace HB := Aside0.mk (below_then HB.out HB.out.size hb)
  clear hb ho0_
  clear hc1_0 hf1_0 hc1_1 hf1_1
  have hc1_0 : w3_.cell? ⟨gb1_, 0, none⟩ = some (.int .i64 a0_0) := (blk_cell BK1.out 0).trans rfl
  have hf1_0 := blk_frozen BK1.out 0
  have hc1_1 : w3_.cell? ⟨gb1_, 1, none⟩ = some (.slice A0_1 l0_1.length c0_1) := (blk_cell BK1.out 1).trans rfl
  have hf1_1 := blk_frozen BK1.out 1
  go_wp2_with fail
  (with_reducible refine (laws_toIntS.calls k _ _ l1 t4 _ (Kd.C_below HR1.out HB.out) HC1.out A4.out).mono ?_)
  rintro e w4_ ⟨v0_, rfl, ho0_, hb⟩
  have hs4 := Aside0.mk hb.size
  replace HO3_1 := Aside0.mk (Kd.S_below HO3_1.out hb)
  replace BK1 := Aside0.mk (blk_below BK1.out hb)
  obtain ⟨Ao4_0, co4_0, ev_⟩ := Kd.R_slice ho0_
  subst ev_
  have HO4_0 := Aside0.mk (Kd.R_lower (Kd.R_mono (ok' := (fun k_ => w3_.heap.size ≤ k_ ∧ k_ < w4_.heap.size)) (Kd.R_bound ho0_) (fun k_ hk_ => ⟨hk_.2.1, hk_.2.2.1⟩)) HB.out.size)
  replace HB := Aside0.mk (below_then HB.out HB.out.size hb)
  clear hb ho0_
  clear hc1_0 hf1_0 hc1_1 hf1_1
  have hc1_0 : w4_.cell? ⟨gb1_, 0, none⟩ = some (.int .i64 a0_0) := (blk_cell BK1.out 0).trans rfl
  have hf1_0 := blk_frozen BK1.out 0
  have hc1_1 : w4_.cell? ⟨gb1_, 1, none⟩ = some (.slice A0_1 l0_1.length c0_1) := (blk_cell BK1.out 1).trans rfl
  have hf1_1 := blk_frozen BK1.out 1
  go_wp2_with fail
  (with_reducible refine (spec_TakeFrame.calls k t2 _ _ t3 _ _ t4 t5 t6 t7 _ (Kd.S_reads' HO3_1.out).2.2 (Kd.S_reads' HO3_1.out).2.1 (Kd.R_reads' HO4_0.out).2.2 (Kd.R_reads' HO4_0.out).2.1 A5.out).mono ?_)
  rintro e w5_ ⟨v1_, rfl, ho0_, hb⟩
  have hs5 := Aside0.mk hb.size
  replace HO3_1 := Aside0.mk (Kd.S_below HO3_1.out hb)
  replace HO4_0 := Aside0.mk (Kd.R_below HO4_0.out hb)
  replace BK1 := Aside0.mk (blk_below BK1.out hb)
  obtain ⟨Ao5_1, co5_1, ev_⟩ := Kd.N_slice ho0_
  subst ev_
  have HO5_1 := Aside0.mk (Kd.N_lower (Kd.N_mono (ok' := (fun k_ => w4_.heap.size ≤ k_ ∧ k_ < w5_.heap.size)) (Kd.N_bound ho0_) (fun k_ hk_ => hk_)) HB.out.size)
  replace HB := Aside0.mk (below_then HB.out HB.out.size hb)
  clear hb ho0_
  clear hc1_0 hf1_0 hc1_1 hf1_1
  have hc1_0 : w5_.cell? ⟨gb1_, 0, none⟩ = some (.int .i64 a0_0) := (blk_cell BK1.out 0).trans rfl
  have hf1_0 := blk_frozen BK1.out 0
  have hc1_1 : w5_.cell? ⟨gb1_, 1, none⟩ = some (.slice A0_1 l0_1.length c0_1) := (blk_cell BK1.out 1).trans rfl
  have hf1_1 := blk_frozen BK1.out 1
  go_wp2_with (first | ((with_reducible refine gate_dst (N := 6) rfl ?_); refine box_event ?hg (N := 6) ?hd (cs := #[.int .i64 0, .slice none 0 0]) (t := 27) ?hr ?_; (case hd => rfl); (case hg => rfl); (case hr => first | (go_simp; done) | (go_simp; rfl)); intro gb6_ hg w6_ hbox hb; have hboxA := Aside0.mk hbox; have hbA := Aside0.mk hb; have hgA := Aside0.mk hg; clear hbox hb hg; have hz_0 : w6_.cell? ⟨gb6_, 0, none⟩ = some (.int .i64 0) := (blk_cell hboxA.out 0).trans rfl; have hy_0 := blk_frozen hboxA.out 0; have hz_1 : w6_.cell? ⟨gb6_, 1, none⟩ = some (.slice none 0 0) := (blk_cell hboxA.out 1).trans rfl; have hy_1 := blk_frozen hboxA.out 1) | ((with_reducible refine gate_store (t := 27) (p := 6) rfl ?_); refine store_event (t := 27) (p := 6) (v := ?vo_7) (w1 := ((w6_.setCell ⟨gb6_, 0, none⟩ (.int .i64 t5)).setCell ⟨gb6_, 1, none⟩ (.slice Ao5_1 t6.length co5_1))) ?hg ?ho ?hn ?hr ?_; (case ho => rfl); (case hg => rfl); (case hn => rfl); (case hr => first | (go_simp; done) | (go_simp; rfl)); intro w7_ hw; have hb : Below w5_.heap.size w5_ w7_ := (by rw [hw]; exact (below_set (below_set hbA.out (Nat.le_of_eq hgA.out.symm)) (Nat.le_of_eq hgA.out.symm))); have hbox : w7_.heap[gb6_]? = some (.cells #[.int .i64 t5, .slice Ao5_1 t6.length co5_1] 27 (0, 0)) := (by rw [hw]; exact (blk_put (cs := #[.int .i64 t5, .slice none 0 0]) (blk_put (cs := #[.int .i64 0, .slice none 0 0]) hboxA.out 0 _ rfl) 1 _ rfl)); have hg := hgA.out; clear hw hbA hboxA hgA hz_0 hy_0 hz_1 hy_1; have hs7 := Aside0.mk hb.size; have GE6 := Aside0.mk (show w5_.heap.size ≤ gb6_ from Nat.le_of_eq hg.symm); have GL6 := Aside0.mk (blk_lt hbox); replace HO3_1 := Aside0.mk (Kd.S_below HO3_1.out hb); replace HO4_0 := Aside0.mk (Kd.R_below HO4_0.out hb); replace HO5_1 := Aside0.mk (Kd.N_below HO5_1.out hb); replace BK1 := Aside0.mk (blk_below BK1.out hb); replace HB := Aside0.mk (below_then HB.out HB.out.size hb); have BK6 := Aside0.mk hbox; clear hbox hb hg; clear hc1_0 hf1_0 hc1_1 hf1_1; have hc1_0 : w7_.cell? ⟨gb1_, 0, none⟩ = some (.int .i64 a0_0) := (blk_cell BK1.out 0).trans rfl; have hf1_0 := blk_frozen BK1.out 0; have hc1_1 : w7_.cell? ⟨gb1_, 1, none⟩ = some (.slice A0_1 l0_1.length c0_1) := (blk_cell BK1.out 1).trans rfl; have hf1_1 := blk_frozen BK1.out 1; have hc6_0 : w7_.cell? ⟨gb6_, 0, none⟩ = some (.int .i64 t5) := (blk_cell BK6.out 0).trans rfl; have hf6_0 := blk_frozen BK6.out 0; have hc6_1 : w7_.cell? ⟨gb6_, 1, none⟩ = some (.slice Ao5_1 t6.length co5_1) := (blk_cell BK6.out 1).trans rfl; have hf6_1 := blk_frozen BK6.out 1))
  (with_reducible refine (laws_toReceiver.calls k a0_0 _ _ l0_1 t8 t9 _ (Kd.C_below HR0_1.out HB.out) HC0_1.out A8.out).mono ?_)
  rintro e w8_ ⟨v1_, rfl, ho0_, hb⟩
  have hs8 := Aside0.mk hb.size
  replace HO3_1 := Aside0.mk (Kd.S_below HO3_1.out hb)
  replace HO4_0 := Aside0.mk (Kd.R_below HO4_0.out hb)
  replace HO5_1 := Aside0.mk (Kd.N_below HO5_1.out hb)
  replace BK1 := Aside0.mk (blk_below BK1.out hb)
  replace BK6 := Aside0.mk (blk_below BK6.out hb)
  obtain ⟨Ao8_1, co8_1, ev_⟩ := Kd.S_slice ho0_
  subst ev_
  have HO8_1 := Aside0.mk (Kd.S_lower (Kd.S_mono (ok' := (fun k_ => w7_.heap.size ≤ k_ ∧ k_ < w8_.heap.size)) (Kd.S_bound ho0_) (fun k_ hk_ => ⟨hk_.2.1, hk_.2.2.1⟩)) HB.out.size)
  replace HB := Aside0.mk (below_then HB.out HB.out.size hb)
  clear hb ho0_
  clear hc1_0 hf1_0 hc1_1 hf1_1 hc6_0 hf6_0 hc6_1 hf6_1
  have hc1_0 : w8_.cell? ⟨gb1_, 0, none⟩ = some (.int .i64 a0_0) := (blk_cell BK1.out 0).trans rfl
  have hf1_0 := blk_frozen BK1.out 0
  have hc1_1 : w8_.cell? ⟨gb1_, 1, none⟩ = some (.slice A0_1 l0_1.length c0_1) := (blk_cell BK1.out 1).trans rfl
  have hf1_1 := blk_frozen BK1.out 1
  have hc6_0 : w8_.cell? ⟨gb6_, 0, none⟩ = some (.int .i64 t5) := (blk_cell BK6.out 0).trans rfl
  have hf6_0 := blk_frozen BK6.out 0
  have hc6_1 : w8_.cell? ⟨gb6_, 1, none⟩ = some (.slice Ao5_1 t6.length co5_1) := (blk_cell BK6.out 1).trans rfl
  have hf6_1 := blk_frozen BK6.out 1
  go_wp2_with (first | ((with_reducible refine gate_dst (N := 8) rfl ?_); refine box_event ?hg (N := 8) ?hd (cs := #[.int .i64 0, .slice none 0 0]) (t := 27) ?hr ?_; (case hd => rfl); (case hg => rfl); (case hr => first | (go_simp; done) | (go_simp; rfl)); intro gb9_ hg w9_ hbox hb; have hboxA := Aside0.mk hbox; have hbA := Aside0.mk hb; have hgA := Aside0.mk hg; clear hbox hb hg; have hz_0 : w9_.cell? ⟨gb9_, 0, none⟩ = some (.int .i64 0) := (blk_cell hboxA.out 0).trans rfl; have hy_0 := blk_frozen hboxA.out 0; have hz_1 : w9_.cell? ⟨gb9_, 1, none⟩ = some (.slice none 0 0) := (blk_cell hboxA.out 1).trans rfl; have hy_1 := blk_frozen hboxA.out 1) | ((with_reducible refine gate_store (t := 27) (p := 8) rfl ?_); refine store_event (t := 27) (p := 8) (v := ?vo_10) (w1 := ((w9_.setCell ⟨gb9_, 0, none⟩ (.int .i64 t8)).setCell ⟨gb9_, 1, none⟩ (.slice Ao8_1 t9.length co8_1))) ?hg ?ho ?hn ?hr ?_; (case ho => rfl); (case hg => rfl); (case hn => rfl); (case hr => first | (go_simp; done) | (go_simp; rfl)); intro w10_ hw; have hb : Below w8_.heap.size w8_ w10_ := (by rw [hw]; exact (below_set (below_set hbA.out (Nat.le_of_eq hgA.out.symm)) (Nat.le_of_eq hgA.out.symm))); have hbox : w10_.heap[gb9_]? = some (.cells #[.int .i64 t8, .slice Ao8_1 t9.length co8_1] 27 (0, 0)) := (by rw [hw]; exact (blk_put (cs := #[.int .i64 t8, .slice none 0 0]) (blk_put (cs := #[.int .i64 0, .slice none 0 0]) hboxA.out 0 _ rfl) 1 _ rfl)); have hg := hgA.out; clear hw hbA hboxA hgA hz_0 hy_0 hz_1 hy_1; have hs10 := Aside0.mk hb.size; have GE9 := Aside0.mk (show w8_.heap.size ≤ gb9_ from Nat.le_of_eq hg.symm); have GL9 := Aside0.mk (blk_lt hbox); replace HO3_1 := Aside0.mk (Kd.S_below HO3_1.out hb); replace HO4_0 := Aside0.mk (Kd.R_below HO4_0.out hb); replace HO5_1 := Aside0.mk (Kd.N_below HO5_1.out hb); replace HO8_1 := Aside0.mk (Kd.S_below HO8_1.out hb); replace BK1 := Aside0.mk (blk_below BK1.out hb); replace BK6 := Aside0.mk (blk_below BK6.out hb); replace HB := Aside0.mk (below_then HB.out HB.out.size hb); have BK9 := Aside0.mk hbox; clear hbox hb hg; clear hc1_0 hf1_0 hc1_1 hf1_1 hc6_0 hf6_0 hc6_1 hf6_1; have hc1_0 : w10_.cell? ⟨gb1_, 0, none⟩ = some (.int .i64 a0_0) := (blk_cell BK1.out 0).trans rfl; have hf1_0 := blk_frozen BK1.out 0; have hc1_1 : w10_.cell? ⟨gb1_, 1, none⟩ = some (.slice A0_1 l0_1.length c0_1) := (blk_cell BK1.out 1).trans rfl; have hf1_1 := blk_frozen BK1.out 1; have hc6_0 : w10_.cell? ⟨gb6_, 0, none⟩ = some (.int .i64 t5) := (blk_cell BK6.out 0).trans rfl; have hf6_0 := blk_frozen BK6.out 0; have hc6_1 : w10_.cell? ⟨gb6_, 1, none⟩ = some (.slice Ao5_1 t6.length co5_1) := (blk_cell BK6.out 1).trans rfl; have hf6_1 := blk_frozen BK6.out 1; have hc9_0 : w10_.cell? ⟨gb9_, 0, none⟩ = some (.int .i64 t8) := (blk_cell BK9.out 0).trans rfl; have hf9_0 := blk_frozen BK9.out 0; have hc9_1 : w10_.cell? ⟨gb9_, 1, none⟩ = some (.slice Ao8_1 t9.length co8_1) := (blk_cell BK9.out 1).trans rfl; have hf9_1 := blk_frozen BK9.out 1))
  (with_reducible refine (laws_toIntS.calls k _ _ l1 t10 _ (Kd.C_below HR1.out HB.out) HC1.out A11.out).mono ?_)
  rintro e w11_ ⟨v0_, rfl, ho0_, hb⟩
  have hs11 := Aside0.mk hb.size
  replace HO3_1 := Aside0.mk (Kd.S_below HO3_1.out hb)
  replace HO4_0 := Aside0.mk (Kd.R_below HO4_0.out hb)
  replace HO5_1 := Aside0.mk (Kd.N_below HO5_1.out hb)
  replace HO8_1 := Aside0.mk (Kd.S_below HO8_1.out hb)
  replace BK1 := Aside0.mk (blk_below BK1.out hb)
  replace BK6 := Aside0.mk (blk_below BK6.out hb)
  replace BK9 := Aside0.mk (blk_below BK9.out hb)
  obtain ⟨Ao11_0, co11_0, ev_⟩ := Kd.R_slice ho0_
  subst ev_
  have HO11_0 := Aside0.mk (Kd.R_lower (Kd.R_mono (ok' := (fun k_ => w10_.heap.size ≤ k_ ∧ k_ < w11_.heap.size)) (Kd.R_bound ho0_) (fun k_ hk_ => ⟨hk_.2.1, hk_.2.2.1⟩)) HB.out.size)
  replace HB := Aside0.mk (below_then HB.out HB.out.size hb)
  clear hb ho0_
  clear hc1_0 hf1_0 hc1_1 hf1_1 hc6_0 hf6_0 hc6_1 hf6_1 hc9_0 hf9_0 hc9_1 hf9_1
  have hc1_0 : w11_.cell? ⟨gb1_, 0, none⟩ = some (.int .i64 a0_0) := (blk_cell BK1.out 0).trans rfl
  have hf1_0 := blk_frozen BK1.out 0
  have hc1_1 : w11_.cell? ⟨gb1_, 1, none⟩ = some (.slice A0_1 l0_1.length c0_1) := (blk_cell BK1.out 1).trans rfl
  have hf1_1 := blk_frozen BK1.out 1
  have hc6_0 : w11_.cell? ⟨gb6_, 0, none⟩ = some (.int .i64 t5) := (blk_cell BK6.out 0).trans rfl
  have hf6_0 := blk_frozen BK6.out 0
  have hc6_1 : w11_.cell? ⟨gb6_, 1, none⟩ = some (.slice Ao5_1 t6.length co5_1) := (blk_cell BK6.out 1).trans rfl
  have hf6_1 := blk_frozen BK6.out 1
  have hc9_0 : w11_.cell? ⟨gb9_, 0, none⟩ = some (.int .i64 t8) := (blk_cell BK9.out 0).trans rfl
  have hf9_0 := blk_frozen BK9.out 0
  have hc9_1 : w11_.cell? ⟨gb9_, 1, none⟩ = some (.slice Ao8_1 t9.length co8_1) := (blk_cell BK9.out 1).trans rfl
  have hf9_1 := blk_frozen BK9.out 1
  go_wp2_with fail
  (with_reducible refine (impl_TakeFrame.calls k t8 _ _ t9 _ _ t10 t11 t12 t7 _ (Kd.S_reads' HO8_1.out).2.2 (Kd.S_reads' HO8_1.out).2.1 (Kd.R_reads' HO11_0.out).2.2 (Kd.R_reads' HO11_0.out).2.1 A12.out).mono ?_)
  rintro e w12_ ⟨v1_, rfl, ho0_, hb⟩
  have hs12 := Aside0.mk hb.size
  replace HO3_1 := Aside0.mk (Kd.S_below HO3_1.out hb)
  replace HO4_0 := Aside0.mk (Kd.R_below HO4_0.out hb)
  replace HO5_1 := Aside0.mk (Kd.N_below HO5_1.out hb)
  replace HO8_1 := Aside0.mk (Kd.S_below HO8_1.out hb)
  replace HO11_0 := Aside0.mk (Kd.R_below HO11_0.out hb)
  replace BK1 := Aside0.mk (blk_below BK1.out hb)
  replace BK6 := Aside0.mk (blk_below BK6.out hb)
  replace BK9 := Aside0.mk (blk_below BK9.out hb)
  obtain ⟨Ao12_1, co12_1, ev_⟩ := Kd.S_slice ho0_
  subst ev_
  have HO12_1 := Aside0.mk (Kd.S_lower (Kd.S_mono (ok' := (fun k_ => w11_.heap.size ≤ k_ ∧ k_ < w12_.heap.size)) (Kd.S_bound ho0_) (fun k_ hk_ => ⟨hk_.2.1, hk_.2.2.1⟩)) HB.out.size)
  replace HB := Aside0.mk (below_then HB.out HB.out.size hb)
  clear hb ho0_
  clear hc1_0 hf1_0 hc1_1 hf1_1 hc6_0 hf6_0 hc6_1 hf6_1 hc9_0 hf9_0 hc9_1 hf9_1
  have hc1_0 : w12_.cell? ⟨gb1_, 0, none⟩ = some (.int .i64 a0_0) := (blk_cell BK1.out 0).trans rfl
  have hf1_0 := blk_frozen BK1.out 0
  have hc1_1 : w12_.cell? ⟨gb1_, 1, none⟩ = some (.slice A0_1 l0_1.length c0_1) := (blk_cell BK1.out 1).trans rfl
  have hf1_1 := blk_frozen BK1.out 1
  have hc6_0 : w12_.cell? ⟨gb6_, 0, none⟩ = some (.int .i64 t5) := (blk_cell BK6.out 0).trans rfl
  have hf6_0 := blk_frozen BK6.out 0
  have hc6_1 : w12_.cell? ⟨gb6_, 1, none⟩ = some (.slice Ao5_1 t6.length co5_1) := (blk_cell BK6.out 1).trans rfl
  have hf6_1 := blk_frozen BK6.out 1
  have hc9_0 : w12_.cell? ⟨gb9_, 0, none⟩ = some (.int .i64 t8) := (blk_cell BK9.out 0).trans rfl
  have hf9_0 := blk_frozen BK9.out 0
  have hc9_1 : w12_.cell? ⟨gb9_, 1, none⟩ = some (.slice Ao8_1 t9.length co8_1) := (blk_cell BK9.out 1).trans rfl
  have hf9_1 := blk_frozen BK9.out 1
  go_wp2_with (first | ((with_reducible refine gate_dst (N := 10) rfl ?_); refine box_event ?hg (N := 10) ?hd (cs := #[.int .i64 0, .slice none 0 0]) (t := 27) ?hr ?_; (case hd => rfl); (case hg => rfl); (case hr => first | (go_simp; done) | (go_simp; rfl)); intro gb13_ hg w13_ hbox hb; have hboxA := Aside0.mk hbox; have hbA := Aside0.mk hb; have hgA := Aside0.mk hg; clear hbox hb hg; have hz_0 : w13_.cell? ⟨gb13_, 0, none⟩ = some (.int .i64 0) := (blk_cell hboxA.out 0).trans rfl; have hy_0 := blk_frozen hboxA.out 0; have hz_1 : w13_.cell? ⟨gb13_, 1, none⟩ = some (.slice none 0 0) := (blk_cell hboxA.out 1).trans rfl; have hy_1 := blk_frozen hboxA.out 1) | ((with_reducible refine gate_store (t := 27) (p := 10) rfl ?_); refine store_event (t := 27) (p := 10) (v := ?vo_14) (w1 := ((w13_.setCell ⟨gb13_, 0, none⟩ (.int .i64 t11)).setCell ⟨gb13_, 1, none⟩ (.slice Ao12_1 t12.length co12_1))) ?hg ?ho ?hn ?hr ?_; (case ho => rfl); (case hg => rfl); (case hn => rfl); (case hr => first | (go_simp; done) | (go_simp; rfl)); intro w14_ hw; have hb : Below w12_.heap.size w12_ w14_ := (by rw [hw]; exact (below_set (below_set hbA.out (Nat.le_of_eq hgA.out.symm)) (Nat.le_of_eq hgA.out.symm))); have hbox : w14_.heap[gb13_]? = some (.cells #[.int .i64 t11, .slice Ao12_1 t12.length co12_1] 27 (0, 0)) := (by rw [hw]; exact (blk_put (cs := #[.int .i64 t11, .slice none 0 0]) (blk_put (cs := #[.int .i64 0, .slice none 0 0]) hboxA.out 0 _ rfl) 1 _ rfl)); have hg := hgA.out; clear hw hbA hboxA hgA hz_0 hy_0 hz_1 hy_1; have hs14 := Aside0.mk hb.size; have GE13 := Aside0.mk (show w12_.heap.size ≤ gb13_ from Nat.le_of_eq hg.symm); have GL13 := Aside0.mk (blk_lt hbox); replace HO3_1 := Aside0.mk (Kd.S_below HO3_1.out hb); replace HO4_0 := Aside0.mk (Kd.R_below HO4_0.out hb); replace HO5_1 := Aside0.mk (Kd.N_below HO5_1.out hb); replace HO8_1 := Aside0.mk (Kd.S_below HO8_1.out hb); replace HO11_0 := Aside0.mk (Kd.R_below HO11_0.out hb); replace HO12_1 := Aside0.mk (Kd.S_below HO12_1.out hb); replace BK1 := Aside0.mk (blk_below BK1.out hb); replace BK6 := Aside0.mk (blk_below BK6.out hb); replace BK9 := Aside0.mk (blk_below BK9.out hb); replace HB := Aside0.mk (below_then HB.out HB.out.size hb); have BK13 := Aside0.mk hbox; clear hbox hb hg; clear hc1_0 hf1_0 hc1_1 hf1_1 hc6_0 hf6_0 hc6_1 hf6_1 hc9_0 hf9_0 hc9_1 hf9_1; have hc1_0 : w14_.cell? ⟨gb1_, 0, none⟩ = some (.int .i64 a0_0) := (blk_cell BK1.out 0).trans rfl; have hf1_0 := blk_frozen BK1.out 0; have hc1_1 : w14_.cell? ⟨gb1_, 1, none⟩ = some (.slice A0_1 l0_1.length c0_1) := (blk_cell BK1.out 1).trans rfl; have hf1_1 := blk_frozen BK1.out 1; have hc6_0 : w14_.cell? ⟨gb6_, 0, none⟩ = some (.int .i64 t5) := (blk_cell BK6.out 0).trans rfl; have hf6_0 := blk_frozen BK6.out 0; have hc6_1 : w14_.cell? ⟨gb6_, 1, none⟩ = some (.slice Ao5_1 t6.length co5_1) := (blk_cell BK6.out 1).trans rfl; have hf6_1 := blk_frozen BK6.out 1; have hc9_0 : w14_.cell? ⟨gb9_, 0, none⟩ = some (.int .i64 t8) := (blk_cell BK9.out 0).trans rfl; have hf9_0 := blk_frozen BK9.out 0; have hc9_1 : w14_.cell? ⟨gb9_, 1, none⟩ = some (.slice Ao8_1 t9.length co8_1) := (blk_cell BK9.out 1).trans rfl; have hf9_1 := blk_frozen BK9.out 1; have hc13_0 : w14_.cell? ⟨gb13_, 0, none⟩ = some (.int .i64 t11) := (blk_cell BK13.out 0).trans rfl; have hf13_0 := blk_frozen BK13.out 0; have hc13_1 : w14_.cell? ⟨gb13_, 1, none⟩ = some (.slice Ao12_1 t12.length co12_1) := (blk_cell BK13.out 1).trans rfl; have hf13_1 := blk_frozen BK13.out 1))
  (with_reducible refine (laws_eqReceiver.calls k t11 _ _ t12 t5 _ _ t6 true _ (Kd.S_reads' HO12_1.out).2.2 (Kd.S_reads' HO12_1.out).2.1 (Kd.N_reads' HO5_1.out).2.2 (Kd.N_reads' HO5_1.out).2.1 A15.out).mono ?_)
  rintro e w15_ ⟨rfl, hb⟩
  have hs15 := Aside0.mk hb.size
  replace HO3_1 := Aside0.mk (Kd.S_below HO3_1.out hb)
  replace HO4_0 := Aside0.mk (Kd.R_below HO4_0.out hb)
  replace HO5_1 := Aside0.mk (Kd.N_below HO5_1.out hb)
  replace HO8_1 := Aside0.mk (Kd.S_below HO8_1.out hb)
  replace HO11_0 := Aside0.mk (Kd.R_below HO11_0.out hb)
  replace HO12_1 := Aside0.mk (Kd.S_below HO12_1.out hb)
  replace BK1 := Aside0.mk (blk_below BK1.out hb)
  replace BK6 := Aside0.mk (blk_below BK6.out hb)
  replace BK9 := Aside0.mk (blk_below BK9.out hb)
  replace BK13 := Aside0.mk (blk_below BK13.out hb)
  replace HB := Aside0.mk (below_then HB.out HB.out.size hb)
  clear hb 
  clear hc1_0 hf1_0 hc1_1 hf1_1 hc6_0 hf6_0 hc6_1 hf6_1 hc9_0 hf9_0 hc9_1 hf9_1 hc13_0 hf13_0 hc13_1 hf13_1
  have hc1_0 : w15_.cell? ⟨gb1_, 0, none⟩ = some (.int .i64 a0_0) := (blk_cell BK1.out 0).trans rfl
  have hf1_0 := blk_frozen BK1.out 0
  have hc1_1 : w15_.cell? ⟨gb1_, 1, none⟩ = some (.slice A0_1 l0_1.length c0_1) := (blk_cell BK1.out 1).trans rfl
  have hf1_1 := blk_frozen BK1.out 1
  have hc6_0 : w15_.cell? ⟨gb6_, 0, none⟩ = some (.int .i64 t5) := (blk_cell BK6.out 0).trans rfl
  have hf6_0 := blk_frozen BK6.out 0
  have hc6_1 : w15_.cell? ⟨gb6_, 1, none⟩ = some (.slice Ao5_1 t6.length co5_1) := (blk_cell BK6.out 1).trans rfl
  have hf6_1 := blk_frozen BK6.out 1
  have hc9_0 : w15_.cell? ⟨gb9_, 0, none⟩ = some (.int .i64 t8) := (blk_cell BK9.out 0).trans rfl
  have hf9_0 := blk_frozen BK9.out 0
  have hc9_1 : w15_.cell? ⟨gb9_, 1, none⟩ = some (.slice Ao8_1 t9.length co8_1) := (blk_cell BK9.out 1).trans rfl
  have hf9_1 := blk_frozen BK9.out 1
  have hc13_0 : w15_.cell? ⟨gb13_, 0, none⟩ = some (.int .i64 t11) := (blk_cell BK13.out 0).trans rfl
  have hf13_0 := blk_frozen BK13.out 0
  have hc13_1 : w15_.cell? ⟨gb13_, 1, none⟩ = some (.slice Ao12_1 t12.length co12_1) := (blk_cell BK13.out 1).trans rfl
  have hf13_1 := blk_frozen BK13.out 1
  go_wp2_with fail
  refine start_ (n := 5) (S := fun w' => w'.cell? ⟨gb1_, 0, none⟩ = some (.int .i64 a0_0) ∧ w'.cell? ⟨gb1_, 1, none⟩ = some (.slice A0_1 l0_1.length c0_1) ∧ w'.cell? ⟨gb6_, 0, none⟩ = some (.int .i64 t5) ∧ w'.cell? ⟨gb6_, 1, none⟩ = some (.slice Ao5_1 t6.length co5_1) ∧ w'.cell? ⟨gb9_, 0, none⟩ = some (.int .i64 t8) ∧ w'.cell? ⟨gb9_, 1, none⟩ = some (.slice Ao8_1 t9.length co8_1) ∧ w'.cell? ⟨gb13_, 0, none⟩ = some (.int .i64 t11) ∧ w'.cell? ⟨gb13_, 1, none⟩ = some (.slice Ao12_1 t12.length co12_1)) (ds := []) #[false, false, false, false, false] (by kernel_rfl) rfl rfl ⟨(blk_cell BK1.out 0).trans rfl, (blk_cell BK1.out 1).trans rfl, (blk_cell BK6.out 0).trans rfl, (blk_cell BK6.out 1).trans rfl, (blk_cell BK9.out 0).trans rfl, (blk_cell BK9.out 1).trans rfl, (blk_cell BK13.out 0).trans rfl, (blk_cell BK13.out 1).trans rfl⟩ (fun hHeld => ?_)
  clear hc1_0 hf1_0 hc1_1 hf1_1 hc6_0 hf6_0 hc6_1 hf6_1 hc9_0 hf9_0 hc9_1 hf9_1 hc13_0 hf13_0 hc13_1 hf13_1
  have hb := below_drew (Below.refl w15_.heap.size w15_)
  have hs16 := Aside0.mk hb.size
  replace HO3_1 := Aside0.mk (Kd.S_below HO3_1.out hb)
  replace HO4_0 := Aside0.mk (Kd.R_below HO4_0.out hb)
  replace HO5_1 := Aside0.mk (Kd.N_below HO5_1.out hb)
  replace HO8_1 := Aside0.mk (Kd.S_below HO8_1.out hb)
  replace HO11_0 := Aside0.mk (Kd.R_below HO11_0.out hb)
  replace HO12_1 := Aside0.mk (Kd.S_below HO12_1.out hb)
  replace BK1 := Aside0.mk (blk_below BK1.out hb)
  replace BK6 := Aside0.mk (blk_below BK6.out hb)
  replace BK9 := Aside0.mk (blk_below BK9.out hb)
  replace BK13 := Aside0.mk (blk_below BK13.out hb)
  replace HB := Aside0.mk (below_then HB.out HB.out.size hb)
  clear hb
  generalize w15_.drew = w16_ at HO3_1 HO4_0 HO5_1 HO8_1 HO11_0 HO12_1 BK1 BK6 BK9 BK13 HB hs16 hHeld ⊢
  refine take_ (i := 0) (N := some 52) (v := ?_) (a' := ?_) #[true, false, false, false, false] rfl rfl (by kernel_rfl) (fun _ _ _ h => h) (Or.inl ⟨by rfl, ?_⟩) hHeld ?_ ?_
  rotate_left
  · rintro w' ⟨s0, s1, s2, s3, s4, s5, s6, s7⟩
    go_simp
    with_reducible rfl
  rotate_left
  · simp only [Act.put, List.setIfInBounds_toArray, List.set_cons_zero, List.set_cons_succ, i64_w, i32_w]
    rfl
  refine take_ (i := 1) (N := some 53) (v := ?_) (a' := ?_) #[true, true, false, false, false] rfl rfl (by kernel_rfl) (fun _ _ _ h => h) (Or.inl ⟨by rfl, ?_⟩) hHeld ?_ ?_
  rotate_left
  · rintro w' ⟨s0, s1, s2, s3, s4, s5, s6, s7⟩
    go_simp
    with_reducible rfl
  rotate_left
  · simp only [Act.put, List.setIfInBounds_toArray, List.set_cons_zero, List.set_cons_succ, i64_w, i32_w]
    rfl
  refine one_ (i := 2) (N := some 54) #[true, true, true, false, false] rfl rfl (by kernel_rfl) (by decide) (fun K hK => ?_)
  refine goes_ Try.func8 (by kernel_rfl) rfl #[.agg #[.int .i64 a0_0, .slice A0_1 l0_1.length c0_1]] (by rfl) rfl rfl (by (try simp only [List.map_toArray, List.map_cons, List.map_nil]); first | done | rfl | (simp only [List.length_drop, List.length_take]; rfl)) ?_
  with_reducible refine (laws_toReceiver.calls k a0_0 _ _ l0_1 t15 t16 _ (Kd.C_below HR0_1.out HB.out) HC0_1.out A17.out).mono ?_
  rintro e w17_ ⟨v1_, rfl, ho0_, hb⟩
  refine ⟨_, rfl, ?_⟩
  have hs17 := Aside0.mk hb.size
  replace HO3_1 := Aside0.mk (Kd.S_below HO3_1.out hb)
  replace HO4_0 := Aside0.mk (Kd.R_below HO4_0.out hb)
  replace HO5_1 := Aside0.mk (Kd.N_below HO5_1.out hb)
  replace HO8_1 := Aside0.mk (Kd.S_below HO8_1.out hb)
  replace HO11_0 := Aside0.mk (Kd.R_below HO11_0.out hb)
  replace HO12_1 := Aside0.mk (Kd.S_below HO12_1.out hb)
  replace BK1 := Aside0.mk (blk_below BK1.out hb)
  replace BK6 := Aside0.mk (blk_below BK6.out hb)
  replace BK9 := Aside0.mk (blk_below BK9.out hb)
  replace BK13 := Aside0.mk (blk_below BK13.out hb)
  obtain ⟨Ao17_1, co17_1, ev_⟩ := Kd.S_slice ho0_
  subst ev_
  have HO17_1 := Aside0.mk (Kd.S_lower (Kd.S_mono (ok' := (fun k_ => w16_.heap.size ≤ k_ ∧ k_ < w17_.heap.size)) (Kd.S_bound ho0_) (fun k_ hk_ => ⟨hk_.2.1, hk_.2.2.1⟩)) HB.out.size)
  replace HB := Aside0.mk (below_then HB.out HB.out.size hb)
  clear hb ho0_
  refine hK.out _ _ ⟨(blk_cell BK1.out 0).trans rfl, (blk_cell BK1.out 1).trans rfl, (blk_cell BK6.out 0).trans rfl, (blk_cell BK6.out 1).trans rfl, (blk_cell BK9.out 0).trans rfl, (blk_cell BK9.out 1).trans rfl, (blk_cell BK13.out 0).trans rfl, (blk_cell BK13.out 1).trans rfl⟩ (fun hHeld => ?_)
  clear hK K
  refine norm_ (a' := ?_) ?_ ?_
  rotate_left
  · show Act.put _ (some 54) _ = _
    simp only [Act.put, List.setIfInBounds_toArray, List.set_cons_zero, List.set_cons_succ, i64_w, i32_w]
    rfl
  refine one_ (i := 3) (N := some 55) #[true, true, true, true, false] rfl rfl (by kernel_rfl) (by decide) (fun K hK => ?_)
  refine goes_ Try.func11 (by kernel_rfl) rfl #[.agg #[.int .i64 t8, .slice Ao8_1 t9.length co8_1], .agg #[.int .i64 t15, .slice Ao17_1 t16.length co17_1]] (by rfl) rfl rfl (by (try simp only [List.map_toArray, List.map_cons, List.map_nil]); first | done | rfl | (simp only [List.length_drop, List.length_take]; rfl)) ?_
  with_reducible refine (laws_eqReceiver.calls k t8 _ _ t9 t15 _ _ t16 true _ (Kd.S_reads' HO8_1.out).2.2 (Kd.S_reads' HO8_1.out).2.1 (Kd.S_reads' HO17_1.out).2.2 (Kd.S_reads' HO17_1.out).2.1 A18.out).mono ?_
  rintro e w18_ ⟨rfl, hb⟩
  refine ⟨_, rfl, ?_⟩
  have hs18 := Aside0.mk hb.size
  replace HO3_1 := Aside0.mk (Kd.S_below HO3_1.out hb)
  replace HO4_0 := Aside0.mk (Kd.R_below HO4_0.out hb)
  replace HO5_1 := Aside0.mk (Kd.N_below HO5_1.out hb)
  replace HO8_1 := Aside0.mk (Kd.S_below HO8_1.out hb)
  replace HO11_0 := Aside0.mk (Kd.R_below HO11_0.out hb)
  replace HO12_1 := Aside0.mk (Kd.S_below HO12_1.out hb)
  replace HO17_1 := Aside0.mk (Kd.S_below HO17_1.out hb)
  replace BK1 := Aside0.mk (blk_below BK1.out hb)
  replace BK6 := Aside0.mk (blk_below BK6.out hb)
  replace BK9 := Aside0.mk (blk_below BK9.out hb)
  replace BK13 := Aside0.mk (blk_below BK13.out hb)
  replace HB := Aside0.mk (below_then HB.out HB.out.size hb)
  clear hb 
  refine hK.out _ _ ⟨(blk_cell BK1.out 0).trans rfl, (blk_cell BK1.out 1).trans rfl, (blk_cell BK6.out 0).trans rfl, (blk_cell BK6.out 1).trans rfl, (blk_cell BK9.out 0).trans rfl, (blk_cell BK9.out 1).trans rfl, (blk_cell BK13.out 0).trans rfl, (blk_cell BK13.out 1).trans rfl⟩ (fun hHeld => ?_)
  clear hK K
  refine norm_ (a' := ?_) ?_ ?_
  rotate_left
  · show Act.put _ (some 55) _ = _
    simp only [Act.put, List.setIfInBounds_toArray, List.set_cons_zero, List.set_cons_succ, i64_w, i32_w]
    rfl
  refine pure_ (i := 4) (N := some 56) (v := ?_) (a' := ?_) #[true, true, true, true, true] rfl rfl (by kernel_rfl) (fun _ _ _ h => h) (Or.inl ⟨by rfl, ?_⟩) ?_ ?_
  rotate_left
  · intro w'
    go_simp
    with_reducible rfl
  rotate_left
  · simp only [Act.put, List.setIfInBounds_toArray, List.set_cons_zero, List.set_cons_succ, i64_w, i32_w]
    rfl
  refine done_ (by kernel_rfl) ?_
  have hc1_0 : w18_.cell? ⟨gb1_, 0, none⟩ = some (.int .i64 a0_0) := (blk_cell BK1.out 0).trans rfl
  have hf1_0 := blk_frozen BK1.out 0
  have hc1_1 : w18_.cell? ⟨gb1_, 1, none⟩ = some (.slice A0_1 l0_1.length c0_1) := (blk_cell BK1.out 1).trans rfl
  have hf1_1 := blk_frozen BK1.out 1
  have hc6_0 : w18_.cell? ⟨gb6_, 0, none⟩ = some (.int .i64 t5) := (blk_cell BK6.out 0).trans rfl
  have hf6_0 := blk_frozen BK6.out 0
  have hc6_1 : w18_.cell? ⟨gb6_, 1, none⟩ = some (.slice Ao5_1 t6.length co5_1) := (blk_cell BK6.out 1).trans rfl
  have hf6_1 := blk_frozen BK6.out 1
  have hc9_0 : w18_.cell? ⟨gb9_, 0, none⟩ = some (.int .i64 t8) := (blk_cell BK9.out 0).trans rfl
  have hf9_0 := blk_frozen BK9.out 0
  have hc9_1 : w18_.cell? ⟨gb9_, 1, none⟩ = some (.slice Ao8_1 t9.length co8_1) := (blk_cell BK9.out 1).trans rfl
  have hf9_1 := blk_frozen BK9.out 1
  have hc13_0 : w18_.cell? ⟨gb13_, 0, none⟩ = some (.int .i64 t11) := (blk_cell BK13.out 0).trans rfl
  have hf13_0 := blk_frozen BK13.out 0
  have hc13_1 : w18_.cell? ⟨gb13_, 1, none⟩ = some (.slice Ao12_1 t12.length co12_1) := (blk_cell BK13.out 1).trans rfl
  have hf13_1 := blk_frozen BK13.out 1
  go_wp2_with fail
  (with_reducible refine (laws_toIntS.calls k _ _ l1 t18 _ (Kd.C_below HR1.out HB.out) HC1.out A19.out).mono ?_)
  rintro e w19_ ⟨v0_, rfl, ho0_, hb⟩
  have hs19 := Aside0.mk hb.size
  replace HO3_1 := Aside0.mk (Kd.S_below HO3_1.out hb)
  replace HO4_0 := Aside0.mk (Kd.R_below HO4_0.out hb)
  replace HO5_1 := Aside0.mk (Kd.N_below HO5_1.out hb)
  replace HO8_1 := Aside0.mk (Kd.S_below HO8_1.out hb)
  replace HO11_0 := Aside0.mk (Kd.R_below HO11_0.out hb)
  replace HO12_1 := Aside0.mk (Kd.S_below HO12_1.out hb)
  replace HO17_1 := Aside0.mk (Kd.S_below HO17_1.out hb)
  replace BK1 := Aside0.mk (blk_below BK1.out hb)
  replace BK6 := Aside0.mk (blk_below BK6.out hb)
  replace BK9 := Aside0.mk (blk_below BK9.out hb)
  replace BK13 := Aside0.mk (blk_below BK13.out hb)
  obtain ⟨Ao19_0, co19_0, ev_⟩ := Kd.R_slice ho0_
  subst ev_
  have HO19_0 := Aside0.mk (Kd.R_lower (Kd.R_mono (ok' := (fun k_ => w18_.heap.size ≤ k_ ∧ k_ < w19_.heap.size)) (Kd.R_bound ho0_) (fun k_ hk_ => ⟨hk_.2.1, hk_.2.2.1⟩)) HB.out.size)
  replace HB := Aside0.mk (below_then HB.out HB.out.size hb)
  clear hb ho0_
  clear hc1_0 hf1_0 hc1_1 hf1_1 hc6_0 hf6_0 hc6_1 hf6_1 hc9_0 hf9_0 hc9_1 hf9_1 hc13_0 hf13_0 hc13_1 hf13_1
  have hc1_0 : w19_.cell? ⟨gb1_, 0, none⟩ = some (.int .i64 a0_0) := (blk_cell BK1.out 0).trans rfl
  have hf1_0 := blk_frozen BK1.out 0
  have hc1_1 : w19_.cell? ⟨gb1_, 1, none⟩ = some (.slice A0_1 l0_1.length c0_1) := (blk_cell BK1.out 1).trans rfl
  have hf1_1 := blk_frozen BK1.out 1
  have hc6_0 : w19_.cell? ⟨gb6_, 0, none⟩ = some (.int .i64 t5) := (blk_cell BK6.out 0).trans rfl
  have hf6_0 := blk_frozen BK6.out 0
  have hc6_1 : w19_.cell? ⟨gb6_, 1, none⟩ = some (.slice Ao5_1 t6.length co5_1) := (blk_cell BK6.out 1).trans rfl
  have hf6_1 := blk_frozen BK6.out 1
  have hc9_0 : w19_.cell? ⟨gb9_, 0, none⟩ = some (.int .i64 t8) := (blk_cell BK9.out 0).trans rfl
  have hf9_0 := blk_frozen BK9.out 0
  have hc9_1 : w19_.cell? ⟨gb9_, 1, none⟩ = some (.slice Ao8_1 t9.length co8_1) := (blk_cell BK9.out 1).trans rfl
  have hf9_1 := blk_frozen BK9.out 1
  have hc13_0 : w19_.cell? ⟨gb13_, 0, none⟩ = some (.int .i64 t11) := (blk_cell BK13.out 0).trans rfl
  have hf13_0 := blk_frozen BK13.out 0
  have hc13_1 : w19_.cell? ⟨gb13_, 1, none⟩ = some (.slice Ao12_1 t12.length co12_1) := (blk_cell BK13.out 1).trans rfl
  have hf13_1 := blk_frozen BK13.out 1
  go_wp2_with fail
  (with_reducible refine (laws_eqIntS.calls k _ _ t10 _ _ t18 true _ (Kd.R_reads' HO11_0.out).2.2 (Kd.R_reads' HO11_0.out).2.1 (Kd.R_reads' HO19_0.out).2.2 (Kd.R_reads' HO19_0.out).2.1 A20.out).mono ?_)
  rintro e w20_ ⟨rfl, hb⟩
  replace hb := Drawn0.below hb
  have hs20 := Aside0.mk hb.size
  replace HO3_1 := Aside0.mk (Kd.S_below HO3_1.out hb)
  replace HO4_0 := Aside0.mk (Kd.R_below HO4_0.out hb)
  replace HO5_1 := Aside0.mk (Kd.N_below HO5_1.out hb)
  replace HO8_1 := Aside0.mk (Kd.S_below HO8_1.out hb)
  replace HO11_0 := Aside0.mk (Kd.R_below HO11_0.out hb)
  replace HO12_1 := Aside0.mk (Kd.S_below HO12_1.out hb)
  replace HO17_1 := Aside0.mk (Kd.S_below HO17_1.out hb)
  replace HO19_0 := Aside0.mk (Kd.R_below HO19_0.out hb)
  replace BK1 := Aside0.mk (blk_below BK1.out hb)
  replace BK6 := Aside0.mk (blk_below BK6.out hb)
  replace BK9 := Aside0.mk (blk_below BK9.out hb)
  replace BK13 := Aside0.mk (blk_below BK13.out hb)
  replace HB := Aside0.mk (below_then HB.out HB.out.size hb)
  clear hb 
  clear hc1_0 hf1_0 hc1_1 hf1_1 hc6_0 hf6_0 hc6_1 hf6_1 hc9_0 hf9_0 hc9_1 hf9_1 hc13_0 hf13_0 hc13_1 hf13_1
  have hc1_0 : w20_.cell? ⟨gb1_, 0, none⟩ = some (.int .i64 a0_0) := (blk_cell BK1.out 0).trans rfl
  have hf1_0 := blk_frozen BK1.out 0
  have hc1_1 : w20_.cell? ⟨gb1_, 1, none⟩ = some (.slice A0_1 l0_1.length c0_1) := (blk_cell BK1.out 1).trans rfl
  have hf1_1 := blk_frozen BK1.out 1
  have hc6_0 : w20_.cell? ⟨gb6_, 0, none⟩ = some (.int .i64 t5) := (blk_cell BK6.out 0).trans rfl
  have hf6_0 := blk_frozen BK6.out 0
  have hc6_1 : w20_.cell? ⟨gb6_, 1, none⟩ = some (.slice Ao5_1 t6.length co5_1) := (blk_cell BK6.out 1).trans rfl
  have hf6_1 := blk_frozen BK6.out 1
  have hc9_0 : w20_.cell? ⟨gb9_, 0, none⟩ = some (.int .i64 t8) := (blk_cell BK9.out 0).trans rfl
  have hf9_0 := blk_frozen BK9.out 0
  have hc9_1 : w20_.cell? ⟨gb9_, 1, none⟩ = some (.slice Ao8_1 t9.length co8_1) := (blk_cell BK9.out 1).trans rfl
  have hf9_1 := blk_frozen BK9.out 1
  have hc13_0 : w20_.cell? ⟨gb13_, 0, none⟩ = some (.int .i64 t11) := (blk_cell BK13.out 0).trans rfl
  have hf13_0 := blk_frozen BK13.out 0
  have hc13_1 : w20_.cell? ⟨gb13_, 1, none⟩ = some (.slice Ao12_1 t12.length co12_1) := (blk_cell BK13.out 1).trans rfl
  have hf13_1 := blk_frozen BK13.out 1
  go_wp2_with fail
  (with_reducible refine (laws_markReceiver.calls k t8 (fun k_ => w7_.heap.size ≤ k_ ∧ k_ < w8_.heap.size) (.slice Ao8_1 t9.length co8_1) t9 1 t20 t21 w _ HB.out HO8_1.out A21.out).mono ?_)
  rintro e w21_ ⟨rfl, ho0_, ho1_, hkp⟩
  have hs21 := Aside0.mk hkp.1
  replace HO3_1 := Aside0.mk (Kd.S_kept HO3_1.out hkp (fun k_ hk_ hs_ => by obtain ⟨hk1_, hk2_⟩ := hk_; obtain ⟨hs1_, hs2_⟩ := hs_; have := hs1.out; have := hs2.out; have := hs3.out; have := hs4.out; have := hs5.out; have := hs7.out; have := hs8.out; have := hs10.out; have := hs11.out; have := hs12.out; have := hs14.out; have := hs15.out; have := hs16.out; have := hs17.out; have := hs18.out; have := hs19.out; have := hs20.out; have := hs21.out; omega))
  replace HO4_0 := Aside0.mk (Kd.R_kept HO4_0.out hkp (fun k_ hk_ hs_ => by obtain ⟨hk1_, hk2_⟩ := hk_; obtain ⟨hs1_, hs2_⟩ := hs_; have := hs1.out; have := hs2.out; have := hs3.out; have := hs4.out; have := hs5.out; have := hs7.out; have := hs8.out; have := hs10.out; have := hs11.out; have := hs12.out; have := hs14.out; have := hs15.out; have := hs16.out; have := hs17.out; have := hs18.out; have := hs19.out; have := hs20.out; have := hs21.out; omega))
  replace HO5_1 := Aside0.mk (Kd.N_kept HO5_1.out hkp (fun k_ hk_ hs_ => by obtain ⟨hk1_, hk2_⟩ := hk_; obtain ⟨hs1_, hs2_⟩ := hs_; have := hs1.out; have := hs2.out; have := hs3.out; have := hs4.out; have := hs5.out; have := hs7.out; have := hs8.out; have := hs10.out; have := hs11.out; have := hs12.out; have := hs14.out; have := hs15.out; have := hs16.out; have := hs17.out; have := hs18.out; have := hs19.out; have := hs20.out; have := hs21.out; omega))
  replace HO11_0 := Aside0.mk (Kd.R_kept HO11_0.out hkp (fun k_ hk_ hs_ => by obtain ⟨hk1_, hk2_⟩ := hk_; obtain ⟨hs1_, hs2_⟩ := hs_; have := hs1.out; have := hs2.out; have := hs3.out; have := hs4.out; have := hs5.out; have := hs7.out; have := hs8.out; have := hs10.out; have := hs11.out; have := hs12.out; have := hs14.out; have := hs15.out; have := hs16.out; have := hs17.out; have := hs18.out; have := hs19.out; have := hs20.out; have := hs21.out; omega))
  replace HO12_1 := Aside0.mk (Kd.S_kept HO12_1.out hkp (fun k_ hk_ hs_ => by obtain ⟨hk1_, hk2_⟩ := hk_; obtain ⟨hs1_, hs2_⟩ := hs_; have := hs1.out; have := hs2.out; have := hs3.out; have := hs4.out; have := hs5.out; have := hs7.out; have := hs8.out; have := hs10.out; have := hs11.out; have := hs12.out; have := hs14.out; have := hs15.out; have := hs16.out; have := hs17.out; have := hs18.out; have := hs19.out; have := hs20.out; have := hs21.out; omega))
  replace HO17_1 := Aside0.mk (Kd.S_kept HO17_1.out hkp (fun k_ hk_ hs_ => by obtain ⟨hk1_, hk2_⟩ := hk_; obtain ⟨hs1_, hs2_⟩ := hs_; have := hs1.out; have := hs2.out; have := hs3.out; have := hs4.out; have := hs5.out; have := hs7.out; have := hs8.out; have := hs10.out; have := hs11.out; have := hs12.out; have := hs14.out; have := hs15.out; have := hs16.out; have := hs17.out; have := hs18.out; have := hs19.out; have := hs20.out; have := hs21.out; omega))
  replace HO19_0 := Aside0.mk (Kd.R_kept HO19_0.out hkp (fun k_ hk_ hs_ => by obtain ⟨hk1_, hk2_⟩ := hk_; obtain ⟨hs1_, hs2_⟩ := hs_; have := hs1.out; have := hs2.out; have := hs3.out; have := hs4.out; have := hs5.out; have := hs7.out; have := hs8.out; have := hs10.out; have := hs11.out; have := hs12.out; have := hs14.out; have := hs15.out; have := hs16.out; have := hs17.out; have := hs18.out; have := hs19.out; have := hs20.out; have := hs21.out; omega))
  replace BK1 := Aside0.mk ((hkp.2 _ (blk_lt BK1.out) (fun hs_ => by obtain ⟨hs1_, hs2_⟩ := hs_; have := GE1.out; have := GL1.out; have := hs1.out; have := hs2.out; have := hs3.out; have := hs4.out; have := hs5.out; have := hs7.out; have := hs8.out; have := hs10.out; have := hs11.out; have := hs12.out; have := hs14.out; have := hs15.out; have := hs16.out; have := hs17.out; have := hs18.out; have := hs19.out; have := hs20.out; have := hs21.out; omega)).trans BK1.out)
  replace BK6 := Aside0.mk ((hkp.2 _ (blk_lt BK6.out) (fun hs_ => by obtain ⟨hs1_, hs2_⟩ := hs_; have := GE6.out; have := GL6.out; have := hs1.out; have := hs2.out; have := hs3.out; have := hs4.out; have := hs5.out; have := hs7.out; have := hs8.out; have := hs10.out; have := hs11.out; have := hs12.out; have := hs14.out; have := hs15.out; have := hs16.out; have := hs17.out; have := hs18.out; have := hs19.out; have := hs20.out; have := hs21.out; omega)).trans BK6.out)
  replace BK9 := Aside0.mk ((hkp.2 _ (blk_lt BK9.out) (fun hs_ => by obtain ⟨hs1_, hs2_⟩ := hs_; have := GE9.out; have := GL9.out; have := hs1.out; have := hs2.out; have := hs3.out; have := hs4.out; have := hs5.out; have := hs7.out; have := hs8.out; have := hs10.out; have := hs11.out; have := hs12.out; have := hs14.out; have := hs15.out; have := hs16.out; have := hs17.out; have := hs18.out; have := hs19.out; have := hs20.out; have := hs21.out; omega)).trans BK9.out)
  replace BK13 := Aside0.mk ((hkp.2 _ (blk_lt BK13.out) (fun hs_ => by obtain ⟨hs1_, hs2_⟩ := hs_; have := GE13.out; have := GL13.out; have := hs1.out; have := hs2.out; have := hs3.out; have := hs4.out; have := hs5.out; have := hs7.out; have := hs8.out; have := hs10.out; have := hs11.out; have := hs12.out; have := hs14.out; have := hs15.out; have := hs16.out; have := hs17.out; have := hs18.out; have := hs19.out; have := hs20.out; have := hs21.out; omega)).trans BK13.out)
  replace HO8_1 := Aside0.mk ho0_
  have LQHO8_1 := Aside0.mk (Kd.S_reads' HO8_1.out).1.symm
  replace HB := Aside0.mk ho1_
  clear hkp ho0_ ho1_
  clear hc1_0 hf1_0 hc1_1 hf1_1 hc6_0 hf6_0 hc6_1 hf6_1 hc9_0 hf9_0 hc9_1 hf9_1 hc13_0 hf13_0 hc13_1 hf13_1
  have hc1_0 : w21_.cell? ⟨gb1_, 0, none⟩ = some (.int .i64 a0_0) := (blk_cell BK1.out 0).trans rfl
  have hf1_0 := blk_frozen BK1.out 0
  have hc1_1 : w21_.cell? ⟨gb1_, 1, none⟩ = some (.slice A0_1 l0_1.length c0_1) := (blk_cell BK1.out 1).trans rfl
  have hf1_1 := blk_frozen BK1.out 1
  have hc6_0 : w21_.cell? ⟨gb6_, 0, none⟩ = some (.int .i64 t5) := (blk_cell BK6.out 0).trans rfl
  have hf6_0 := blk_frozen BK6.out 0
  have hc6_1 : w21_.cell? ⟨gb6_, 1, none⟩ = some (.slice Ao5_1 t6.length co5_1) := (blk_cell BK6.out 1).trans rfl
  have hf6_1 := blk_frozen BK6.out 1
  have hc9_0 : w21_.cell? ⟨gb9_, 0, none⟩ = some (.int .i64 t8) := (blk_cell BK9.out 0).trans rfl
  have hf9_0 := blk_frozen BK9.out 0
  have hc9_1 : w21_.cell? ⟨gb9_, 1, none⟩ = some (.slice Ao8_1 t9.length co8_1) := (blk_cell BK9.out 1).trans rfl
  have hf9_1 := blk_frozen BK9.out 1
  have hc13_0 : w21_.cell? ⟨gb13_, 0, none⟩ = some (.int .i64 t11) := (blk_cell BK13.out 0).trans rfl
  have hf13_0 := blk_frozen BK13.out 0
  have hc13_1 : w21_.cell? ⟨gb13_, 1, none⟩ = some (.slice Ao12_1 t12.length co12_1) := (blk_cell BK13.out 1).trans rfl
  have hf13_1 := blk_frozen BK13.out 1
  go_wp2_with fail
  (with_reducible refine (laws_markIntS.calls k (fun k_ => w10_.heap.size ≤ k_ ∧ k_ < w11_.heap.size) (.slice Ao11_0 t10.length co11_0) t10 t20 t22 t23 w _ HB.out HO11_0.out A22.out).mono ?_)
  rintro e w22_ ⟨rfl, ho0_, ho1_, hkp⟩
  have hs22 := Aside0.mk hkp.1
  replace HO3_1 := Aside0.mk (Kd.S_kept HO3_1.out hkp (fun k_ hk_ hs_ => by obtain ⟨hk1_, hk2_⟩ := hk_; obtain ⟨hs1_, hs2_⟩ := hs_; have := hs1.out; have := hs2.out; have := hs3.out; have := hs4.out; have := hs5.out; have := hs7.out; have := hs8.out; have := hs10.out; have := hs11.out; have := hs12.out; have := hs14.out; have := hs15.out; have := hs16.out; have := hs17.out; have := hs18.out; have := hs19.out; have := hs20.out; have := hs21.out; have := hs22.out; omega))
  replace HO4_0 := Aside0.mk (Kd.R_kept HO4_0.out hkp (fun k_ hk_ hs_ => by obtain ⟨hk1_, hk2_⟩ := hk_; obtain ⟨hs1_, hs2_⟩ := hs_; have := hs1.out; have := hs2.out; have := hs3.out; have := hs4.out; have := hs5.out; have := hs7.out; have := hs8.out; have := hs10.out; have := hs11.out; have := hs12.out; have := hs14.out; have := hs15.out; have := hs16.out; have := hs17.out; have := hs18.out; have := hs19.out; have := hs20.out; have := hs21.out; have := hs22.out; omega))
  replace HO5_1 := Aside0.mk (Kd.N_kept HO5_1.out hkp (fun k_ hk_ hs_ => by obtain ⟨hk1_, hk2_⟩ := hk_; obtain ⟨hs1_, hs2_⟩ := hs_; have := hs1.out; have := hs2.out; have := hs3.out; have := hs4.out; have := hs5.out; have := hs7.out; have := hs8.out; have := hs10.out; have := hs11.out; have := hs12.out; have := hs14.out; have := hs15.out; have := hs16.out; have := hs17.out; have := hs18.out; have := hs19.out; have := hs20.out; have := hs21.out; have := hs22.out; omega))
  replace HO8_1 := Aside0.mk (Kd.S_kept HO8_1.out hkp (fun k_ hk_ hs_ => by obtain ⟨hk1_, hk2_⟩ := hk_; obtain ⟨hs1_, hs2_⟩ := hs_; have := hs1.out; have := hs2.out; have := hs3.out; have := hs4.out; have := hs5.out; have := hs7.out; have := hs8.out; have := hs10.out; have := hs11.out; have := hs12.out; have := hs14.out; have := hs15.out; have := hs16.out; have := hs17.out; have := hs18.out; have := hs19.out; have := hs20.out; have := hs21.out; have := hs22.out; omega))
  replace HO12_1 := Aside0.mk (Kd.S_kept HO12_1.out hkp (fun k_ hk_ hs_ => by obtain ⟨hk1_, hk2_⟩ := hk_; obtain ⟨hs1_, hs2_⟩ := hs_; have := hs1.out; have := hs2.out; have := hs3.out; have := hs4.out; have := hs5.out; have := hs7.out; have := hs8.out; have := hs10.out; have := hs11.out; have := hs12.out; have := hs14.out; have := hs15.out; have := hs16.out; have := hs17.out; have := hs18.out; have := hs19.out; have := hs20.out; have := hs21.out; have := hs22.out; omega))
  replace HO17_1 := Aside0.mk (Kd.S_kept HO17_1.out hkp (fun k_ hk_ hs_ => by obtain ⟨hk1_, hk2_⟩ := hk_; obtain ⟨hs1_, hs2_⟩ := hs_; have := hs1.out; have := hs2.out; have := hs3.out; have := hs4.out; have := hs5.out; have := hs7.out; have := hs8.out; have := hs10.out; have := hs11.out; have := hs12.out; have := hs14.out; have := hs15.out; have := hs16.out; have := hs17.out; have := hs18.out; have := hs19.out; have := hs20.out; have := hs21.out; have := hs22.out; omega))
  replace HO19_0 := Aside0.mk (Kd.R_kept HO19_0.out hkp (fun k_ hk_ hs_ => by obtain ⟨hk1_, hk2_⟩ := hk_; obtain ⟨hs1_, hs2_⟩ := hs_; have := hs1.out; have := hs2.out; have := hs3.out; have := hs4.out; have := hs5.out; have := hs7.out; have := hs8.out; have := hs10.out; have := hs11.out; have := hs12.out; have := hs14.out; have := hs15.out; have := hs16.out; have := hs17.out; have := hs18.out; have := hs19.out; have := hs20.out; have := hs21.out; have := hs22.out; omega))
  replace BK1 := Aside0.mk ((hkp.2 _ (blk_lt BK1.out) (fun hs_ => by obtain ⟨hs1_, hs2_⟩ := hs_; have := GE1.out; have := GL1.out; have := hs1.out; have := hs2.out; have := hs3.out; have := hs4.out; have := hs5.out; have := hs7.out; have := hs8.out; have := hs10.out; have := hs11.out; have := hs12.out; have := hs14.out; have := hs15.out; have := hs16.out; have := hs17.out; have := hs18.out; have := hs19.out; have := hs20.out; have := hs21.out; have := hs22.out; omega)).trans BK1.out)
  replace BK6 := Aside0.mk ((hkp.2 _ (blk_lt BK6.out) (fun hs_ => by obtain ⟨hs1_, hs2_⟩ := hs_; have := GE6.out; have := GL6.out; have := hs1.out; have := hs2.out; have := hs3.out; have := hs4.out; have := hs5.out; have := hs7.out; have := hs8.out; have := hs10.out; have := hs11.out; have := hs12.out; have := hs14.out; have := hs15.out; have := hs16.out; have := hs17.out; have := hs18.out; have := hs19.out; have := hs20.out; have := hs21.out; have := hs22.out; omega)).trans BK6.out)
  replace BK9 := Aside0.mk ((hkp.2 _ (blk_lt BK9.out) (fun hs_ => by obtain ⟨hs1_, hs2_⟩ := hs_; have := GE9.out; have := GL9.out; have := hs1.out; have := hs2.out; have := hs3.out; have := hs4.out; have := hs5.out; have := hs7.out; have := hs8.out; have := hs10.out; have := hs11.out; have := hs12.out; have := hs14.out; have := hs15.out; have := hs16.out; have := hs17.out; have := hs18.out; have := hs19.out; have := hs20.out; have := hs21.out; have := hs22.out; omega)).trans BK9.out)
  replace BK13 := Aside0.mk ((hkp.2 _ (blk_lt BK13.out) (fun hs_ => by obtain ⟨hs1_, hs2_⟩ := hs_; have := GE13.out; have := GL13.out; have := hs1.out; have := hs2.out; have := hs3.out; have := hs4.out; have := hs5.out; have := hs7.out; have := hs8.out; have := hs10.out; have := hs11.out; have := hs12.out; have := hs14.out; have := hs15.out; have := hs16.out; have := hs17.out; have := hs18.out; have := hs19.out; have := hs20.out; have := hs21.out; have := hs22.out; omega)).trans BK13.out)
  replace HO11_0 := Aside0.mk (Kd.R_reok rfl ho0_ (fun k_ e_ => HO11_0.out.1 k_ e_))
  have LQHO11_0 := Aside0.mk (Kd.R_reads' HO11_0.out).1.symm
  replace HB := Aside0.mk ho1_
  clear hkp ho0_ ho1_
  clear hc1_0 hf1_0 hc1_1 hf1_1 hc6_0 hf6_0 hc6_1 hf6_1 hc9_0 hf9_0 hc9_1 hf9_1 hc13_0 hf13_0 hc13_1 hf13_1
  have hc1_0 : w22_.cell? ⟨gb1_, 0, none⟩ = some (.int .i64 a0_0) := (blk_cell BK1.out 0).trans rfl
  have hf1_0 := blk_frozen BK1.out 0
  have hc1_1 : w22_.cell? ⟨gb1_, 1, none⟩ = some (.slice A0_1 l0_1.length c0_1) := (blk_cell BK1.out 1).trans rfl
  have hf1_1 := blk_frozen BK1.out 1
  have hc6_0 : w22_.cell? ⟨gb6_, 0, none⟩ = some (.int .i64 t5) := (blk_cell BK6.out 0).trans rfl
  have hf6_0 := blk_frozen BK6.out 0
  have hc6_1 : w22_.cell? ⟨gb6_, 1, none⟩ = some (.slice Ao5_1 t6.length co5_1) := (blk_cell BK6.out 1).trans rfl
  have hf6_1 := blk_frozen BK6.out 1
  have hc9_0 : w22_.cell? ⟨gb9_, 0, none⟩ = some (.int .i64 t8) := (blk_cell BK9.out 0).trans rfl
  have hf9_0 := blk_frozen BK9.out 0
  have hc9_1 : w22_.cell? ⟨gb9_, 1, none⟩ = some (.slice Ao8_1 t9.length co8_1) := (blk_cell BK9.out 1).trans rfl
  have hf9_1 := blk_frozen BK9.out 1
  have hc13_0 : w22_.cell? ⟨gb13_, 0, none⟩ = some (.int .i64 t11) := (blk_cell BK13.out 0).trans rfl
  have hf13_0 := blk_frozen BK13.out 0
  have hc13_1 : w22_.cell? ⟨gb13_, 1, none⟩ = some (.slice Ao12_1 t12.length co12_1) := (blk_cell BK13.out 1).trans rfl
  have hf13_1 := blk_frozen BK13.out 1
  go_wp2_with fail
  (with_reducible refine (laws_eqReceiver.calls k t11 _ _ t12 t5 _ _ t6 true _ (Kd.S_reads' HO12_1.out).2.2 (Kd.S_reads' HO12_1.out).2.1 (Kd.N_reads' HO5_1.out).2.2 (Kd.N_reads' HO5_1.out).2.1 A23.out).mono ?_)
  rintro e w23_ ⟨rfl, hb⟩
  have hs23 := Aside0.mk hb.size
  replace HO3_1 := Aside0.mk (Kd.S_below HO3_1.out hb)
  replace HO4_0 := Aside0.mk (Kd.R_below HO4_0.out hb)
  replace HO5_1 := Aside0.mk (Kd.N_below HO5_1.out hb)
  replace HO8_1 := Aside0.mk (Kd.S_below HO8_1.out hb)
  replace HO11_0 := Aside0.mk (Kd.R_below HO11_0.out hb)
  replace HO12_1 := Aside0.mk (Kd.S_below HO12_1.out hb)
  replace HO17_1 := Aside0.mk (Kd.S_below HO17_1.out hb)
  replace HO19_0 := Aside0.mk (Kd.R_below HO19_0.out hb)
  replace BK1 := Aside0.mk (blk_below BK1.out hb)
  replace BK6 := Aside0.mk (blk_below BK6.out hb)
  replace BK9 := Aside0.mk (blk_below BK9.out hb)
  replace BK13 := Aside0.mk (blk_below BK13.out hb)
  replace HB := Aside0.mk (below_then HB.out HB.out.size hb)
  clear hb 
  clear hc1_0 hf1_0 hc1_1 hf1_1 hc6_0 hf6_0 hc6_1 hf6_1 hc9_0 hf9_0 hc9_1 hf9_1 hc13_0 hf13_0 hc13_1 hf13_1
  have hc1_0 : w23_.cell? ⟨gb1_, 0, none⟩ = some (.int .i64 a0_0) := (blk_cell BK1.out 0).trans rfl
  have hf1_0 := blk_frozen BK1.out 0
  have hc1_1 : w23_.cell? ⟨gb1_, 1, none⟩ = some (.slice A0_1 l0_1.length c0_1) := (blk_cell BK1.out 1).trans rfl
  have hf1_1 := blk_frozen BK1.out 1
  have hc6_0 : w23_.cell? ⟨gb6_, 0, none⟩ = some (.int .i64 t5) := (blk_cell BK6.out 0).trans rfl
  have hf6_0 := blk_frozen BK6.out 0
  have hc6_1 : w23_.cell? ⟨gb6_, 1, none⟩ = some (.slice Ao5_1 t6.length co5_1) := (blk_cell BK6.out 1).trans rfl
  have hf6_1 := blk_frozen BK6.out 1
  have hc9_0 : w23_.cell? ⟨gb9_, 0, none⟩ = some (.int .i64 t8) := (blk_cell BK9.out 0).trans rfl
  have hf9_0 := blk_frozen BK9.out 0
  have hc9_1 : w23_.cell? ⟨gb9_, 1, none⟩ = some (.slice Ao8_1 t9.length co8_1) := (blk_cell BK9.out 1).trans rfl
  have hf9_1 := blk_frozen BK9.out 1
  have hc13_0 : w23_.cell? ⟨gb13_, 0, none⟩ = some (.int .i64 t11) := (blk_cell BK13.out 0).trans rfl
  have hf13_0 := blk_frozen BK13.out 0
  have hc13_1 : w23_.cell? ⟨gb13_, 1, none⟩ = some (.slice Ao12_1 t12.length co12_1) := (blk_cell BK13.out 1).trans rfl
  have hf13_1 := blk_frozen BK13.out 1
  go_wp2_with fail
  (with_reducible refine (laws_markReceiver.calls k t11 (fun k_ => w11_.heap.size ≤ k_ ∧ k_ < w12_.heap.size) (.slice Ao12_1 t12.length co12_1) t12 1 t25 t26 w _ HB.out HO12_1.out A24.out).mono ?_)
  rintro e w24_ ⟨rfl, ho0_, ho1_, hkp⟩
  have hs24 := Aside0.mk hkp.1
  replace HO3_1 := Aside0.mk (Kd.S_kept HO3_1.out hkp (fun k_ hk_ hs_ => by obtain ⟨hk1_, hk2_⟩ := hk_; obtain ⟨hs1_, hs2_⟩ := hs_; have := hs1.out; have := hs2.out; have := hs3.out; have := hs4.out; have := hs5.out; have := hs7.out; have := hs8.out; have := hs10.out; have := hs11.out; have := hs12.out; have := hs14.out; have := hs15.out; have := hs16.out; have := hs17.out; have := hs18.out; have := hs19.out; have := hs20.out; have := hs21.out; have := hs22.out; have := hs23.out; have := hs24.out; omega))
  replace HO4_0 := Aside0.mk (Kd.R_kept HO4_0.out hkp (fun k_ hk_ hs_ => by obtain ⟨hk1_, hk2_⟩ := hk_; obtain ⟨hs1_, hs2_⟩ := hs_; have := hs1.out; have := hs2.out; have := hs3.out; have := hs4.out; have := hs5.out; have := hs7.out; have := hs8.out; have := hs10.out; have := hs11.out; have := hs12.out; have := hs14.out; have := hs15.out; have := hs16.out; have := hs17.out; have := hs18.out; have := hs19.out; have := hs20.out; have := hs21.out; have := hs22.out; have := hs23.out; have := hs24.out; omega))
  replace HO5_1 := Aside0.mk (Kd.N_kept HO5_1.out hkp (fun k_ hk_ hs_ => by obtain ⟨hk1_, hk2_⟩ := hk_; obtain ⟨hs1_, hs2_⟩ := hs_; have := hs1.out; have := hs2.out; have := hs3.out; have := hs4.out; have := hs5.out; have := hs7.out; have := hs8.out; have := hs10.out; have := hs11.out; have := hs12.out; have := hs14.out; have := hs15.out; have := hs16.out; have := hs17.out; have := hs18.out; have := hs19.out; have := hs20.out; have := hs21.out; have := hs22.out; have := hs23.out; have := hs24.out; omega))
  replace HO8_1 := Aside0.mk (Kd.S_kept HO8_1.out hkp (fun k_ hk_ hs_ => by obtain ⟨hk1_, hk2_⟩ := hk_; obtain ⟨hs1_, hs2_⟩ := hs_; have := hs1.out; have := hs2.out; have := hs3.out; have := hs4.out; have := hs5.out; have := hs7.out; have := hs8.out; have := hs10.out; have := hs11.out; have := hs12.out; have := hs14.out; have := hs15.out; have := hs16.out; have := hs17.out; have := hs18.out; have := hs19.out; have := hs20.out; have := hs21.out; have := hs22.out; have := hs23.out; have := hs24.out; omega))
  replace HO11_0 := Aside0.mk (Kd.R_kept HO11_0.out hkp (fun k_ hk_ hs_ => by obtain ⟨hk1_, hk2_⟩ := hk_; obtain ⟨hs1_, hs2_⟩ := hs_; have := hs1.out; have := hs2.out; have := hs3.out; have := hs4.out; have := hs5.out; have := hs7.out; have := hs8.out; have := hs10.out; have := hs11.out; have := hs12.out; have := hs14.out; have := hs15.out; have := hs16.out; have := hs17.out; have := hs18.out; have := hs19.out; have := hs20.out; have := hs21.out; have := hs22.out; have := hs23.out; have := hs24.out; omega))
  replace HO17_1 := Aside0.mk (Kd.S_kept HO17_1.out hkp (fun k_ hk_ hs_ => by obtain ⟨hk1_, hk2_⟩ := hk_; obtain ⟨hs1_, hs2_⟩ := hs_; have := hs1.out; have := hs2.out; have := hs3.out; have := hs4.out; have := hs5.out; have := hs7.out; have := hs8.out; have := hs10.out; have := hs11.out; have := hs12.out; have := hs14.out; have := hs15.out; have := hs16.out; have := hs17.out; have := hs18.out; have := hs19.out; have := hs20.out; have := hs21.out; have := hs22.out; have := hs23.out; have := hs24.out; omega))
  replace HO19_0 := Aside0.mk (Kd.R_kept HO19_0.out hkp (fun k_ hk_ hs_ => by obtain ⟨hk1_, hk2_⟩ := hk_; obtain ⟨hs1_, hs2_⟩ := hs_; have := hs1.out; have := hs2.out; have := hs3.out; have := hs4.out; have := hs5.out; have := hs7.out; have := hs8.out; have := hs10.out; have := hs11.out; have := hs12.out; have := hs14.out; have := hs15.out; have := hs16.out; have := hs17.out; have := hs18.out; have := hs19.out; have := hs20.out; have := hs21.out; have := hs22.out; have := hs23.out; have := hs24.out; omega))
  replace BK1 := Aside0.mk ((hkp.2 _ (blk_lt BK1.out) (fun hs_ => by obtain ⟨hs1_, hs2_⟩ := hs_; have := GE1.out; have := GL1.out; have := hs1.out; have := hs2.out; have := hs3.out; have := hs4.out; have := hs5.out; have := hs7.out; have := hs8.out; have := hs10.out; have := hs11.out; have := hs12.out; have := hs14.out; have := hs15.out; have := hs16.out; have := hs17.out; have := hs18.out; have := hs19.out; have := hs20.out; have := hs21.out; have := hs22.out; have := hs23.out; have := hs24.out; omega)).trans BK1.out)
  replace BK6 := Aside0.mk ((hkp.2 _ (blk_lt BK6.out) (fun hs_ => by obtain ⟨hs1_, hs2_⟩ := hs_; have := GE6.out; have := GL6.out; have := hs1.out; have := hs2.out; have := hs3.out; have := hs4.out; have := hs5.out; have := hs7.out; have := hs8.out; have := hs10.out; have := hs11.out; have := hs12.out; have := hs14.out; have := hs15.out; have := hs16.out; have := hs17.out; have := hs18.out; have := hs19.out; have := hs20.out; have := hs21.out; have := hs22.out; have := hs23.out; have := hs24.out; omega)).trans BK6.out)
  replace BK9 := Aside0.mk ((hkp.2 _ (blk_lt BK9.out) (fun hs_ => by obtain ⟨hs1_, hs2_⟩ := hs_; have := GE9.out; have := GL9.out; have := hs1.out; have := hs2.out; have := hs3.out; have := hs4.out; have := hs5.out; have := hs7.out; have := hs8.out; have := hs10.out; have := hs11.out; have := hs12.out; have := hs14.out; have := hs15.out; have := hs16.out; have := hs17.out; have := hs18.out; have := hs19.out; have := hs20.out; have := hs21.out; have := hs22.out; have := hs23.out; have := hs24.out; omega)).trans BK9.out)
  replace BK13 := Aside0.mk ((hkp.2 _ (blk_lt BK13.out) (fun hs_ => by obtain ⟨hs1_, hs2_⟩ := hs_; have := GE13.out; have := GL13.out; have := hs1.out; have := hs2.out; have := hs3.out; have := hs4.out; have := hs5.out; have := hs7.out; have := hs8.out; have := hs10.out; have := hs11.out; have := hs12.out; have := hs14.out; have := hs15.out; have := hs16.out; have := hs17.out; have := hs18.out; have := hs19.out; have := hs20.out; have := hs21.out; have := hs22.out; have := hs23.out; have := hs24.out; omega)).trans BK13.out)
  replace HO12_1 := Aside0.mk ho0_
  have LQHO12_1 := Aside0.mk (Kd.S_reads' HO12_1.out).1.symm
  replace HB := Aside0.mk ho1_
  clear hkp ho0_ ho1_
  clear hc1_0 hf1_0 hc1_1 hf1_1 hc6_0 hf6_0 hc6_1 hf6_1 hc9_0 hf9_0 hc9_1 hf9_1 hc13_0 hf13_0 hc13_1 hf13_1
  have hc1_0 : w24_.cell? ⟨gb1_, 0, none⟩ = some (.int .i64 a0_0) := (blk_cell BK1.out 0).trans rfl
  have hf1_0 := blk_frozen BK1.out 0
  have hc1_1 : w24_.cell? ⟨gb1_, 1, none⟩ = some (.slice A0_1 l0_1.length c0_1) := (blk_cell BK1.out 1).trans rfl
  have hf1_1 := blk_frozen BK1.out 1
  have hc6_0 : w24_.cell? ⟨gb6_, 0, none⟩ = some (.int .i64 t5) := (blk_cell BK6.out 0).trans rfl
  have hf6_0 := blk_frozen BK6.out 0
  have hc6_1 : w24_.cell? ⟨gb6_, 1, none⟩ = some (.slice Ao5_1 t6.length co5_1) := (blk_cell BK6.out 1).trans rfl
  have hf6_1 := blk_frozen BK6.out 1
  have hc9_0 : w24_.cell? ⟨gb9_, 0, none⟩ = some (.int .i64 t8) := (blk_cell BK9.out 0).trans rfl
  have hf9_0 := blk_frozen BK9.out 0
  have hc9_1 : w24_.cell? ⟨gb9_, 1, none⟩ = some (.slice Ao8_1 t9.length co8_1) := (blk_cell BK9.out 1).trans rfl
  have hf9_1 := blk_frozen BK9.out 1
  have hc13_0 : w24_.cell? ⟨gb13_, 0, none⟩ = some (.int .i64 t11) := (blk_cell BK13.out 0).trans rfl
  have hf13_0 := blk_frozen BK13.out 0
  have hc13_1 : w24_.cell? ⟨gb13_, 1, none⟩ = some (.slice Ao12_1 t12.length co12_1) := (blk_cell BK13.out 1).trans rfl
  have hf13_1 := blk_frozen BK13.out 1
  go_wp2_with fail
  refine (calls_cast (by rw [LQHO12_1.out]) (laws_heldReceiver.calls k t11 _ _ t26 1 t25 _ (Kd.S_reads' HO12_1.out).2.2 (by rw [LQHO12_1.out]; exact (Kd.S_reads' HO12_1.out).2.1) A25.out)).mono ?_
  rintro e w25_ ⟨rfl, hb⟩
  have hs25 := Aside0.mk hb.size
  replace HO3_1 := Aside0.mk (Kd.S_below HO3_1.out hb)
  replace HO4_0 := Aside0.mk (Kd.R_below HO4_0.out hb)
  replace HO5_1 := Aside0.mk (Kd.N_below HO5_1.out hb)
  replace HO8_1 := Aside0.mk (Kd.S_below HO8_1.out hb)
  replace HO11_0 := Aside0.mk (Kd.R_below HO11_0.out hb)
  replace HO12_1 := Aside0.mk (Kd.S_below HO12_1.out hb)
  replace HO17_1 := Aside0.mk (Kd.S_below HO17_1.out hb)
  replace HO19_0 := Aside0.mk (Kd.R_below HO19_0.out hb)
  replace BK1 := Aside0.mk (blk_below BK1.out hb)
  replace BK6 := Aside0.mk (blk_below BK6.out hb)
  replace BK9 := Aside0.mk (blk_below BK9.out hb)
  replace BK13 := Aside0.mk (blk_below BK13.out hb)
  replace HB := Aside0.mk (below_then HB.out HB.out.size hb)
  clear hb 
  clear hc1_0 hf1_0 hc1_1 hf1_1 hc6_0 hf6_0 hc6_1 hf6_1 hc9_0 hf9_0 hc9_1 hf9_1 hc13_0 hf13_0 hc13_1 hf13_1
  have hc1_0 : w25_.cell? ⟨gb1_, 0, none⟩ = some (.int .i64 a0_0) := (blk_cell BK1.out 0).trans rfl
  have hf1_0 := blk_frozen BK1.out 0
  have hc1_1 : w25_.cell? ⟨gb1_, 1, none⟩ = some (.slice A0_1 l0_1.length c0_1) := (blk_cell BK1.out 1).trans rfl
  have hf1_1 := blk_frozen BK1.out 1
  have hc6_0 : w25_.cell? ⟨gb6_, 0, none⟩ = some (.int .i64 t5) := (blk_cell BK6.out 0).trans rfl
  have hf6_0 := blk_frozen BK6.out 0
  have hc6_1 : w25_.cell? ⟨gb6_, 1, none⟩ = some (.slice Ao5_1 t6.length co5_1) := (blk_cell BK6.out 1).trans rfl
  have hf6_1 := blk_frozen BK6.out 1
  have hc9_0 : w25_.cell? ⟨gb9_, 0, none⟩ = some (.int .i64 t8) := (blk_cell BK9.out 0).trans rfl
  have hf9_0 := blk_frozen BK9.out 0
  have hc9_1 : w25_.cell? ⟨gb9_, 1, none⟩ = some (.slice Ao8_1 t9.length co8_1) := (blk_cell BK9.out 1).trans rfl
  have hf9_1 := blk_frozen BK9.out 1
  have hc13_0 : w25_.cell? ⟨gb13_, 0, none⟩ = some (.int .i64 t11) := (blk_cell BK13.out 0).trans rfl
  have hf13_0 := blk_frozen BK13.out 0
  have hc13_1 : w25_.cell? ⟨gb13_, 1, none⟩ = some (.slice Ao12_1 t12.length co12_1) := (blk_cell BK13.out 1).trans rfl
  have hf13_1 := blk_frozen BK13.out 1
  go_wp2_with fail
  (with_reducible refine (laws_toReceiver.calls k a0_0 _ _ l0_1 t28 t29 _ (Kd.C_below HR0_1.out HB.out) HC0_1.out A26.out).mono ?_)
  rintro e w26_ ⟨v1_, rfl, ho0_, hb⟩
  have hs26 := Aside0.mk hb.size
  replace HO3_1 := Aside0.mk (Kd.S_below HO3_1.out hb)
  replace HO4_0 := Aside0.mk (Kd.R_below HO4_0.out hb)
  replace HO5_1 := Aside0.mk (Kd.N_below HO5_1.out hb)
  replace HO8_1 := Aside0.mk (Kd.S_below HO8_1.out hb)
  replace HO11_0 := Aside0.mk (Kd.R_below HO11_0.out hb)
  replace HO12_1 := Aside0.mk (Kd.S_below HO12_1.out hb)
  replace HO17_1 := Aside0.mk (Kd.S_below HO17_1.out hb)
  replace HO19_0 := Aside0.mk (Kd.R_below HO19_0.out hb)
  replace BK1 := Aside0.mk (blk_below BK1.out hb)
  replace BK6 := Aside0.mk (blk_below BK6.out hb)
  replace BK9 := Aside0.mk (blk_below BK9.out hb)
  replace BK13 := Aside0.mk (blk_below BK13.out hb)
  obtain ⟨Ao26_1, co26_1, ev_⟩ := Kd.S_slice ho0_
  subst ev_
  have HO26_1 := Aside0.mk (Kd.S_lower (Kd.S_mono (ok' := (fun k_ => w25_.heap.size ≤ k_ ∧ k_ < w26_.heap.size)) (Kd.S_bound ho0_) (fun k_ hk_ => ⟨hk_.2.1, hk_.2.2.1⟩)) HB.out.size)
  replace HB := Aside0.mk (below_then HB.out HB.out.size hb)
  clear hb ho0_
  clear hc1_0 hf1_0 hc1_1 hf1_1 hc6_0 hf6_0 hc6_1 hf6_1 hc9_0 hf9_0 hc9_1 hf9_1 hc13_0 hf13_0 hc13_1 hf13_1
  have hc1_0 : w26_.cell? ⟨gb1_, 0, none⟩ = some (.int .i64 a0_0) := (blk_cell BK1.out 0).trans rfl
  have hf1_0 := blk_frozen BK1.out 0
  have hc1_1 : w26_.cell? ⟨gb1_, 1, none⟩ = some (.slice A0_1 l0_1.length c0_1) := (blk_cell BK1.out 1).trans rfl
  have hf1_1 := blk_frozen BK1.out 1
  have hc6_0 : w26_.cell? ⟨gb6_, 0, none⟩ = some (.int .i64 t5) := (blk_cell BK6.out 0).trans rfl
  have hf6_0 := blk_frozen BK6.out 0
  have hc6_1 : w26_.cell? ⟨gb6_, 1, none⟩ = some (.slice Ao5_1 t6.length co5_1) := (blk_cell BK6.out 1).trans rfl
  have hf6_1 := blk_frozen BK6.out 1
  have hc9_0 : w26_.cell? ⟨gb9_, 0, none⟩ = some (.int .i64 t8) := (blk_cell BK9.out 0).trans rfl
  have hf9_0 := blk_frozen BK9.out 0
  have hc9_1 : w26_.cell? ⟨gb9_, 1, none⟩ = some (.slice Ao8_1 t9.length co8_1) := (blk_cell BK9.out 1).trans rfl
  have hf9_1 := blk_frozen BK9.out 1
  have hc13_0 : w26_.cell? ⟨gb13_, 0, none⟩ = some (.int .i64 t11) := (blk_cell BK13.out 0).trans rfl
  have hf13_0 := blk_frozen BK13.out 0
  have hc13_1 : w26_.cell? ⟨gb13_, 1, none⟩ = some (.slice Ao12_1 t12.length co12_1) := (blk_cell BK13.out 1).trans rfl
  have hf13_1 := blk_frozen BK13.out 1
  go_wp2_with fail
  (with_reducible refine (laws_toIntS.calls k _ _ l1 t30 _ (Kd.C_below HR1.out HB.out) HC1.out A27.out).mono ?_)
  rintro e w27_ ⟨v0_, rfl, ho0_, hb⟩
  have hs27 := Aside0.mk hb.size
  replace HO3_1 := Aside0.mk (Kd.S_below HO3_1.out hb)
  replace HO4_0 := Aside0.mk (Kd.R_below HO4_0.out hb)
  replace HO5_1 := Aside0.mk (Kd.N_below HO5_1.out hb)
  replace HO8_1 := Aside0.mk (Kd.S_below HO8_1.out hb)
  replace HO11_0 := Aside0.mk (Kd.R_below HO11_0.out hb)
  replace HO12_1 := Aside0.mk (Kd.S_below HO12_1.out hb)
  replace HO17_1 := Aside0.mk (Kd.S_below HO17_1.out hb)
  replace HO19_0 := Aside0.mk (Kd.R_below HO19_0.out hb)
  replace HO26_1 := Aside0.mk (Kd.S_below HO26_1.out hb)
  replace BK1 := Aside0.mk (blk_below BK1.out hb)
  replace BK6 := Aside0.mk (blk_below BK6.out hb)
  replace BK9 := Aside0.mk (blk_below BK9.out hb)
  replace BK13 := Aside0.mk (blk_below BK13.out hb)
  obtain ⟨Ao27_0, co27_0, ev_⟩ := Kd.R_slice ho0_
  subst ev_
  have HO27_0 := Aside0.mk (Kd.R_lower (Kd.R_mono (ok' := (fun k_ => w26_.heap.size ≤ k_ ∧ k_ < w27_.heap.size)) (Kd.R_bound ho0_) (fun k_ hk_ => ⟨hk_.2.1, hk_.2.2.1⟩)) HB.out.size)
  replace HB := Aside0.mk (below_then HB.out HB.out.size hb)
  clear hb ho0_
  clear hc1_0 hf1_0 hc1_1 hf1_1 hc6_0 hf6_0 hc6_1 hf6_1 hc9_0 hf9_0 hc9_1 hf9_1 hc13_0 hf13_0 hc13_1 hf13_1
  have hc1_0 : w27_.cell? ⟨gb1_, 0, none⟩ = some (.int .i64 a0_0) := (blk_cell BK1.out 0).trans rfl
  have hf1_0 := blk_frozen BK1.out 0
  have hc1_1 : w27_.cell? ⟨gb1_, 1, none⟩ = some (.slice A0_1 l0_1.length c0_1) := (blk_cell BK1.out 1).trans rfl
  have hf1_1 := blk_frozen BK1.out 1
  have hc6_0 : w27_.cell? ⟨gb6_, 0, none⟩ = some (.int .i64 t5) := (blk_cell BK6.out 0).trans rfl
  have hf6_0 := blk_frozen BK6.out 0
  have hc6_1 : w27_.cell? ⟨gb6_, 1, none⟩ = some (.slice Ao5_1 t6.length co5_1) := (blk_cell BK6.out 1).trans rfl
  have hf6_1 := blk_frozen BK6.out 1
  have hc9_0 : w27_.cell? ⟨gb9_, 0, none⟩ = some (.int .i64 t8) := (blk_cell BK9.out 0).trans rfl
  have hf9_0 := blk_frozen BK9.out 0
  have hc9_1 : w27_.cell? ⟨gb9_, 1, none⟩ = some (.slice Ao8_1 t9.length co8_1) := (blk_cell BK9.out 1).trans rfl
  have hf9_1 := blk_frozen BK9.out 1
  have hc13_0 : w27_.cell? ⟨gb13_, 0, none⟩ = some (.int .i64 t11) := (blk_cell BK13.out 0).trans rfl
  have hf13_0 := blk_frozen BK13.out 0
  have hc13_1 : w27_.cell? ⟨gb13_, 1, none⟩ = some (.slice Ao12_1 t12.length co12_1) := (blk_cell BK13.out 1).trans rfl
  have hf13_1 := blk_frozen BK13.out 1
  go_wp2_with fail
  (with_reducible refine (impl_TakeFrame.calls k t28 _ _ t29 _ _ t30 t31 t32 t7 _ (Kd.S_reads' HO26_1.out).2.2 (Kd.S_reads' HO26_1.out).2.1 (Kd.R_reads' HO27_0.out).2.2 (Kd.R_reads' HO27_0.out).2.1 A28.out).mono ?_)
  rintro e w28_ ⟨v1_, rfl, ho0_, hb⟩
  have hs28 := Aside0.mk hb.size
  replace HO3_1 := Aside0.mk (Kd.S_below HO3_1.out hb)
  replace HO4_0 := Aside0.mk (Kd.R_below HO4_0.out hb)
  replace HO5_1 := Aside0.mk (Kd.N_below HO5_1.out hb)
  replace HO8_1 := Aside0.mk (Kd.S_below HO8_1.out hb)
  replace HO11_0 := Aside0.mk (Kd.R_below HO11_0.out hb)
  replace HO12_1 := Aside0.mk (Kd.S_below HO12_1.out hb)
  replace HO17_1 := Aside0.mk (Kd.S_below HO17_1.out hb)
  replace HO19_0 := Aside0.mk (Kd.R_below HO19_0.out hb)
  replace HO26_1 := Aside0.mk (Kd.S_below HO26_1.out hb)
  replace HO27_0 := Aside0.mk (Kd.R_below HO27_0.out hb)
  replace BK1 := Aside0.mk (blk_below BK1.out hb)
  replace BK6 := Aside0.mk (blk_below BK6.out hb)
  replace BK9 := Aside0.mk (blk_below BK9.out hb)
  replace BK13 := Aside0.mk (blk_below BK13.out hb)
  obtain ⟨Ao28_1, co28_1, ev_⟩ := Kd.S_slice ho0_
  subst ev_
  have HO28_1 := Aside0.mk (Kd.S_lower (Kd.S_mono (ok' := (fun k_ => w27_.heap.size ≤ k_ ∧ k_ < w28_.heap.size)) (Kd.S_bound ho0_) (fun k_ hk_ => ⟨hk_.2.1, hk_.2.2.1⟩)) HB.out.size)
  replace HB := Aside0.mk (below_then HB.out HB.out.size hb)
  clear hb ho0_
  clear hc1_0 hf1_0 hc1_1 hf1_1 hc6_0 hf6_0 hc6_1 hf6_1 hc9_0 hf9_0 hc9_1 hf9_1 hc13_0 hf13_0 hc13_1 hf13_1
  have hc1_0 : w28_.cell? ⟨gb1_, 0, none⟩ = some (.int .i64 a0_0) := (blk_cell BK1.out 0).trans rfl
  have hf1_0 := blk_frozen BK1.out 0
  have hc1_1 : w28_.cell? ⟨gb1_, 1, none⟩ = some (.slice A0_1 l0_1.length c0_1) := (blk_cell BK1.out 1).trans rfl
  have hf1_1 := blk_frozen BK1.out 1
  have hc6_0 : w28_.cell? ⟨gb6_, 0, none⟩ = some (.int .i64 t5) := (blk_cell BK6.out 0).trans rfl
  have hf6_0 := blk_frozen BK6.out 0
  have hc6_1 : w28_.cell? ⟨gb6_, 1, none⟩ = some (.slice Ao5_1 t6.length co5_1) := (blk_cell BK6.out 1).trans rfl
  have hf6_1 := blk_frozen BK6.out 1
  have hc9_0 : w28_.cell? ⟨gb9_, 0, none⟩ = some (.int .i64 t8) := (blk_cell BK9.out 0).trans rfl
  have hf9_0 := blk_frozen BK9.out 0
  have hc9_1 : w28_.cell? ⟨gb9_, 1, none⟩ = some (.slice Ao8_1 t9.length co8_1) := (blk_cell BK9.out 1).trans rfl
  have hf9_1 := blk_frozen BK9.out 1
  have hc13_0 : w28_.cell? ⟨gb13_, 0, none⟩ = some (.int .i64 t11) := (blk_cell BK13.out 0).trans rfl
  have hf13_0 := blk_frozen BK13.out 0
  have hc13_1 : w28_.cell? ⟨gb13_, 1, none⟩ = some (.slice Ao12_1 t12.length co12_1) := (blk_cell BK13.out 1).trans rfl
  have hf13_1 := blk_frozen BK13.out 1
  go_wp2_with (first | ((with_reducible refine gate_dst (N := 15) rfl ?_); refine box_event ?hg (N := 15) ?hd (cs := #[.int .i64 0, .slice none 0 0]) (t := 27) ?hr ?_; (case hd => rfl); (case hg => rfl); (case hr => first | (go_simp; done) | (go_simp; rfl)); intro gb29_ hg w29_ hbox hb; have hboxA := Aside0.mk hbox; have hbA := Aside0.mk hb; have hgA := Aside0.mk hg; clear hbox hb hg; have hz_0 : w29_.cell? ⟨gb29_, 0, none⟩ = some (.int .i64 0) := (blk_cell hboxA.out 0).trans rfl; have hy_0 := blk_frozen hboxA.out 0; have hz_1 : w29_.cell? ⟨gb29_, 1, none⟩ = some (.slice none 0 0) := (blk_cell hboxA.out 1).trans rfl; have hy_1 := blk_frozen hboxA.out 1) | ((with_reducible refine gate_store (t := 27) (p := 15) rfl ?_); refine store_event (t := 27) (p := 15) (v := ?vo_30) (w1 := ((w29_.setCell ⟨gb29_, 0, none⟩ (.int .i64 t31)).setCell ⟨gb29_, 1, none⟩ (.slice Ao28_1 t32.length co28_1))) ?hg ?ho ?hn ?hr ?_; (case ho => rfl); (case hg => rfl); (case hn => rfl); (case hr => first | (go_simp; done) | (go_simp; rfl)); intro w30_ hw; have hb : Below w28_.heap.size w28_ w30_ := (by rw [hw]; exact (below_set (below_set hbA.out (Nat.le_of_eq hgA.out.symm)) (Nat.le_of_eq hgA.out.symm))); have hbox : w30_.heap[gb29_]? = some (.cells #[.int .i64 t31, .slice Ao28_1 t32.length co28_1] 27 (0, 0)) := (by rw [hw]; exact (blk_put (cs := #[.int .i64 t31, .slice none 0 0]) (blk_put (cs := #[.int .i64 0, .slice none 0 0]) hboxA.out 0 _ rfl) 1 _ rfl)); have hg := hgA.out; clear hw hbA hboxA hgA hz_0 hy_0 hz_1 hy_1; have hs30 := Aside0.mk hb.size; have GE29 := Aside0.mk (show w28_.heap.size ≤ gb29_ from Nat.le_of_eq hg.symm); have GL29 := Aside0.mk (blk_lt hbox); replace HO3_1 := Aside0.mk (Kd.S_below HO3_1.out hb); replace HO4_0 := Aside0.mk (Kd.R_below HO4_0.out hb); replace HO5_1 := Aside0.mk (Kd.N_below HO5_1.out hb); replace HO8_1 := Aside0.mk (Kd.S_below HO8_1.out hb); replace HO11_0 := Aside0.mk (Kd.R_below HO11_0.out hb); replace HO12_1 := Aside0.mk (Kd.S_below HO12_1.out hb); replace HO17_1 := Aside0.mk (Kd.S_below HO17_1.out hb); replace HO19_0 := Aside0.mk (Kd.R_below HO19_0.out hb); replace HO26_1 := Aside0.mk (Kd.S_below HO26_1.out hb); replace HO27_0 := Aside0.mk (Kd.R_below HO27_0.out hb); replace HO28_1 := Aside0.mk (Kd.S_below HO28_1.out hb); replace BK1 := Aside0.mk (blk_below BK1.out hb); replace BK6 := Aside0.mk (blk_below BK6.out hb); replace BK9 := Aside0.mk (blk_below BK9.out hb); replace BK13 := Aside0.mk (blk_below BK13.out hb); replace HB := Aside0.mk (below_then HB.out HB.out.size hb); have BK29 := Aside0.mk hbox; clear hbox hb hg; clear hc1_0 hf1_0 hc1_1 hf1_1 hc6_0 hf6_0 hc6_1 hf6_1 hc9_0 hf9_0 hc9_1 hf9_1 hc13_0 hf13_0 hc13_1 hf13_1; have hc1_0 : w30_.cell? ⟨gb1_, 0, none⟩ = some (.int .i64 a0_0) := (blk_cell BK1.out 0).trans rfl; have hf1_0 := blk_frozen BK1.out 0; have hc1_1 : w30_.cell? ⟨gb1_, 1, none⟩ = some (.slice A0_1 l0_1.length c0_1) := (blk_cell BK1.out 1).trans rfl; have hf1_1 := blk_frozen BK1.out 1; have hc6_0 : w30_.cell? ⟨gb6_, 0, none⟩ = some (.int .i64 t5) := (blk_cell BK6.out 0).trans rfl; have hf6_0 := blk_frozen BK6.out 0; have hc6_1 : w30_.cell? ⟨gb6_, 1, none⟩ = some (.slice Ao5_1 t6.length co5_1) := (blk_cell BK6.out 1).trans rfl; have hf6_1 := blk_frozen BK6.out 1; have hc9_0 : w30_.cell? ⟨gb9_, 0, none⟩ = some (.int .i64 t8) := (blk_cell BK9.out 0).trans rfl; have hf9_0 := blk_frozen BK9.out 0; have hc9_1 : w30_.cell? ⟨gb9_, 1, none⟩ = some (.slice Ao8_1 t9.length co8_1) := (blk_cell BK9.out 1).trans rfl; have hf9_1 := blk_frozen BK9.out 1; have hc13_0 : w30_.cell? ⟨gb13_, 0, none⟩ = some (.int .i64 t11) := (blk_cell BK13.out 0).trans rfl; have hf13_0 := blk_frozen BK13.out 0; have hc13_1 : w30_.cell? ⟨gb13_, 1, none⟩ = some (.slice Ao12_1 t12.length co12_1) := (blk_cell BK13.out 1).trans rfl; have hf13_1 := blk_frozen BK13.out 1; have hc29_0 : w30_.cell? ⟨gb29_, 0, none⟩ = some (.int .i64 t31) := (blk_cell BK29.out 0).trans rfl; have hf29_0 := blk_frozen BK29.out 0; have hc29_1 : w30_.cell? ⟨gb29_, 1, none⟩ = some (.slice Ao28_1 t32.length co28_1) := (blk_cell BK29.out 1).trans rfl; have hf29_1 := blk_frozen BK29.out 1))
  (with_reducible refine (laws_eqReceiver.calls k t31 _ _ t32 t5 _ _ t6 true _ (Kd.S_reads' HO28_1.out).2.2 (Kd.S_reads' HO28_1.out).2.1 (Kd.N_reads' HO5_1.out).2.2 (Kd.N_reads' HO5_1.out).2.1 A31.out).mono ?_)
  rintro e w31_ ⟨rfl, hb⟩
  have hs31 := Aside0.mk hb.size
  replace HO3_1 := Aside0.mk (Kd.S_below HO3_1.out hb)
  replace HO4_0 := Aside0.mk (Kd.R_below HO4_0.out hb)
  replace HO5_1 := Aside0.mk (Kd.N_below HO5_1.out hb)
  replace HO8_1 := Aside0.mk (Kd.S_below HO8_1.out hb)
  replace HO11_0 := Aside0.mk (Kd.R_below HO11_0.out hb)
  replace HO12_1 := Aside0.mk (Kd.S_below HO12_1.out hb)
  replace HO17_1 := Aside0.mk (Kd.S_below HO17_1.out hb)
  replace HO19_0 := Aside0.mk (Kd.R_below HO19_0.out hb)
  replace HO26_1 := Aside0.mk (Kd.S_below HO26_1.out hb)
  replace HO27_0 := Aside0.mk (Kd.R_below HO27_0.out hb)
  replace HO28_1 := Aside0.mk (Kd.S_below HO28_1.out hb)
  replace BK1 := Aside0.mk (blk_below BK1.out hb)
  replace BK6 := Aside0.mk (blk_below BK6.out hb)
  replace BK9 := Aside0.mk (blk_below BK9.out hb)
  replace BK13 := Aside0.mk (blk_below BK13.out hb)
  replace BK29 := Aside0.mk (blk_below BK29.out hb)
  replace HB := Aside0.mk (below_then HB.out HB.out.size hb)
  clear hb 
  clear hc1_0 hf1_0 hc1_1 hf1_1 hc6_0 hf6_0 hc6_1 hf6_1 hc9_0 hf9_0 hc9_1 hf9_1 hc13_0 hf13_0 hc13_1 hf13_1 hc29_0 hf29_0 hc29_1 hf29_1
  have hc1_0 : w31_.cell? ⟨gb1_, 0, none⟩ = some (.int .i64 a0_0) := (blk_cell BK1.out 0).trans rfl
  have hf1_0 := blk_frozen BK1.out 0
  have hc1_1 : w31_.cell? ⟨gb1_, 1, none⟩ = some (.slice A0_1 l0_1.length c0_1) := (blk_cell BK1.out 1).trans rfl
  have hf1_1 := blk_frozen BK1.out 1
  have hc6_0 : w31_.cell? ⟨gb6_, 0, none⟩ = some (.int .i64 t5) := (blk_cell BK6.out 0).trans rfl
  have hf6_0 := blk_frozen BK6.out 0
  have hc6_1 : w31_.cell? ⟨gb6_, 1, none⟩ = some (.slice Ao5_1 t6.length co5_1) := (blk_cell BK6.out 1).trans rfl
  have hf6_1 := blk_frozen BK6.out 1
  have hc9_0 : w31_.cell? ⟨gb9_, 0, none⟩ = some (.int .i64 t8) := (blk_cell BK9.out 0).trans rfl
  have hf9_0 := blk_frozen BK9.out 0
  have hc9_1 : w31_.cell? ⟨gb9_, 1, none⟩ = some (.slice Ao8_1 t9.length co8_1) := (blk_cell BK9.out 1).trans rfl
  have hf9_1 := blk_frozen BK9.out 1
  have hc13_0 : w31_.cell? ⟨gb13_, 0, none⟩ = some (.int .i64 t11) := (blk_cell BK13.out 0).trans rfl
  have hf13_0 := blk_frozen BK13.out 0
  have hc13_1 : w31_.cell? ⟨gb13_, 1, none⟩ = some (.slice Ao12_1 t12.length co12_1) := (blk_cell BK13.out 1).trans rfl
  have hf13_1 := blk_frozen BK13.out 1
  have hc29_0 : w31_.cell? ⟨gb29_, 0, none⟩ = some (.int .i64 t31) := (blk_cell BK29.out 0).trans rfl
  have hf29_0 := blk_frozen BK29.out 0
  have hc29_1 : w31_.cell? ⟨gb29_, 1, none⟩ = some (.slice Ao28_1 t32.length co28_1) := (blk_cell BK29.out 1).trans rfl
  have hf29_1 := blk_frozen BK29.out 1
  go_wp2_with fail
  refine (calls_cast (by rw [LQHO12_1.out]) (laws_heldReceiver.calls k t11 _ _ t26 1 t25 _ (Kd.S_reads' HO12_1.out).2.2 (by rw [LQHO12_1.out]; exact (Kd.S_reads' HO12_1.out).2.1) A32.out)).mono ?_
  rintro e w32_ ⟨rfl, hb⟩
  have hs32 := Aside0.mk hb.size
  replace HO3_1 := Aside0.mk (Kd.S_below HO3_1.out hb)
  replace HO4_0 := Aside0.mk (Kd.R_below HO4_0.out hb)
  replace HO5_1 := Aside0.mk (Kd.N_below HO5_1.out hb)
  replace HO8_1 := Aside0.mk (Kd.S_below HO8_1.out hb)
  replace HO11_0 := Aside0.mk (Kd.R_below HO11_0.out hb)
  replace HO12_1 := Aside0.mk (Kd.S_below HO12_1.out hb)
  replace HO17_1 := Aside0.mk (Kd.S_below HO17_1.out hb)
  replace HO19_0 := Aside0.mk (Kd.R_below HO19_0.out hb)
  replace HO26_1 := Aside0.mk (Kd.S_below HO26_1.out hb)
  replace HO27_0 := Aside0.mk (Kd.R_below HO27_0.out hb)
  replace HO28_1 := Aside0.mk (Kd.S_below HO28_1.out hb)
  replace BK1 := Aside0.mk (blk_below BK1.out hb)
  replace BK6 := Aside0.mk (blk_below BK6.out hb)
  replace BK9 := Aside0.mk (blk_below BK9.out hb)
  replace BK13 := Aside0.mk (blk_below BK13.out hb)
  replace BK29 := Aside0.mk (blk_below BK29.out hb)
  replace HB := Aside0.mk (below_then HB.out HB.out.size hb)
  clear hb 
  clear hc1_0 hf1_0 hc1_1 hf1_1 hc6_0 hf6_0 hc6_1 hf6_1 hc9_0 hf9_0 hc9_1 hf9_1 hc13_0 hf13_0 hc13_1 hf13_1 hc29_0 hf29_0 hc29_1 hf29_1
  have hc1_0 : w32_.cell? ⟨gb1_, 0, none⟩ = some (.int .i64 a0_0) := (blk_cell BK1.out 0).trans rfl
  have hf1_0 := blk_frozen BK1.out 0
  have hc1_1 : w32_.cell? ⟨gb1_, 1, none⟩ = some (.slice A0_1 l0_1.length c0_1) := (blk_cell BK1.out 1).trans rfl
  have hf1_1 := blk_frozen BK1.out 1
  have hc6_0 : w32_.cell? ⟨gb6_, 0, none⟩ = some (.int .i64 t5) := (blk_cell BK6.out 0).trans rfl
  have hf6_0 := blk_frozen BK6.out 0
  have hc6_1 : w32_.cell? ⟨gb6_, 1, none⟩ = some (.slice Ao5_1 t6.length co5_1) := (blk_cell BK6.out 1).trans rfl
  have hf6_1 := blk_frozen BK6.out 1
  have hc9_0 : w32_.cell? ⟨gb9_, 0, none⟩ = some (.int .i64 t8) := (blk_cell BK9.out 0).trans rfl
  have hf9_0 := blk_frozen BK9.out 0
  have hc9_1 : w32_.cell? ⟨gb9_, 1, none⟩ = some (.slice Ao8_1 t9.length co8_1) := (blk_cell BK9.out 1).trans rfl
  have hf9_1 := blk_frozen BK9.out 1
  have hc13_0 : w32_.cell? ⟨gb13_, 0, none⟩ = some (.int .i64 t11) := (blk_cell BK13.out 0).trans rfl
  have hf13_0 := blk_frozen BK13.out 0
  have hc13_1 : w32_.cell? ⟨gb13_, 1, none⟩ = some (.slice Ao12_1 t12.length co12_1) := (blk_cell BK13.out 1).trans rfl
  have hf13_1 := blk_frozen BK13.out 1
  have hc29_0 : w32_.cell? ⟨gb29_, 0, none⟩ = some (.int .i64 t31) := (blk_cell BK29.out 0).trans rfl
  have hf29_0 := blk_frozen BK29.out 0
  have hc29_1 : w32_.cell? ⟨gb29_, 1, none⟩ = some (.slice Ao28_1 t32.length co28_1) := (blk_cell BK29.out 1).trans rfl
  have hf29_1 := blk_frozen BK29.out 1
  go_wp2
  go_ret
  exact ⟨rfl, HB.out⟩


/-- THE ONE PURE STATEMENT of laws_FnExactTakeFrame. -/
def laws_FnExactTakeFrame.Pure : Prop := ∀ (a0_0 : Int) (l0_1 : List (List Int)) (l1 : List Int), ((Lit.int .i64 a0_0).wf = true) → (l0_1.length ≤ 9223372036854775807 ∧ ∀ e331 ∈ l0_1, e331.length ≤ 9223372036854775807 ∧ ∀ e332 ∈ e331, (Lit.int .i64 e332).wf = true) → (l1.length ≤ 9223372036854775807 ∧ ∀ e333 ∈ l1, (Lit.int .i64 e333).wf = true) → ∃ k, laws_FnExactTakeFrame.f k a0_0 l0_1 l1 = some true

end Go.Proofs.Ytnonmppmiagmiaa.PFnExactTakeFrame
