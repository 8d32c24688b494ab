-- Written by a program of this session (wip/xp): not trusted, Lean checks it.
import Derived.Test.YtflopendlbciaaaPFnLinkOncex0
import Derived.Test.YtflopendlbciaaaPFnLinkOncex1
import Derived.Test.YtflopendlbciaaaPFnLinkOncex2
import Derived.Test.YtflopendlbciaaaPFnLinkOncex4
import Derived.Test.YtflopendlbciaaaPFnLinkOncex5
import Derived.Test.YtflopendlbciaaaPFnLinkOncex6
namespace Go.Proofs.Ytflopendlbciaaa.PFnLinkOnce
open Go.RowKit Go.Proofs.YtflopendlbciaaaW.PrintWords Go.Proofs.YtflopendlbciaaaW.PrintLast Go.Proofs.YtflopendlbciaaaW.PrintMore
attribute [local go_sem] max2_int min2_int max_two min_two max_three min_three max_four min_four   -- for this text's walks alone
set_option linter.unusedVariables false
set_option linter.unusedSimpArgs false

/-! ### impl_Replay: function 36, its calls in a row -/
def impl_Replay.f (k : Nat) (a0_0 : Int) (l0_1 : List (S68)) (a0_2 : Int) : Option ((Int) × (List (S68)) × (Int)) := ((impl_copySender.f k a0_0 l0_1 a0_2).bind fun ⟨t1, t2, t3⟩ => ((impl_SenderOk.f k a0_0 l0_1 a0_2).bind fun t4 => (if t4 = true then (some (t1, t2, 0)) else (some (t1, t2, t3)))))
set_option maxHeartbeats 8000000 in
set_option maxRecDepth 100000 in
theorem impl_Replay.calls (k : Nat) (a0_0 : Int) (A0_1 : Option Addr) (c0_1 : Nat) (l0_1 : List (S68)) (a0_2 : Int) (r1 : Int) (r2 : List (S68)) (r3 : Int) (w : World) (hr0_1 : Kd.C k68 w A0_1 l0_1.length l0_1) (hc0_1 : l0_1.length ≤ c0_1) (h : impl_Replay.f k a0_0 l0_1 a0_2 = some (r1, r2, r3)) :
  Calls Try.prog 36 #[.agg #[.int .i64 a0_0, .slice A0_1 l0_1.length c0_1, .int .i64 a0_2]] w fun e w' => ∃ f_ : Nat → Nat, ∃ v0_ : Value, e = .returned (.agg #[.int .i64 r1, v0_, .int .i64 r3]) ∧ Kd.S k68 68 w' w.heap.size (fun k_ => f_ k_ = 0) v0_ r2 ∧ Below w.heap.size w w' := by
 have HR0_1 := A_.mk hr0_1
 have HC0_1 := A_.mk hc0_1
 clear hr0_1 hc0_1
 have HB := A_.mk (Below.refl w.heap.size w)
 unfold impl_Replay.f at h
 have H := h
 clear h
 replace H := oa_ H
 obtain ⟨⟨t1, t2, t3⟩, A3, H⟩ := H
 try dsimp only at H
 replace H := oa_ H
 obtain ⟨t4, A6, H⟩ := H
 replace H := A_.mk H
 have hu28 := Try.underlying28
 go_enter Try.func36, Try.ntmps36
 have HS := A_.mk (Nat.le_refl w.heap.size)
 go_wp2_with (first | ((with_reducible refine gd_ (N := 1) rfl ?_); refine by_ 1 (cs := #[.int .i64 a0_0, .slice A0_1 l0_1.length c0_1, .int .i64 a0_2]) (t := 28) ?_; intro gb1_ hg w1_ hbox hb; replace HS := A_.mk (And.intro HS.out (show gb1_ = w.heap.size ∧ gb1_ < w1_.heap.size from ⟨hg, blk_lt hbox⟩)); replace HB := aHB HB hb; have BK1 := A_.mk hbox; clear hbox hb hg; have Q1 := blk3_ BK1.out) | ((with_reducible refine gd_ (N := 2) rfl ?_); refine by_ 2 (cs := #[.int .i64 0, .slice none 0 0, .int .i64 0]) (t := 28) ?_; intro gb2_ hg w2_ hbox hb; replace HS := A_.mk (And.intro HS.out (show gb2_ = w1_.heap.size ∧ gb2_ < w2_.heap.size from ⟨hg, blk_lt hbox⟩)); replace BK1 := aBb BK1 hb; replace HB := aHB HB hb; have BK2 := A_.mk hbox; clear hbox hb hg Q1; have Q1 := blk3_ BK1.out; have Q2 := blk3_ BK2.out) | ((with_reducible refine gc_ (f := 21) rfl ?_); refine gl_ (some 5) Try.func21 #[.agg #[.int .i64 a0_0, .slice A0_1 l0_1.length c0_1, .int .i64 a0_2]] ?_; (with_reducible refine (impl_copySender.calls k a0_0 _ _ l0_1 a0_2 t1 t2 t3 _ (Kd.C_below HR0_1.out HB.out) HC0_1.out A3.out).mono ?_); rintro e w3_ ⟨v1_, rfl, ho0_, hb⟩; refine ⟨_, rfl, ?_⟩; replace HS := aHs HS hb.size; obtain ⟨Ao3_1, co3_1, ev_⟩ := Kd.S_slice ho0_; subst ev_; have HO3_1 := aSm ho0_ HB.out.size; replace BK1 := aBb BK1 hb; replace BK2 := aBb BK2 hb; replace HB := aHB HB hb; clear hb ho0_ Q1 Q2; have Q1 := blk3_ BK1.out; have Q2 := blk3_ BK2.out) | ((with_reducible refine gd_ (N := 3) rfl ?_); refine by_ 3 (cs := #[.int .i64 0, .slice none 0 0, .int .i64 0]) (t := 28) ?_; intro gb4_ hg w4_ hbox hb; replace HS := A_.mk (And.intro HS.out (show gb4_ = w3_.heap.size ∧ gb4_ < w4_.heap.size from ⟨hg, blk_lt hbox⟩)); replace HO3_1 := aSb HO3_1 hb; replace BK1 := aBb BK1 hb; replace BK2 := aBb BK2 hb; replace HB := aHB HB hb; have BK4 := A_.mk hbox; clear hbox hb hg Q1 Q2; have Q1 := blk3_ BK1.out; have Q2 := blk3_ BK2.out; have Q4 := blk3_ BK4.out) | ((with_reducible refine gate_store (t := 28) (p := 3) rfl ?_); have qf0 := bf_ BK4.out 0; have qf1 := bf_ BK4.out 1; have qf2 := bf_ BK4.out 2; refine se_ (t := 28) (p := 3) (v := ?vo_5) (w1 := (ch3_ w4_ gb4_ (.int .i64 t1) (.slice Ao3_1 t2.length co3_1) (.int .i64 t3))) ?hg ?ho ?hn ?hr ?_; (case ho => rfl); (case hg => rfl); (case hn => rfl); (case hr => first | (go_simp; done) | (go_simp; rfl)); intro w5_ hw; clear qf0 qf1 qf2; obtain ⟨hbx, hkp, hbb⟩ := st3_ hw BK4 HB (by have := HS.out; omega); clear hw; replace HO3_1 := aSk HO3_1 hkp HS; replace BK1 := aBk BK1 hkp HS; replace BK2 := aBk BK2 hkp HS; replace BK4 := A_.mk hbx; replace HB := A_.mk hbb; replace HS := aHs HS hkp.1; clear hkp hbb hbx Q1 Q2 Q4; have Q1 := blk3_ BK1.out; have Q2 := blk3_ BK2.out; have Q4 := blk3_ BK4.out))
 (with_reducible refine (impl_SenderOk.calls k a0_0 _ _ l0_1 a0_2 t4 _ (Kd.C_below HR0_1.out HB.out) HC0_1.out A6.out).mono ?_)
 rintro e w6_ ⟨rfl, hb⟩
 replace HS := aHs HS hb.size
 replace HO3_1 := aSb HO3_1 hb
 replace BK1 := aBb BK1 hb
 replace BK2 := aBb BK2 hb
 replace BK4 := aBb BK4 hb
 replace HB := aHB HB hb
 clear hb  Q1 Q2 Q4
 have Q1 := blk3_ BK1.out
 have Q2 := blk3_ BK2.out
 have Q4 := blk3_ BK4.out
 replace H := H.out
 by_cases hc1_ : t4 = true
 case pos =>
  rw [if_pos hc1_] at H
  subst hc1_
  simp only [Option.some.injEq, Prod.mk.injEq] at H
  obtain ⟨rfl, rfl, rfl⟩ := H
  go_wp2_with (first | ((with_reducible refine gate_store (t := 3) (p := 8) rfl ?_); have qf0 := bf_ BK4.out 2; refine se_ (t := 3) (p := 8) (v := ?vo_7) (w1 := (w6_.setCell ⟨gb4_, 2, none⟩ (.int .i64 0))) ?hg ?ho ?hn ?hr ?_; (case ho => rfl); (case hg => rfl); (case hn => rfl); (case hr => first | (go_simp; done) | (go_simp; rfl)); intro w7_ hw; clear qf0; have hge : w.heap.size ≤ gb4_ := (by have := HS.out; omega); have hkp : Kept w6_ w7_ (fun k_ => k_ = gb4_) := (by rw [hw]; exact (Kept.of_set (Kept.refl _ _) _ _)); have hbb : Below w.heap.size w w7_ := (by rw [hw]; exact (bs_ HB.out hge)); have hbx : w7_.heap[gb4_]? = some (.cells #[.int .i64 t1, .slice Ao3_1 t2.length co3_1, .int .i64 0] 28 (0, 0)) := (by rw [hw]; exact (bp_ (cs := #[.int .i64 t1, .slice Ao3_1 t2.length co3_1, .int .i64 t3]) BK4.out 2 _ rfl)); clear hw; replace HO3_1 := aSk HO3_1 hkp HS; replace BK1 := aBk BK1 hkp HS; replace BK2 := aBk BK2 hkp HS; replace BK4 := A_.mk hbx; replace HB := A_.mk hbb; replace HS := aHs HS hkp.1; clear hkp hbb hbx hge Q1 Q2 Q4; have Q1 := blk3_ BK1.out; have Q2 := blk3_ BK2.out; have Q4 := blk3_ BK4.out) | ((with_reducible refine gate_store (t := 28) (p := 2) rfl ?_); have qf0 := bf_ BK2.out 0; have qf1 := bf_ BK2.out 1; have qf2 := bf_ BK2.out 2; refine se_ (t := 28) (p := 2) (v := ?vo_8) (w1 := (ch3_ w7_ gb2_ (.int .i64 t1) (.slice Ao3_1 t2.length co3_1) (.int .i64 0))) ?hg ?ho ?hn ?hr ?_; (case ho => rfl); (case hg => rfl); (case hn => rfl); (case hr => first | (go_simp; done) | (go_simp; rfl)); intro w8_ hw; clear qf0 qf1 qf2; obtain ⟨hbx, hkp, hbb⟩ := st3_ hw BK2 HB (by have := HS.out; omega); clear hw; replace HO3_1 := aSk HO3_1 hkp HS; replace BK1 := aBk BK1 hkp HS; replace BK4 := aBk BK4 hkp HS; replace BK2 := A_.mk hbx; replace HB := A_.mk hbb; replace HS := aHs HS hkp.1; clear hkp hbb hbx Q1 Q2 Q4; have Q1 := blk3_ BK1.out; have Q2 := blk3_ BK2.out; have Q4 := blk3_ BK4.out))
  refine bodyPost_ret (results_cell_row rfl _ _ gb2_ 28 #[.int .i64 t1, .slice Ao3_1 t2.length co3_1, .int .i64 0] (0, 0) _ rfl BK2.out Try.underlying28 rfl (by kernel_rfl)) rfl ?_
  obtain ⟨f_, hf_⟩ : ∃ f_ : Nat → Nat, ∀ k_, f_ k_ = (if ((w2_.heap.size ≤ k_ ∧ k_ < w3_.heap.size)) then 0 else 0) := ⟨fun k_ => (if ((w2_.heap.size ≤ k_ ∧ k_ < w3_.heap.size)) then 0 else 0), fun _ => rfl⟩
  have hcol0_ : ∀ k_, (((w2_.heap.size ≤ k_ ∧ k_ < w3_.heap.size))) → f_ k_ = 0 := fun k_ hk_ => by rw [hf_]; have := HS.out; repeat' (first | omega | split)
  exact ⟨f_, _, rfl, Kd.S_mono HO3_1.out hcol0_, HB.out⟩
 rw [if_neg hc1_] at H
 replace hc1_ := eq_false_of_ne_true hc1_
 subst hc1_
 simp only [Option.some.injEq, Prod.mk.injEq] at H
 obtain ⟨rfl, rfl, rfl⟩ := H
 go_wp2_with (first | ((with_reducible refine gate_store (t := 28) (p := 2) rfl ?_); have qf0 := bf_ BK2.out 0; have qf1 := bf_ BK2.out 1; have qf2 := bf_ BK2.out 2; refine se_ (t := 28) (p := 2) (v := ?vo_9) (w1 := (ch3_ w6_ gb2_ (.int .i64 t1) (.slice Ao3_1 t2.length co3_1) (.int .i64 t3))) ?hg ?ho ?hn ?hr ?_; (case ho => rfl); (case hg => rfl); (case hn => rfl); (case hr => first | (go_simp; done) | (go_simp; rfl)); intro w9_ hw; clear qf0 qf1 qf2; obtain ⟨hbx, hkp, hbb⟩ := st3_ hw BK2 HB (by have := HS.out; omega); clear hw; replace HO3_1 := aSk HO3_1 hkp HS; replace BK1 := aBk BK1 hkp HS; replace BK4 := aBk BK4 hkp HS; replace BK2 := A_.mk hbx; replace HB := A_.mk hbb; replace HS := aHs HS hkp.1; clear hkp hbb hbx Q1 Q2 Q4; have Q1 := blk3_ BK1.out; have Q2 := blk3_ BK2.out; have Q4 := blk3_ BK4.out))
 refine bodyPost_ret (results_cell_row rfl _ _ gb2_ 28 #[.int .i64 t1, .slice Ao3_1 t2.length co3_1, .int .i64 t3] (0, 0) _ rfl BK2.out Try.underlying28 rfl (by kernel_rfl)) rfl ?_
 obtain ⟨f_, hf_⟩ : ∃ f_ : Nat → Nat, ∀ k_, f_ k_ = (if ((w2_.heap.size ≤ k_ ∧ k_ < w3_.heap.size)) then 0 else 0) := ⟨fun k_ => (if ((w2_.heap.size ≤ k_ ∧ k_ < w3_.heap.size)) then 0 else 0), fun _ => rfl⟩
 have hcol0_ : ∀ k_, (((w2_.heap.size ≤ k_ ∧ k_ < w3_.heap.size))) → f_ k_ = 0 := fun k_ hk_ => by rw [hf_]; have := HS.out; repeat' (first | omega | split)
 exact ⟨f_, _, rfl, Kd.S_mono HO3_1.out hcol0_, HB.out⟩
/-! ### slices_Delete_3: function 41 (one element), told by hand -/
set_option maxHeartbeats 8000000 in
set_option maxRecDepth 100000 in
theorem slices_Delete_3.calls (P0_ : Nat → Prop) (g n c : Nat) (l0 : List Int) (i : Int) (w0 w : World) (hB : Below w0.heap.size w0 w) (ho : Kd.R (Kd.int .i64) 3 w w0.heap.size P0_ (.slice (some ⟨g, 0, none⟩) n c) l0) (h0 : 0 ≤ i) (h1 : i < (n : Int)) :
  Calls Try.prog 41 #[.slice (some ⟨g, 0, none⟩) n c, .int .i64 i, .int .i64 (wrap64 (i + 1))] w fun e w' => e = .returned (.slice (some ⟨g, 0, none⟩) (n - 1) c) ∧ Kd.R (Kd.int .i64) 3 w' w0.heap.size P0_ (.slice (some ⟨g, 0, none⟩) (n - 1) c) (l0.eraseIdx i.toNat) ∧ Below w0.heap.size w0 w' ∧ Kept w w' (fun k_ => k_ = g) := by
 obtain ⟨m, rfl⟩ : ∃ m : Nat, i = m := ⟨i.toNat, by omega⟩
 have hnc := (Kd.R_reads' ho).2.1
 have hcm : c ≤ 9223372036854775807 := by
  obtain ⟨_, inner, hown, _⟩ := ho
  rcases hown.2 with ⟨hv, _⟩ | ⟨g', cap', cur, hv, _, _, _, hcm, _⟩
  ·cases hv
  ·cases hv; exact hcm
 obtain ⟨p, rfl⟩ : ∃ p, n = p + 1 := ⟨n - 1, by omega⟩
 have hm : m < p + 1 := by omega
 have hm2 : m ≤ p := by omega
 have hw : wrap64 ((m : Int) + 1) = ((m + 1 : Nat) : Int) := by unfold wrap64; omega
 rw [hw]
 have hbase := hB.size
 have HO := A_.mk ho
 have HB := A_.mk hB
 have hne : ¬ m = m + 1 := by omega
 have hc1 : m + 1 ≤ p + 1 := hm
 have hc2 : m ≤ c := by omega
 have hc3 : m + 1 ≤ c := by omega
 have hc4 : m ≤ m + 1 := by omega
 have hc5 : m ≤ p + 1 := by omega
 have hi1 : (0 : Int) ≤ (m : Int) + 1 := by omega
 have hi2 : (m : Int) + 1 ≤ ((p + 1 : Nat) : Int) := by omega
 clear ho hB hw h0 h1
 go_enter Try.func41, Try.ntmps41
 go_wp2_with fail
 refine start_ (n := 8) (S := fun w' => True) (ds := []) #[F, F, F, F, F, F, F, F] (by kernel_rfl) rfl rfl trivial (fun hHeld => ?_)
 refine pd_ (i := 0) (N := some 20) #[T, F, F, F, F, F, F, F] rfl ?_
 refine pd_ (i := 1) (N := some 21) #[T, T, F, F, F, F, F, F] rfl ?_
 refine pd_ (i := 2) (N := some 22) #[T, T, T, F, F, F, F, F] rfl ?_
 refine pd_ (i := 3) (N := some 23) #[T, T, T, T, F, F, F, F] rfl ?_
 refine pd_ (i := 4) (N := some 24) #[T, T, T, T, T, F, F, F] rfl ?_
 refine pd_ (i := 5) (N := some 25) #[T, T, T, T, T, T, F, F] rfl ?_
 refine on_ (i := 6) (N := some 26) #[T, T, T, T, T, T, T, F] rfl (fun K hK => ?_)
 refine Kd.R_delete_step (Kd.int .i64) w0.heap.size (by rfl) (.tmp 22) (.tmp 25) 32 3 rfl Try.underlying32 (by kernel_rfl) (g := g) (n := p + 1) (c := c) (k := m) (m := p - m) rfl rfl ?hA (by omega) (Kd.R_drew HO.out) hm (below_drew HB.out) hbase ?_
 case hA =>
  by_cases hz : c = m + 1
  ·rw [if_pos hz, if_pos hz]
  rw [if_neg hz, if_neg hz]; show _ = some (Addr.add ⟨g, 0, none⟩ ((m + 1) * 1)); rw [add_at, Nat.zero_add, Nat.mul_one]
 intro w1 ho hb hg
 refine hK.out _ _ trivial (fun hHeld => ?_)
 clear hK K
 refine nm_ ?_
 refine pd_ (i := 7) (N := some 0) #[T, T, T, T, T, T, T, T] rfl ?_
 refine done_ (by kernel_rfl) ?_
 have hpc : p < c := by omega
 rw [Nat.add_sub_cancel] at ho
 obtain ⟨hN2, hg2, hcs, hfr⟩ := R_cleared (Kd.int .i64) ho hpc [.int .i64 0] rfl
 simp only [show ((Kd.int .i64)).sz = 1 from rfl, Nat.mul_one] at hN2 hg2 hcs hfr
 have hcl : ∀ ty, (Builtin.clear_ #[32] ty #[.slice (some ⟨g, p, none⟩) 1 (c - p)]).run Try.prog w1 = .ok (.tuple #[]) (w1.setCells g (p) [.int .i64 0]) :=
  fun ty => run_clear_one w1 32 3 ty (.int .i64 0) Try.underlying32 (fun _ => by kernel_rfl) [.int .i64 0] rfl (by decide) g (p) (c - p) (fun j hj => hcs j hj) (fun j hj => hfr _)
 replace hN2 : Kd.R (Kd.int .i64) 3 (w1.setCells g (p) [.int .i64 0]) w0.heap.size P0_ (.slice (some ⟨g, 0, none⟩) p c) (l0.eraseIdx m) := hN2
 replace hg2 : w1.grownBy (w1.setCells g (p) [.int .i64 0]) (some g) := hg2
 generalize w1.setCells g (p) [.int .i64 0] = W2 at hN2 hg2 hcl
 have HN := A_.mk hN2
 have HG := A_.mk hg
 have HG2 := A_.mk hg2
 have HB2 := A_.mk (hb.grown hg2 (Nat.le_trans hbase hg.size) (fun k hk => by injection hk with hk; subst hk; exact (Kd.R_base ho) _ (by simp [Value.ownBlock])))
 have hp1 : p ≤ c := by omega
 have hp2 : p + 1 ≤ c := by omega
 have hp3 : p ≤ p + 1 := by omega
 have hp4 : ¬ c = p := by omega
 clear hN2 hg hg2 hcs hfr ho hb
 go_wp2
 all_goals (go_ret; first | exact ⟨rfl, HN.out, HB2.out, Kept.of_grown HG2.out (Kept.of_grown HG.out (Kept.drew (Kept.refl w _)) (fun k hk => .inl (by injection hk with hk; exact hk.symm))) (fun k hk => .inl (by injection hk with hk; exact hk.symm))⟩ | (subst h; exact ⟨rfl, HN.out, HB2.out, Kept.of_grown HG2.out (Kept.of_grown HG.out (Kept.drew (Kept.refl w _)) (fun k hk => .inl (by injection hk with hk; exact hk.symm))) (fun k hk => .inl (by injection hk with hk; exact hk.symm))⟩))
/-! ### impl_TakeAck_1: function 57, told by hand: a closure over a number -/
set_option maxHeartbeats 8000000 in
set_option maxRecDepth 100000 in
theorem impl_TakeAck_1.calls (gs : Nat) (s : Int) (a0_0 : Int) (A0_1 : Option Addr) (c0_1 : Nat) (l0_1 : List Int) (w : World) (hbs : w.heap[gs]? = some (.cells #[.int .i64 s] 3 (0, 0))) :
  Calls Try.prog 57 #[.agg #[.int .i64 a0_0, .slice A0_1 l0_1.length c0_1], .pointer (some ⟨gs, 0, none⟩)] w fun e w' => e = .returned (.bool (a0_0 == s)) ∧ Below w.heap.size w w' := by
 have hu68 := Try.underlying68
 have BS := A_.mk hbs
 have HB := A_.mk (Below.refl w.heap.size w)
 clear hbs
 go_enter Try.func57, Try.ntmps57
 go_wp2_with ((with_reducible refine gd_ (N := 2) rfl ?_); refine by_ 2 (cs := #[.int .i64 a0_0, .slice A0_1 l0_1.length c0_1]) (t := 68) ?_; intro gp hg w4_ hbox hb; have BP := A_.mk hbox; replace BS := A_.mk (bb_ BS.out hb); replace HB := A_.mk (below_then HB.out HB.out.size hb); clear hb hbox hg; have q0_ := (bc_ BP.out 0).trans rfl; have q1_ := (bc_ BP.out 1).trans rfl; have q2_ := (bc_ BS.out 0).trans rfl)
 go_ret
 exact ⟨rfl, HB.out⟩

/-! ### slices.IndexFunc (function 56) at that closure -/
def impl_TakeAck_ix.l0 : Nat → List (S68) → Int → Int → Int → Option (Int)
 | 0, _, _, _, _ => none
 | k + 1, x0, s, x7, x8 => if x8 < x7 then (if 0 ≤ x8 then (if x8 < (x0.length : Int) then (if (rd_T68 x0 x8).f0 = s then (some x8) else (impl_TakeAck_ix.l0 k x0 s x7 (wrap64 (x8 + 1)))) else (none)) else (none)) else (some (-1))
def impl_TakeAck_ix.f (k : Nat) (l0 : List (S68)) (s : Int) : Option (Int) := impl_TakeAck_ix.l0 k l0 s (l0.length : Int) 0
set_option maxHeartbeats 8000000 in
set_option maxRecDepth 100000 in
theorem impl_TakeAck_ix.calls (k : Nat) (A0 : Option Addr) (c0 : Nat) (l0 : List (S68)) (gs_ : Nat) (as_ : Int) (r : Int) (w : World) (hr0 : Kd.C k68 w A0 l0.length l0) (hc0 : l0.length ≤ c0) (hbs_ : w.heap[gs_]? = some (.cells #[.int .i64 as_] 3 (0, 0))) (h : impl_TakeAck_ix.f k l0 as_ = some r) :
  Calls Try.prog 56 #[.slice A0 l0.length c0, .func (.func 57) #[] #[.pointer (some ⟨gs_, 0, none⟩)]] w fun e w' => e = .returned (.int .i64 r) ∧ Below w.heap.size w w' := by
 have hu68 := Try.underlying68
 have HR0 := A_.mk hr0
 have HC0 := A_.mk hc0
 have BS := A_.mk hbs_
 clear hr0 hc0 hbs_
 have HB := A_.mk (Below.refl w.heap.size w)
 have H' := A_.mk (show (impl_TakeAck_ix.l0 k l0 as_ (l0.length : Int) 0) = some r from h)
 clear h
 go_enter Try.func56, Try.ntmps56
 go_wp2
 go_loopg [8] k (fun kq v8 w' => ∃ (x8_1 : Int), v8 = .int .i64 x8_1 ∧ A_ (impl_TakeAck_ix.l0 kq l0 as_ (l0.length : Int) x8_1 = some r) ∧ A_ (kq ≤ k) ∧ A_ (Below w.heap.size w w'))
 case atStart => exact ⟨(0), (by first | rfl | (simp; done) | (simp [*]; done)), H', ⟨Nat.le_refl _⟩, ⟨beY HB.out⟩⟩
 case round =>
  clear H' HB
  obtain ⟨x8_1, rfl, HA, HK1, HB⟩ := hrel
  cases gk with
  | zero => exact absurd HA.out (by simp [impl_TakeAck_ix.l0])
  | succ k1 =>
   have H := HA.out
   clear HA
   simp only [impl_TakeAck_ix.l0] at H
   by_cases c3 : x8_1 < (l0.length : Int)
   rotate_left
   ·rw [if_neg c3] at H
    have c3b0 : decide (x8_1 < (l0.length : Int)) = false := decide_eq_false c3
    clear c3
    obtain rfl := Option.some.inj H
    clear H
    go_wp2
    go_ret
    exact ⟨rfl, HB.out⟩
   rw [if_pos c3] at H
   have c3b0 : decide (x8_1 < (l0.length : Int)) = true := decide_eq_true c3
   by_cases c4 : 0 ≤ x8_1
   case neg => rw [if_neg c4] at H; exact absurd H (by simp)
   rw [if_pos c4, if_pos c3] at H
   have c4b0 : decide (0 ≤ x8_1) = true := decide_eq_true c4
   have p1 := c4
   have q1 := c3
   clear c3 c4
   obtain ⟨ad1, A1_1, c1_1, e1, hx1_0, hx1_1, hl1_1, hi1_1⟩ := at_T68 HR0.out x8_1 p1 q1
   cases e1
   replace hx1_0 := (HB.out.cell (wl_ w _ hx1_0)).trans hx1_0
   replace hx1_1 := (HB.out.cell (wl_ w _ hx1_1)).trans hx1_1
   replace p1 := eq_true p1
   replace q1 := eq_true q1
   by_cases ct : (rd_T68 l0 x8_1).f0 = as_
   ·rw [if_pos ct] at H
    obtain rfl := Option.some.inj H
    clear H
    have ctb : ((rd_T68 l0 x8_1).f0 == as_) = true := beq_iff_eq.mpr ct
    clear ct
    go_wp2_with fail
    (with_reducible refine (impl_TakeAck_1.calls gs_ as_ (rd_T68 l0 x8_1).f0 _ _ (rd_T68 l0 x8_1).f1 _ (bb_ BS.out HB.out)).mono ?_)
    rintro e w8_ ⟨rfl, hb⟩
    replace HB := A_.mk (below_then HB.out HB.out.size hb)
    clear hb
    go_wp2
    go_ret
    exact ⟨rfl, HB.out⟩
   rw [if_neg ct] at H
   have ctb : ((rd_T68 l0 x8_1).f0 == as_) = false := beq_eq_false_iff_ne.mpr ct
   clear ct
   have H' := A_.mk H
   clear H
   go_wp2_with fail
   (with_reducible refine (impl_TakeAck_1.calls gs_ as_ (rd_T68 l0 x8_1).f0 _ _ (rd_T68 l0 x8_1).f1 _ (bb_ BS.out HB.out)).mono ?_)
   rintro e w8_ ⟨rfl, hb⟩
   replace HB := A_.mk (below_then HB.out HB.out.size hb)
   clear hb
   go_wp2
   go_roundg k1
   case measure => have := HK1.out; omega
   case rel => exact ⟨(wrap64 (x8_1 + 1)), (by first | rfl | (simp; done) | (simp [*]; done)), H', ⟨by have := HK1.out; omega⟩, HB⟩
/-! ### slices_CloneS_68: function 58 (a cut of a row of one's own), told by hand -/
theorem S_drop_rows {α : Type} (d : Kd α) {e base g n c m : Nat} {W : World} {ok : Nat → Prop} {xs : List α} (z : α) (HS : Kd.S d e W base ok (.slice (some ⟨g, 0, none⟩) n c) xs) (hm : m ≤ n) {A : Addr} (hA : A = ⟨g, m * d.sz, none⟩ ∨ m = n) :
  ∃ f, ReadsRow (fun p cs => (Kd.tag f d).M W base (fun k => ok k ∧ k < W.heap.size) p cs) d.sz W (some A) (n - m) (xs.drop m).zipIdx := by
 obtain ⟨hl, _, hC⟩ := Kd.S_reads' HS
 have hn := hC.2.1
 obtain ⟨f, hR⟩ := Kd.S_bound HS
 refine ⟨fun k => f k - m, by rw [List.length_zipIdx, List.length_drop]; omega, by omega, fun hp => ⟨A, rfl, fun j p hj => ?_⟩⟩
 rw [List.getElem?_zipIdx, Nat.zero_add, List.getElem?_drop] at hj
 obtain ⟨x, hx, rfl⟩ := Option.map_eq_some_iff.1 hj
 obtain ⟨hlt, hx2⟩ := List.getElem?_eq_some_iff.1 hx
 obtain ⟨c', hcl, hM, hcc⟩ := Kd.R_getA hR (z, 0) ((m + j : Nat) : Int) (by omega) (by omega)
 refine ⟨c', hcl, ?_, fun i u hu => ?_⟩
 ·have e1 : xs.zipIdx.getD ((m + j : Nat) : Int).toNat (z, 0) = (x, m + j) := by
   rw [List.getD_eq_getElem?_getD, Int.toNat_natCast, List.getElem?_zipIdx, hx]; simp
  rw [e1] at hM
  refine d.M_mono (fun k hk => ⟨⟨hk.1.1.1, hk.1.1.2.2.1⟩, ?_⟩) hM
  have h2 : f k = m + j := hk.2
  show f k - m = j
  omega
 ·have h3 := hcc i u hu
  rcases hA with rfl | rfl
  ·rw [add_at] at h3 ⊢
   rw [Int.toNat_natCast, Nat.zero_add, Nat.add_mul] at h3
   rwa [← Nat.add_assoc]
  ·omega
theorem rows_on {α : Type} {d : Kd α} {f : Nat → Nat} {base sz n : Nat} {W W1 : World} {ok : Nat → Prop} {A : Option Addr} {ys : List (α × Nat)} (h : ReadsRow (fun p cs => (Kd.tag f d).M W base (fun k => ok k ∧ k < W.heap.size) p cs) sz W A n ys) (hg : W.grownBy W1 none) :
  ReadsRow (fun p cs => (Kd.tag f d).M W1 base (fun k => ok k ∧ k < W.heap.size) p cs) sz W1 A n ys := by
 have hb : Below W.heap.size W W1 := ⟨hg.os, hg.tape, hg.output, hg.size, fun k h_ => hg.block k h_ (by simp)⟩
 refine ⟨h.1, h.2.1, fun hp => ?_⟩
 obtain ⟨ad, e1, h2⟩ := h.2.2 hp
 refine ⟨ad, e1, fun j p hj => ?_⟩
 obtain ⟨c, h3, h4, h5⟩ := h2 j p hj
 refine ⟨c, h3, (Kd.tag f d).M_move (fun k hk => hb.block k hk.2) h4, fun i u hu => ?_⟩
 exact (hb.cell (wl_ _ _ (h5 i u hu))).trans (h5 i u hu)
set_option maxHeartbeats 8000000 in
set_option maxRecDepth 100000 in
theorem slices_CloneS_68.calls (P0_ : Nat → Prop) (g n c m c2 : Nat) (A : Addr) (l0 : List S68) (w0 w : World) (hB : Below w0.heap.size w0 w) (ho : Kd.S k68 68 w w0.heap.size P0_ (.slice (some ⟨g, 0, none⟩) n c) l0) (hm : m ≤ n) (hA : A = ⟨g, m * 2, none⟩ ∨ m = n) (hlim : n * 32 ≤ 140737488355328) :
  Calls Try.prog 58 #[.slice (some A) (n - m) c2] w fun e w' => ∃ v_ : Value, e = .returned v_ ∧ Kd.S k68 68 w' w0.heap.size (fun k_ => (P0_ k_ ∧ k_ < w.heap.size) ∨ w.heap.size ≤ k_) v_ (l0.drop m) ∧ Below w0.heap.size w0 w' ∧ Kept w w' (fun _ => False) := by
 obtain ⟨f, hread⟩ := S_drop_rows k68 z68 ho hm hA
 have HRD := A_.mk hread
 have HB := A_.mk hB
 have HKP := A_.mk (Kept.refl w (fun _ => False))
 have HSZ := A_.mk (Nat.le_refl w.heap.size)
 have HT := A_.mk (Below.refl w.heap.size w)
 clear hread hB ho
 have hb_ : ∀ w, (binOp .eql 26 (.slice (some A) (n - m) c2) (.slice none 0 0)).run Try.prog w = .ok (.bool false) w := fun _ => by kernel_rfl
 go_enter Try.func58, Try.ntmps58
 go_wp2_with (first | ((with_reducible refine gd_ (N := 5) rfl ?_); refine Kd.R_lit (Kd.tag f k68) w0.heap.size 68 ?hg (N := 5) ?hd (xs := ([] : List (S68 × Nat))) (inner := []) (ok := (fun k_ => (P0_ k_ ∧ k_ < w.heap.size) ∨ w.heap.size ≤ k_)) (okp := fun _ => False) ?hr ?hp (fun _ hk => hk.elim) (.inr (Nat.le_refl _)) HB.out HB.out.size (by simp) ?_; (case hd => rfl); (case hg => rfl); (case hr => first | (go_simp; done) | (go_simp; rfl)); (case hp => exact (Reps.none _ _)); intro v1_ w1_ ho hb hg_ hnew_; have HN := A_.mk hnew_; have HO := A_.mk ho; have HG := A_.mk hg_; have HB1 := A_.mk hb; clear ho hb hg_ hnew_) | ((with_reducible refine gate_builtin (b := .append) (xs := #[.tmp 5, .tmp 6]) rfl ?_); at_builtin; refine Kd.R_append_rows (Kd.tag f k68) (Rr := fun p cs => (Kd.tag f k68).M w1_ w0.heap.size (fun k_ => P0_ k_ ∧ k_ < w.heap.size) p cs) (w0 := w0) w0.heap.size rfl (.tmp 5) (.tmp 6) 26 68 ((.agg #[(.int .i64 0), (.slice none 0 0)])) 32 rfl Try.underlying26 info68 rfl (Nat.zero_lt_succ 1) (by omega) v1_ [] (l0.drop m).zipIdx (some A) (n - m) c2 (fun k_ => (P0_ k_ ∧ k_ < w.heap.size) ∨ w.heap.size ≤ k_) (fun k_ => P0_ k_ ∧ k_ < w.heap.size) rfl rfl HO.out ?aR (fun _ _ h => h) ?aK (fun k_ hk_ => .inr (Nat.le_trans HG.out.size hk_)) HB1.out HB1.out.size ?aL ?_; (case aR => exact rows_on HRD.out HG.out); (case aK => exact fun k_ hk_ => ⟨.inl hk_, fun e_ => by obtain ⟨b_, h1_, h2_⟩ := HN.out; rw [h1_] at e_; cases e_; omega⟩); (case aL => simp only [List.length_nil]; omega); intro v_ w2_ ho hb hg hat; have HO2 := A_.mk ho; have HB2 := A_.mk hb; have HKP2 := A_.mk (Kept.of_grown hg (Kept.of_grown HG.out HKP.out (fun _ e_ => by cases e_)) (fun k_ e_ => .inr (by obtain ⟨b_, h1_, h2_⟩ := HN.out; rw [h1_] at e_; cases e_; omega))); clear ho hb hg hat))
 go_ret
 exact ⟨_, rfl, ⟨f, HO2.out⟩, HB2.out, HKP2.out⟩


/-! ### impl_TakeAck: function 42, its calls in a row -/
def impl_TakeAck.f (k : Nat) (a0_0 : Int) (l0_1 : List (S68)) (a0_2 : Int) (a1 : Int) : Option ((Int) × (List (S68)) × (Int) × (Bool)) := ((impl_copySender.f k a0_0 l0_1 a0_2).bind fun ⟨t1, t2, t3⟩ => ((impl_TakeAck_ix.f k l0_1 a1).bind fun t4 => ((impl_SenderOk.f k a0_0 l0_1 a0_2).bind fun t5 => (if t5 = true then (if t4 < 0 then (some (t1, t2, t3, false)) else (if 0 ≤ t4 then (if t4 < (t2.length : Int) then (if t2.length * 32 ≤ 140737488355328 then (some (t1, (t2.drop ((t4).toNat + 1)), (mx (wrap64 ((wrap64 (a0_2 - t4)) - 1)) 0), true)) else none) else none) else none)) else (some (t1, t2, t3, false))))))
set_option maxHeartbeats 8000000 in
set_option maxRecDepth 100000 in
theorem impl_TakeAck.calls (k : Nat) (a0_0 : Int) (A0_1 : Option Addr) (c0_1 : Nat) (l0_1 : List (S68)) (a0_2 : Int) (a1 : Int) (r1 : Int) (r2 : List (S68)) (r3 : Int) (r4 : Bool) (w : World) (hr0_1 : Kd.C k68 w A0_1 l0_1.length l0_1) (hc0_1 : l0_1.length ≤ c0_1) (h : impl_TakeAck.f k a0_0 l0_1 a0_2 a1 = some (r1, r2, r3, r4)) :
  Calls Try.prog 42 #[.agg #[.int .i64 a0_0, .slice A0_1 l0_1.length c0_1, .int .i64 a0_2], .int .i64 a1] w fun e w' => ∃ f_ : Nat → Nat, ∃ v0_ : Value, e = .returned (.tuple #[.agg #[.int .i64 r1, v0_, .int .i64 r3], .bool r4]) ∧ Kd.S k68 68 w' w.heap.size (fun k_ => f_ k_ = 0) v0_ r2 ∧ Below w.heap.size w w' := by
 have HR0_1 := A_.mk hr0_1
 have HC0_1 := A_.mk hc0_1
 clear hr0_1 hc0_1
 have HB := A_.mk (Below.refl w.heap.size w)
 unfold impl_TakeAck.f at h
 have H := h
 clear h
 replace H := oa_ H
 obtain ⟨⟨t1, t2, t3⟩, A4, H⟩ := H
 try dsimp only at H
 replace H := oa_ H
 obtain ⟨t4, A7, H⟩ := H
 replace H := oa_ H
 obtain ⟨t5, A8, H⟩ := H
 replace H := A_.mk H
 have hu28 := Try.underlying28
 have hmf : ∀ (fn : Fn) (first cap : Array Value) (w : World), (Instr.makeFunc fn first cap).run Try.prog w = .ok (.func fn first cap) w := fun _ _ _ _ => rfl
 go_enter Try.func42, Try.ntmps42
 have HS := A_.mk (Nat.le_refl w.heap.size)
 go_wp2_with (first | ((with_reducible refine gd_ (N := 2) rfl ?_); refine by_ 2 (cs := #[.int .i64 a0_0, .slice A0_1 l0_1.length c0_1, .int .i64 a0_2]) (t := 28) ?_; intro gb1_ hg w1_ hbox hb; replace HS := A_.mk (And.intro HS.out (show gb1_ = w.heap.size ∧ gb1_ < w1_.heap.size from ⟨hg, blk_lt hbox⟩)); replace HB := aHB HB hb; have BK1 := A_.mk hbox; clear hbox hb hg; have Q1 := blk3_ BK1.out) | ((with_reducible refine gd_ (N := 3) rfl ?_); refine by_ 3 (cs := #[.int .i64 a1]) (t := 3) ?_; intro gb2_ hg w2_ hbox hb; replace HS := A_.mk (And.intro HS.out (show gb2_ = w1_.heap.size ∧ gb2_ < w2_.heap.size from ⟨hg, blk_lt hbox⟩)); replace BK1 := aBb BK1 hb; replace HB := aHB HB hb; have BK2 := A_.mk hbox; clear hbox hb hg Q1; have Q1 := blk3_ BK1.out; have Q2 := blk1_ BK2.out) | ((with_reducible refine gd_ (N := 4) rfl ?_); refine by_ 4 (cs := #[.int .i64 0, .slice none 0 0, .int .i64 0]) (t := 28) ?_; intro gb3_ hg w3_ hbox hb; replace HS := A_.mk (And.intro HS.out (show gb3_ = w2_.heap.size ∧ gb3_ < w3_.heap.size from ⟨hg, blk_lt hbox⟩)); replace BK1 := aBb BK1 hb; replace BK2 := aBb BK2 hb; replace HB := aHB HB hb; have BK3 := A_.mk hbox; clear hbox hb hg Q1 Q2; have Q1 := blk3_ BK1.out; have Q2 := blk1_ BK2.out; have Q3 := blk3_ BK3.out) | ((with_reducible refine gc_ (f := 21) rfl ?_); refine gl_ (some 9) Try.func21 #[.agg #[.int .i64 a0_0, .slice A0_1 l0_1.length c0_1, .int .i64 a0_2]] ?_; (with_reducible refine (impl_copySender.calls k a0_0 _ _ l0_1 a0_2 t1 t2 t3 _ (Kd.C_below HR0_1.out HB.out) HC0_1.out A4.out).mono ?_); rintro e w4_ ⟨v1_, rfl, ho0_, hb⟩; refine ⟨_, rfl, ?_⟩; replace HS := aHs HS hb.size; obtain ⟨Ao4_1, co4_1, ev_⟩ := Kd.S_slice ho0_; subst ev_; have HO4_1 := aSm ho0_ HB.out.size; replace BK1 := aBb BK1 hb; replace BK2 := aBb BK2 hb; replace BK3 := aBb BK3 hb; replace HB := aHB HB hb; clear hb ho0_ Q1 Q2 Q3; have Q1 := blk3_ BK1.out; have Q2 := blk1_ BK2.out; have Q3 := blk3_ BK3.out) | ((with_reducible refine gd_ (N := 6) rfl ?_); refine by_ 6 (cs := #[.int .i64 0, .slice none 0 0, .int .i64 0]) (t := 28) ?_; intro gb5_ hg w5_ hbox hb; replace HS := A_.mk (And.intro HS.out (show gb5_ = w4_.heap.size ∧ gb5_ < w5_.heap.size from ⟨hg, blk_lt hbox⟩)); replace HO4_1 := aSb HO4_1 hb; replace BK1 := aBb BK1 hb; replace BK2 := aBb BK2 hb; replace BK3 := aBb BK3 hb; replace HB := aHB HB hb; have BK5 := A_.mk hbox; clear hbox hb hg Q1 Q2 Q3; have Q1 := blk3_ BK1.out; have Q2 := blk1_ BK2.out; have Q3 := blk3_ BK3.out; have Q5 := blk3_ BK5.out) | ((with_reducible refine gate_store (t := 28) (p := 6) rfl ?_); have qf0 := bf_ BK5.out 0; have qf1 := bf_ BK5.out 1; have qf2 := bf_ BK5.out 2; refine se_ (t := 28) (p := 6) (v := ?vo_6) (w1 := (ch3_ w5_ gb5_ (.int .i64 t1) (.slice Ao4_1 t2.length co4_1) (.int .i64 t3))) ?hg ?ho ?hn ?hr ?_; (case ho => rfl); (case hg => rfl); (case hn => rfl); (case hr => first | (go_simp; done) | (go_simp; rfl)); intro w6_ hw; clear qf0 qf1 qf2; obtain ⟨hbx, hkp, hbb⟩ := st3_ hw BK5 HB (by have := HS.out; omega); clear hw; replace HO4_1 := aSk HO4_1 hkp HS; replace BK1 := aBk BK1 hkp HS; replace BK2 := aBk BK2 hkp HS; replace BK3 := aBk BK3 hkp HS; replace BK5 := A_.mk hbx; replace HB := A_.mk hbb; replace HS := aHs HS hkp.1; clear hkp hbb hbx Q1 Q2 Q3 Q5; have Q1 := blk3_ BK1.out; have Q2 := blk1_ BK2.out; have Q3 := blk3_ BK3.out; have Q5 := blk3_ BK5.out))
 (with_reducible refine (impl_TakeAck_ix.calls k _ _ l0_1 gb2_ a1 t4 _ (Kd.C_below HR0_1.out HB.out) HC0_1.out BK2.out A7.out).mono ?_)
 rintro e w7_ ⟨rfl, hb⟩
 replace HS := aHs HS hb.size
 replace HO4_1 := aSb HO4_1 hb
 replace BK1 := aBb BK1 hb
 replace BK2 := aBb BK2 hb
 replace BK3 := aBb BK3 hb
 replace BK5 := aBb BK5 hb
 replace HB := aHB HB hb
 clear hb  Q1 Q2 Q3 Q5
 have Q1 := blk3_ BK1.out
 have Q2 := blk1_ BK2.out
 have Q3 := blk3_ BK3.out
 have Q5 := blk3_ BK5.out
 go_wp2_with (fail)
 (with_reducible refine (impl_SenderOk.calls k a0_0 _ _ l0_1 a0_2 t5 _ (Kd.C_below HR0_1.out HB.out) HC0_1.out A8.out).mono ?_)
 rintro e w8_ ⟨rfl, hb⟩
 replace HS := aHs HS hb.size
 replace HO4_1 := aSb HO4_1 hb
 replace BK1 := aBb BK1 hb
 replace BK2 := aBb BK2 hb
 replace BK3 := aBb BK3 hb
 replace BK5 := aBb BK5 hb
 replace HB := aHB HB hb
 clear hb  Q1 Q2 Q3 Q5
 have Q1 := blk3_ BK1.out
 have Q2 := blk1_ BK2.out
 have Q3 := blk3_ BK3.out
 have Q5 := blk3_ BK5.out
 replace H := H.out
 by_cases hc1_ : t5 = true
 case neg =>
  rw [if_neg hc1_] at H
  replace hc1_ := eq_false_of_ne_true hc1_
  subst hc1_
  simp only [Option.some.injEq, Prod.mk.injEq] at H
  obtain ⟨rfl, rfl, rfl, rfl⟩ := H
  go_wp2_with (first | ((with_reducible refine gate_store (t := 28) (p := 4) rfl ?_); have qf0 := bf_ BK3.out 0; have qf1 := bf_ BK3.out 1; have qf2 := bf_ BK3.out 2; refine se_ (t := 28) (p := 4) (v := ?vo_14) (w1 := (ch3_ w8_ gb3_ (.int .i64 t1) (.slice Ao4_1 t2.length co4_1) (.int .i64 t3))) ?hg ?ho ?hn ?hr ?_; (case ho => rfl); (case hg => rfl); (case hn => rfl); (case hr => first | (go_simp; done) | (go_simp; rfl)); intro w14_ hw; clear qf0 qf1 qf2; obtain ⟨hbx, hkp, hbb⟩ := st3_ hw BK3 HB (by have := HS.out; omega); clear hw; replace HO4_1 := aSk HO4_1 hkp HS; replace BK1 := aBk BK1 hkp HS; replace BK2 := aBk BK2 hkp HS; replace BK5 := aBk BK5 hkp HS; replace BK3 := A_.mk hbx; replace HB := A_.mk hbb; replace HS := aHs HS hkp.1; clear hkp hbb hbx Q1 Q2 Q3 Q5; have Q1 := blk3_ BK1.out; have Q2 := blk1_ BK2.out; have Q3 := blk3_ BK3.out; have Q5 := blk3_ BK5.out))
  refine bodyPost_ret (results_ct rfl _ _ gb3_ 28 #[.int .i64 t1, .slice Ao4_1 t2.length co4_1, .int .i64 t3] (0, 0) _ rfl BK3.out Try.underlying28 rfl (by kernel_rfl)) rfl ?_
  obtain ⟨f_, hf_⟩ : ∃ f_ : Nat → Nat, ∀ k_, f_ k_ = (if ((w3_.heap.size ≤ k_ ∧ k_ < w4_.heap.size)) then 0 else 0) := ⟨fun k_ => (if ((w3_.heap.size ≤ k_ ∧ k_ < w4_.heap.size)) then 0 else 0), fun _ => rfl⟩
  have hcol0_ : ∀ k_, (((w3_.heap.size ≤ k_ ∧ k_ < w4_.heap.size))) → f_ k_ = 0 := fun k_ hk_ => by rw [hf_]; have := HS.out; repeat' (first | omega | split)
  exact ⟨f_, _, rfl, Kd.S_mono HO4_1.out hcol0_, HB.out⟩
 rw [if_pos hc1_] at H
 subst hc1_
 by_cases hc2_ : t4 < 0
 case pos =>
  rw [if_pos hc2_] at H
  have hc2_b0 : decide (t4 < 0) = true := decide_eq_true hc2_
  replace hc2_ := A_.mk hc2_
  simp only [Option.some.injEq, Prod.mk.injEq] at H
  obtain ⟨rfl, rfl, rfl, rfl⟩ := H
  go_wp2_with (first | ((with_reducible refine gate_store (t := 28) (p := 4) rfl ?_); have qf0 := bf_ BK3.out 0; have qf1 := bf_ BK3.out 1; have qf2 := bf_ BK3.out 2; refine se_ (t := 28) (p := 4) (v := ?vo_9) (w1 := (ch3_ w8_ gb3_ (.int .i64 t1) (.slice Ao4_1 t2.length co4_1) (.int .i64 t3))) ?hg ?ho ?hn ?hr ?_; (case ho => rfl); (case hg => rfl); (case hn => rfl); (case hr => first | (go_simp; done) | (go_simp; rfl)); intro w9_ hw; clear qf0 qf1 qf2; obtain ⟨hbx, hkp, hbb⟩ := st3_ hw BK3 HB (by have := HS.out; omega); clear hw; replace HO4_1 := aSk HO4_1 hkp HS; replace BK1 := aBk BK1 hkp HS; replace BK2 := aBk BK2 hkp HS; replace BK5 := aBk BK5 hkp HS; replace BK3 := A_.mk hbx; replace HB := A_.mk hbb; replace HS := aHs HS hkp.1; clear hkp hbb hbx Q1 Q2 Q3 Q5; have Q1 := blk3_ BK1.out; have Q2 := blk1_ BK2.out; have Q3 := blk3_ BK3.out; have Q5 := blk3_ BK5.out))
  refine bodyPost_ret (results_ct rfl _ _ gb3_ 28 #[.int .i64 t1, .slice Ao4_1 t2.length co4_1, .int .i64 t3] (0, 0) _ rfl BK3.out Try.underlying28 rfl (by kernel_rfl)) rfl ?_
  obtain ⟨f_, hf_⟩ : ∃ f_ : Nat → Nat, ∀ k_, f_ k_ = (if ((w3_.heap.size ≤ k_ ∧ k_ < w4_.heap.size)) then 0 else 0) := ⟨fun k_ => (if ((w3_.heap.size ≤ k_ ∧ k_ < w4_.heap.size)) then 0 else 0), fun _ => rfl⟩
  have hcol0_ : ∀ k_, (((w3_.heap.size ≤ k_ ∧ k_ < w4_.heap.size))) → f_ k_ = 0 := fun k_ hk_ => by rw [hf_]; have := HS.out; repeat' (first | omega | split)
  exact ⟨f_, _, rfl, Kd.S_mono HO4_1.out hcol0_, HB.out⟩
 rw [if_neg hc2_] at H
 have hc2_b0 : decide (t4 < 0) = false := decide_eq_false hc2_
 replace hc2_ := A_.mk hc2_
 by_cases hp10_ : 0 ≤ t4
 case neg => rw [if_neg hp10_] at H; cases H
 rw [if_pos hp10_] at H
 by_cases hq10_ : t4 < (t2.length : Int)
 case neg => rw [if_neg hq10_] at H; cases H
 rw [if_pos hq10_] at H
 have EB10 := A_.mk (And.intro hp10_ hq10_)
 clear hp10_ hq10_
 by_cases hl3_ : t2.length * 32 ≤ 140737488355328
 case neg => rw [if_neg hl3_] at H; cases H
 rw [if_pos hl3_] at H
 have LM10 := A_.mk hl3_
 clear hl3_
 obtain ⟨y6, Ny6⟩ : ∃ q_, q_ = (t2.drop ((t4).toNat + 1)) := ⟨_, rfl⟩
 rw [← Ny6] at H
 replace Ny6 := A_.mk Ny6
 obtain ⟨ji7, hji7⟩ : ∃ q_, q_ = (mx (wrap64 ((wrap64 (a0_2 - t4)) - 1)) 0) := ⟨_, rfl⟩
 rw [← hji7] at H
 replace hji7 : (if (wrap64 ((wrap64 (a0_2 - t4)) - 1)) < 0 then 0 else (wrap64 ((wrap64 (a0_2 - t4)) - 1))) = ji7 := hji7.symm
 simp only [Option.some.injEq, Prod.mk.injEq] at H
 obtain ⟨rfl, rfl, rfl, rfl⟩ := H
 go_wp2_with (fail)
 obtain ⟨m10_, hm_⟩ : ∃ m_ : Nat, t4 = (m_ : Int) := ⟨(t4).toNat, by have := EB10.out; omega⟩
 subst hm_
 obtain ⟨gd10_, ed_⟩ := S_at0 HO4_1.out (by have := EB10.out; omega)
 subst ed_
 have hnc_ := (Kd.S_reads' HO4_1.out).2.1
 have hm1_ : m10_ < t2.length := by have := EB10.out.2; omega
 have hz0_ : m10_ + 1 ≤ t2.length := by omega
 have hz1_ : m10_ ≤ co4_1 := by omega
 have hz2_ : m10_ + 1 ≤ co4_1 := by omega
 have hz3_ : (0 : Int) ≤ (m10_ : Int) + 1 := by omega
 have hz4_ : (m10_ : Int) + 1 ≤ ((t2.length : Nat) : Int) := by omega
 have hcm_ := S_cap HO4_1.out
 have hw_ : wrap64 ((m10_ : Int) + 1) = (m10_ : Int) + 1 := by unfold wrap64; omega
 obtain ⟨ax10_, hax_, hay_⟩ : ∃ q_ : Addr, (if co4_1 = m10_ + 1 then (some ⟨gd10_, 0, none⟩ : Option Addr) else some ⟨gd10_, (m10_ + 1) * 2, none⟩) = some q_ ∧ (q_ = ⟨gd10_, (m10_ + 1) * 2, none⟩ ∨ m10_ + 1 = t2.length) := by by_cases hz_ : co4_1 = m10_ + 1; (· rw [if_pos hz_]; exact ⟨_, rfl, .inr (by omega)⟩); (· rw [if_neg hz_]; exact ⟨_, rfl, .inl rfl⟩)
 clear hm1_ hnc_ hcm_
 refine start_ (n := 16) (S := fun w' => (w'.cell? ⟨gb1_, 0, none⟩ = some (.int .i64 a0_0) ∧ w'.cell? ⟨gb1_, 1, none⟩ = some (.slice A0_1 l0_1.length c0_1) ∧ w'.cell? ⟨gb1_, 2, none⟩ = some (.int .i64 a0_2))) (ds := [15]) #[F, F, F, F, F, F, F, F, F, F, F, F, F, F, F, F] (by kernel_rfl) rfl rfl (blk3_ BK1.out) (fun hHeld => ?_)
 clear Q1 Q2 Q3 Q5
 have hb := below_drew (Below.refl w8_.heap.size w8_)
 replace HS := aHs HS hb.size
 replace HO4_1 := aSb HO4_1 hb
 replace BK1 := aBb BK1 hb
 replace BK2 := aBb BK2 hb
 replace BK3 := aBb BK3 hb
 replace BK5 := aBb BK5 hb
 replace HB := aHB HB hb
 clear hb
 generalize w8_.drew = w15d_ at HO4_1 BK1 BK2 BK3 BK5 HB HS hHeld ⊢
 refine pd_ (i := 0) (N := some 22) #[T, F, F, F, F, F, F, F, F, F, F, F, F, F, F, F] rfl ?_
 refine pd_ (i := 2) (N := some 24) #[T, F, T, F, F, F, F, F, F, F, F, F, F, F, F, F] rfl ?_
 refine pd_ (i := 3) (N := some 25) #[T, F, T, T, F, F, F, F, F, F, F, F, F, F, F, F] rfl ?_
 refine pd_ (i := 6) (N := some 28) #[T, F, T, T, F, F, T, F, F, F, F, F, F, F, F, F] rfl ?_
 refine tl_ (i := 7) (N := some 29) #[T, F, T, T, F, F, T, T, F, F, F, F, F, F, F, F] rfl hHeld ?_
 refine pd_ (i := 8) (N := some 30) #[T, F, T, T, F, F, T, T, T, F, F, F, F, F, F, F] rfl ?_
 refine pd_ (i := 9) (N := some 31) #[T, F, T, T, F, F, T, T, T, T, F, F, F, F, F, F] rfl ?_
 refine pd_ (i := 10) (N := some 32) #[T, F, T, T, F, F, T, T, T, T, T, F, F, F, F, F] rfl ?_
 refine pd_ (i := 11) (N := some 33) #[T, F, T, T, F, F, T, T, T, T, T, T, F, F, F, F] rfl ?_
 refine on_ (i := 1) (N := some 23) #[T, T, T, T, F, F, T, T, T, T, T, T, F, F, F, F] rfl (fun K hK => ?_)
 have Q1 := blk3_ BK1.out
 have Q2 := blk1_ BK2.out
 have Q3 := blk3_ BK3.out
 have Q5 := blk3_ BK5.out
 refine value_ (w1 := ?_) (v := ?_) (by rfl) rfl ?_ ?_
 rotate_left 2
 ·go_simp
  first | rfl | (constructor <;> rfl)
 clear Q1 Q2 Q3 Q5
 refine hK.out _ _ (blk3_ BK1.out) (fun hHeld => ?_)
 clear hK K
 refine nm_ ?_
 refine pd_ (i := 4) (N := some 26) #[T, T, T, T, T, F, T, T, T, T, T, T, F, F, F, F] rfl ?_
 refine on_ (i := 5) (N := some 27) #[T, T, T, T, T, T, T, T, T, T, T, T, F, F, F, F] rfl (fun K hK => ?_)
 refine gz_ Try.func58 #[.slice (some ax10_) (t2.length - (m10_ + 1)) (co4_1 - (m10_ + 1))] ?_
 refine (slices_CloneS_68.calls (fun k_ => ((w3_.heap.size ≤ k_ ∧ k_ < w4_.heap.size))) gd10_ t2.length co4_1 (m10_ + 1) _ ax10_ t2 w _ HB.out HO4_1.out hz0_ hay_ LM10.out).mono ?_
 rintro e w10_ ⟨v_, rfl, ho, hbb, hkp⟩
 refine ⟨_, rfl, ?_⟩
 replace hkp := hkp.mono (S' := fun k_ => k_ < 0) (fun _ h_ => h_.elim)
 replace ho := (show _ = y6 from Ny6.out.symm) ▸ ho
 replace BK1 := aBk BK1 hkp HS
 replace BK2 := aBk BK2 hkp HS
 replace BK3 := aBk BK3 hkp HS
 replace BK5 := aBk BK5 hkp HS
 replace HS := aHs HS hkp.1
 obtain ⟨Ao10, co10, ev_⟩ := Kd.S_slice ho
 subst ev_
 have HO10 := A_.mk (Kd.S_mono (ok' := (fun k_ => ((w3_.heap.size ≤ k_ ∧ k_ < w4_.heap.size)) ∨ ((w15d_.heap.size ≤ k_ ∧ k_ < w10_.heap.size)))) (Kd.S_bound ho) (fun k_ hk_ => by have := hk_.1; have := hk_.2.2.1; have := hk_.2.1; clear hk_; (try dsimp only at *); have := HS.out; omega))
 replace HB := A_.mk hbb
 clear hkp hbb ho HO4_1
 refine hK.out _ _ (blk3_ BK1.out) (fun hHeld => ?_)
 clear hK K
 refine nm_ ?_
 refine pd_ (i := 12) (N := some 34) #[T, T, T, T, T, T, T, T, T, T, T, T, T, F, F, F] rfl ?_
 refine on_ (i := 13) (N := none) #[T, T, T, T, T, T, T, T, T, T, T, T, T, T, F, F] rfl (fun K hK => ?_)
 have Q1 := blk3_ BK1.out
 have Q2 := blk1_ BK2.out
 have Q3 := blk3_ BK3.out
 have Q5 := blk3_ BK5.out
 have qf0 := bf_ BK5.out 1
 obtain ⟨w11_, hw⟩ : ∃ q_ : World, q_ = (w10_.setCell ⟨gb5_, 1, none⟩ (.slice Ao10 y6.length co10)) := ⟨_, rfl⟩
 refine skip_ (w1 := w11_) (by rfl) rfl ?_ ?_
 ·rw [hw]; go_simp; try rfl
 clear qf0 Q1 Q2 Q3 Q5
 have hge : w.heap.size ≤ gb5_ := (by have := HS.out; omega)
 have hkp : Kept w10_ w11_ (fun k_ => k_ = gb5_) := (by rw [hw]; exact (Kept.of_set (Kept.refl _ _) _ _))
 have hbb : Below w.heap.size w w11_ := (by rw [hw]; exact (bs_ HB.out hge))
 have hbx : w11_.heap[gb5_]? = some (.cells #[.int .i64 t1, .slice Ao10 y6.length co10, .int .i64 t3] 28 (0, 0)) := (by rw [hw]; exact (bp_ (cs := #[.int .i64 t1, .slice (some ⟨gd10_, 0, none⟩) t2.length co4_1, .int .i64 t3]) BK5.out 1 _ rfl))
 clear hw
 replace HO10 := aSk HO10 hkp HS
 replace BK1 := aBk BK1 hkp HS
 replace BK2 := aBk BK2 hkp HS
 replace BK3 := aBk BK3 hkp HS
 replace BK5 := A_.mk hbx
 replace HB := A_.mk hbb
 replace HS := aHs HS hkp.1
 clear hkp hbb hbx hge
 refine hK.out _ _ (blk3_ BK1.out) (fun hHeld => ?_)
 clear hK K
 refine pd_ (i := 14) (N := some 35) #[T, T, T, T, T, T, T, T, T, T, T, T, T, T, T, F] rfl ?_
 refine last_ (i := 15) (N := none) #[T, T, T, T, T, T, T, T, T, T, T, T, T, T, T, T] rfl rfl (by kernel_rfl) (by decide) (fun K hK => ?_)
 have Q1 := blk3_ BK1.out
 have Q2 := blk1_ BK2.out
 have Q3 := blk3_ BK3.out
 have Q5 := blk3_ BK5.out
 have qf0 := bf_ BK5.out 2
 obtain ⟨w12_, hw⟩ : ∃ q_ : World, q_ = (w11_.setCell ⟨gb5_, 2, none⟩ (.int .i64 ji7)) := ⟨_, rfl⟩
 refine skip_ (w1 := w12_) (by rfl) rfl ?_ ?_
 ·rw [hw]; go_simp; try rfl
 refine hK.out _ _ ?_
 clear hK K qf0 Q1 Q2 Q3 Q5
 have hge : w.heap.size ≤ gb5_ := (by have := HS.out; omega)
 have hkp : Kept w11_ w12_ (fun k_ => k_ = gb5_) := (by rw [hw]; exact (Kept.of_set (Kept.refl _ _) _ _))
 have hbb : Below w.heap.size w w12_ := (by rw [hw]; exact (bs_ HB.out hge))
 have hbx : w12_.heap[gb5_]? = some (.cells #[.int .i64 t1, .slice Ao10 y6.length co10, .int .i64 ji7] 28 (0, 0)) := (by rw [hw]; exact (bp_ (cs := #[.int .i64 t1, .slice Ao10 y6.length co10, .int .i64 t3]) BK5.out 2 _ rfl))
 clear hw
 replace HO10 := aSk HO10 hkp HS
 replace BK1 := aBk BK1 hkp HS
 replace BK2 := aBk BK2 hkp HS
 replace BK3 := aBk BK3 hkp HS
 replace BK5 := A_.mk hbx
 replace HB := A_.mk hbb
 replace HS := aHs HS hkp.1
 clear hkp hbb hbx hge
 refine done_ (by kernel_rfl) ?_
 have Q1 := blk3_ BK1.out
 have Q2 := blk1_ BK2.out
 have Q3 := blk3_ BK3.out
 have Q5 := blk3_ BK5.out
 go_wp2_with (first | ((with_reducible refine gate_store (t := 28) (p := 4) rfl ?_); have qf0 := bf_ BK3.out 0; have qf1 := bf_ BK3.out 1; have qf2 := bf_ BK3.out 2; refine se_ (t := 28) (p := 4) (v := ?vo_13) (w1 := (ch3_ w12_ gb3_ (.int .i64 t1) (.slice Ao10 y6.length co10) (.int .i64 ji7))) ?hg ?ho ?hn ?hr ?_; (case ho => rfl); (case hg => rfl); (case hn => rfl); (case hr => first | (go_simp; done) | (go_simp; rfl)); intro w13_ hw; clear qf0 qf1 qf2; obtain ⟨hbx, hkp, hbb⟩ := st3_ hw BK3 HB (by have := HS.out; omega); clear hw; replace HO10 := aSk HO10 hkp HS; replace BK1 := aBk BK1 hkp HS; replace BK2 := aBk BK2 hkp HS; replace BK5 := aBk BK5 hkp HS; replace BK3 := A_.mk hbx; replace HB := A_.mk hbb; replace HS := aHs HS hkp.1; clear hkp hbb hbx Q1 Q2 Q3 Q5; have Q1 := blk3_ BK1.out; have Q2 := blk1_ BK2.out; have Q3 := blk3_ BK3.out; have Q5 := blk3_ BK5.out))
 refine bodyPost_ret (results_ct rfl _ _ gb3_ 28 #[.int .i64 t1, .slice Ao10 y6.length co10, .int .i64 ji7] (0, 0) _ rfl BK3.out Try.underlying28 rfl (by kernel_rfl)) rfl ?_
 obtain ⟨f_, hf_⟩ : ∃ f_ : Nat → Nat, ∀ k_, f_ k_ = (if ((w3_.heap.size ≤ k_ ∧ k_ < w4_.heap.size)) ∨ ((w15d_.heap.size ≤ k_ ∧ k_ < w10_.heap.size)) then 0 else 0) := ⟨fun k_ => (if ((w3_.heap.size ≤ k_ ∧ k_ < w4_.heap.size)) ∨ ((w15d_.heap.size ≤ k_ ∧ k_ < w10_.heap.size)) then 0 else 0), fun _ => rfl⟩
 have hcol0_ : ∀ k_, (((w3_.heap.size ≤ k_ ∧ k_ < w4_.heap.size)) ∨ ((w15d_.heap.size ≤ k_ ∧ k_ < w10_.heap.size))) → f_ k_ = 0 := fun k_ hk_ => by rw [hf_]; have := HS.out; repeat' (first | omega | split)
 exact ⟨f_, _, rfl, Kd.S_mono HO10.out hcol0_, HB.out⟩
/-! ### impl_Link_answer: function 18, its calls in a row -/
def impl_Link_answer.f (k : Nat) (a0_0 : Int) (l0_1 : List (S68)) (a0_2 : Int) (a0_3 : Int) (l0_4 : List (List Int)) (l0_5 : List (List Int)) (l0_6 : List Int) : Option ((Bool) × (Int) × (List (S68)) × (Int) × (Int) × (List (List Int)) × (List (List Int)) × (List Int)) := (if (l0_6.length : Int) = 0 then (some (false, a0_0, l0_1, a0_2, a0_3, l0_4, l0_5, l0_6)) else (if 0 ≤ (0 : Int) then (if (0 : Int) < (l0_6.length : Int) then (if 0 ≤ (0 : Int) then (if (0 : Int) < (l0_6.length : Int) then ((impl_TakeAck.f k a0_0 l0_1 a0_2 (Int.tmod (rd l0_6 (0 : Int)) 100)).bind fun ⟨t2, t3, t4, t5⟩ => (if 100 ≤ (rd l0_6 (0 : Int)) then ((impl_Replay.f k t2 t3 t4).bind fun ⟨t6, t7, t8⟩ => (some (true, t6, t7, t8, a0_3, l0_4, l0_5, (l0_6.eraseIdx ((0 : Int)).toNat)))) else (some (true, t2, t3, t4, a0_3, l0_4, l0_5, (l0_6.eraseIdx ((0 : Int)).toNat))))) else none) else none) else none) else none))
set_option maxHeartbeats 8000000 in
set_option maxRecDepth 100000 in
theorem impl_Link_answer.calls (k : Nat) (gb_ : Nat) (f0_ : Nat → Nat) (a0_0 : Int) (A0_1 : Option Addr) (c0_1 : Nat) (l0_1 : List (S68)) (a0_2 : Int) (a0_3 : Int) (A0_4 : Option Addr) (c0_4 : Nat) (l0_4 : List (List Int)) (A0_5 : Option Addr) (c0_5 : Nat) (l0_5 : List (List Int)) (A0_6 : Option Addr) (c0_6 : Nat) (l0_6 : List Int) (r1 : Bool) (r2 : Int) (r3 : List (S68)) (r4 : Int) (r5 : Int) (r6 : List (List Int)) (r7 : List (List Int)) (r8 : List Int) (w w1 : World) (hB : Below w.heap.size w w1) (hg : w.heap.size ≤ gb_) (hbx : w1.heap[gb_]? = some (.cells #[.int .i64 a0_0, .slice A0_1 l0_1.length c0_1, .int .i64 a0_2, .int .i64 a0_3, .slice A0_4 l0_4.length c0_4, .slice A0_5 l0_5.length c0_5, .slice A0_6 l0_6.length c0_6] 34 (0, 0))) (hp0_1 : Kd.S k68 68 w1 w.heap.size (fun k_ => (w.heap.size ≤ k_ ∧ k_ < w1.heap.size) ∧ k_ ≠ gb_ ∧ f0_ k_ = 0) (.slice A0_1 l0_1.length c0_1) l0_1) (hp0_4 : Kd.S (Kd.slice 3 (Kd.int .i64)) 32 w1 w.heap.size (fun k_ => (w.heap.size ≤ k_ ∧ k_ < w1.heap.size) ∧ k_ ≠ gb_ ∧ f0_ k_ = 1) (.slice A0_4 l0_4.length c0_4) l0_4) (hp0_5 : Kd.S (Kd.slice 3 (Kd.int .i64)) 32 w1 w.heap.size (fun k_ => (w.heap.size ≤ k_ ∧ k_ < w1.heap.size) ∧ k_ ≠ gb_ ∧ f0_ k_ = 2) (.slice A0_5 l0_5.length c0_5) l0_5) (hp0_6 : Kd.R (Kd.int .i64) 3 w1 w.heap.size (fun k_ => (w.heap.size ≤ k_ ∧ k_ < w1.heap.size) ∧ k_ ≠ gb_ ∧ f0_ k_ = 3) (.slice A0_6 l0_6.length c0_6) l0_6) (h : impl_Link_answer.f k a0_0 l0_1 a0_2 a0_3 l0_4 l0_5 l0_6 = some (r1, r2, r3, r4, r5, r6, r7, r8)) :
  Calls Try.prog 18 #[.pointer (some ⟨gb_, 0, none⟩)] w1 fun e w' => ∃ f_ : Nat → Nat, ∃ v0_ v1_ v2_ v3_ : Value, e = .returned (.bool r1) ∧ w'.heap[gb_]? = some (.cells #[.int .i64 r2, v0_, .int .i64 r4, .int .i64 r5, v1_, v2_, v3_] 34 (0, 0)) ∧ Kd.S k68 68 w' w.heap.size (fun k_ => (w.heap.size ≤ k_ ∧ k_ < w'.heap.size) ∧ k_ ≠ gb_ ∧ f_ k_ = 0) v0_ r3 ∧ Kd.S (Kd.slice 3 (Kd.int .i64)) 32 w' w.heap.size (fun k_ => (w.heap.size ≤ k_ ∧ k_ < w'.heap.size) ∧ k_ ≠ gb_ ∧ f_ k_ = 1) v1_ r6 ∧ Kd.S (Kd.slice 3 (Kd.int .i64)) 32 w' w.heap.size (fun k_ => (w.heap.size ≤ k_ ∧ k_ < w'.heap.size) ∧ k_ ≠ gb_ ∧ f_ k_ = 2) v2_ r7 ∧ Kd.R (Kd.int .i64) 3 w' w.heap.size (fun k_ => (w.heap.size ≤ k_ ∧ k_ < w'.heap.size) ∧ k_ ≠ gb_ ∧ f_ k_ = 3) v3_ r8 ∧ (∀ k_, k_ < w1.heap.size → f_ k_ < 4 → k_ = gb_ ∨ f0_ k_ < 4) ∧ Below w.heap.size w w' ∧ Kept w1 w' (fun k_ => k_ = gb_ ∨ ((w.heap.size ≤ k_ ∧ k_ < w1.heap.size) ∧ k_ ≠ gb_ ∧ f0_ k_ < 4)) := by
 obtain ⟨gb1_, rfl⟩ : ∃ q_, q_ = gb_ := ⟨_, rfl⟩
 have HO0_1 := A_.mk hp0_1
 clear hp0_1
 have HO0_4 := A_.mk hp0_4
 clear hp0_4
 have HO0_5 := A_.mk hp0_5
 clear hp0_5
 have HO0_6 := A_.mk hp0_6
 clear hp0_6
 have BK1 := A_.mk hbx
 have HS := A_.mk (And.intro hB.size (And.intro hg (blk_lt hbx)))
 have HK := A_.mk (Kept.refl w1 (fun k_ => k_ = gb1_ ∨ ((w.heap.size ≤ k_ ∧ k_ < w1.heap.size) ∧ k_ ≠ gb1_ ∧ f0_ k_ < 4)))
 clear hbx hg
 have HB := A_.mk hB
 clear hB
 unfold impl_Link_answer.f at h
 have H := h
 clear h
 by_cases hc1_ : (l0_6.length : Int) = 0
 case pos =>
  rw [if_pos hc1_] at H
  have hc1_b0 : ((l0_6.length : Int) == 0) = true := beq_iff_eq.mpr hc1_
  have hc1_bn : ((l0_6.length : Int) != 0) = false := bne_eq_false_iff_eq.mpr hc1_
  have hc1_b1 : (l0_6.length == 0) = true := by first | simpa using hc1_ | (simp at hc1_ ⊢; omega)
  replace hc1_ := A_.mk hc1_
  simp only [Option.some.injEq, Prod.mk.injEq] at H
  obtain ⟨rfl, rfl, rfl, rfl, rfl, rfl, rfl, rfl⟩ := H
  have hu34 := Try.underlying34
  go_enter Try.func18, Try.ntmps18
  have Q1 := blk7_ BK1.out
  go_wp2
  go_ret
  obtain ⟨f_, hf_⟩ : ∃ f_ : Nat → Nat, ∀ k_, f_ k_ = (if ((w.heap.size ≤ k_ ∧ k_ < w1.heap.size) ∧ k_ ≠ gb1_ ∧ f0_ k_ = 0) then 0 else (if ((w.heap.size ≤ k_ ∧ k_ < w1.heap.size) ∧ k_ ≠ gb1_ ∧ f0_ k_ = 1) then 1 else (if ((w.heap.size ≤ k_ ∧ k_ < w1.heap.size) ∧ k_ ≠ gb1_ ∧ f0_ k_ = 2) then 2 else (if ((w.heap.size ≤ k_ ∧ k_ < w1.heap.size) ∧ k_ ≠ gb1_ ∧ f0_ k_ = 3) then 3 else 4)))) := ⟨fun k_ => (if ((w.heap.size ≤ k_ ∧ k_ < w1.heap.size) ∧ k_ ≠ gb1_ ∧ f0_ k_ = 0) then 0 else (if ((w.heap.size ≤ k_ ∧ k_ < w1.heap.size) ∧ k_ ≠ gb1_ ∧ f0_ k_ = 1) then 1 else (if ((w.heap.size ≤ k_ ∧ k_ < w1.heap.size) ∧ k_ ≠ gb1_ ∧ f0_ k_ = 2) then 2 else (if ((w.heap.size ≤ k_ ∧ k_ < w1.heap.size) ∧ k_ ≠ gb1_ ∧ f0_ k_ = 3) then 3 else 4)))), fun _ => rfl⟩
  have hcol0_ : ∀ k_, (((w.heap.size ≤ k_ ∧ k_ < w1.heap.size) ∧ k_ ≠ gb1_ ∧ f0_ k_ = 0)) → ((w.heap.size ≤ k_ ∧ k_ < w1.heap.size) ∧ k_ ≠ gb1_ ∧ f_ k_ = 0) := fun k_ hk_ => ⟨by have := HS.out; omega, by have := HS.out; omega, by rw [hf_]; have := HS.out; repeat' (first | omega | split)⟩
  have hcol1_ : ∀ k_, (((w.heap.size ≤ k_ ∧ k_ < w1.heap.size) ∧ k_ ≠ gb1_ ∧ f0_ k_ = 1)) → ((w.heap.size ≤ k_ ∧ k_ < w1.heap.size) ∧ k_ ≠ gb1_ ∧ f_ k_ = 1) := fun k_ hk_ => ⟨by have := HS.out; omega, by have := HS.out; omega, by rw [hf_]; have := HS.out; repeat' (first | omega | split)⟩
  have hcol2_ : ∀ k_, (((w.heap.size ≤ k_ ∧ k_ < w1.heap.size) ∧ k_ ≠ gb1_ ∧ f0_ k_ = 2)) → ((w.heap.size ≤ k_ ∧ k_ < w1.heap.size) ∧ k_ ≠ gb1_ ∧ f_ k_ = 2) := fun k_ hk_ => ⟨by have := HS.out; omega, by have := HS.out; omega, by rw [hf_]; have := HS.out; repeat' (first | omega | split)⟩
  have hcol3_ : ∀ k_, (((w.heap.size ≤ k_ ∧ k_ < w1.heap.size) ∧ k_ ≠ gb1_ ∧ f0_ k_ = 3)) → ((w.heap.size ≤ k_ ∧ k_ < w1.heap.size) ∧ k_ ≠ gb1_ ∧ f_ k_ = 3) := fun k_ hk_ => ⟨by have := HS.out; omega, by have := HS.out; omega, by rw [hf_]; have := HS.out; repeat' (first | omega | split)⟩
  have hfk_ : ∀ k_, k_ < w1.heap.size → f_ k_ < 4 → k_ = gb1_ ∨ f0_ k_ < 4 := fun k_ h1_ h2_ => by have := HS.out; rw [hf_] at h2_; repeat' (first | omega | split at h2_)
  first | exact ⟨f_, _, _, _, _, rfl, BK1.out, Kd.S_mono HO0_1.out hcol0_, Kd.S_mono HO0_4.out hcol1_, Kd.S_mono HO0_5.out hcol2_, Kd.R_mono HO0_6.out hcol3_, hfk_, HB.out, HK.out⟩ | exact ⟨rfl, f_, _, _, _, _, BK1.out, Kd.S_mono HO0_1.out hcol0_, Kd.S_mono HO0_4.out hcol1_, Kd.S_mono HO0_5.out hcol2_, Kd.R_mono HO0_6.out hcol3_, hfk_, HB.out, HK.out⟩
 rw [if_neg hc1_] at H
 have hc1_b0 : ((l0_6.length : Int) == 0) = false := beq_eq_false_iff_ne.mpr hc1_
 have hc1_bn : ((l0_6.length : Int) != 0) = true := bne_iff_ne.mpr hc1_
 have hc1_b1 : (l0_6.length == 0) = false := by first | simpa using hc1_ | (simp at hc1_ ⊢; omega)
 by_cases hp2_ : 0 ≤ (0 : Int)
 case neg => rw [if_neg hp2_] at H; cases H
 rw [if_pos hp2_] at H
 by_cases hq2_ : (0 : Int) < (l0_6.length : Int)
 case neg => rw [if_neg hq2_] at H; cases H
 rw [if_pos hq2_] at H
 have EB2 := A_.mk (And.intro hp2_ hq2_)
 have hn2_ : (0 < l0_6.length) = True := eq_true (by omega)
 replace hp2_ := eq_true hp2_
 replace hq2_ := eq_true hq2_
 by_cases hp3_ : 0 ≤ (0 : Int)
 case neg => rw [if_neg hp3_] at H; cases H
 rw [if_pos hp3_] at H
 by_cases hq3_ : (0 : Int) < (l0_6.length : Int)
 case neg => rw [if_neg hq3_] at H; cases H
 rw [if_pos hq3_] at H
 have EB3 := A_.mk (And.intro hp3_ hq3_)
 clear hp3_ hq3_
 obtain ⟨y1, Ny1⟩ : ∃ q_, q_ = (l0_6.eraseIdx ((0 : Int)).toNat) := ⟨_, rfl⟩
 rw [← Ny1] at H
 replace Ny1 := A_.mk Ny1
 replace H := oa_ H
 obtain ⟨⟨t2, t3, t4, t5⟩, A5, H⟩ := H
 try dsimp only at H
 by_cases hc2_ : 100 ≤ (rd l0_6 (0 : Int))
 case pos =>
  rw [if_pos hc2_] at H
  have hc2_b0 : decide (100 ≤ (rd l0_6 (0 : Int))) = true := decide_eq_true hc2_
  replace hc2_ := A_.mk hc2_
  replace H := oa_ H
  obtain ⟨⟨t6, t7, t8⟩, A7, H⟩ := H
  try dsimp only at H
  simp only [Option.some.injEq, Prod.mk.injEq] at H
  obtain ⟨rfl, rfl, rfl, rfl, rfl, rfl, rfl, rfl⟩ := H
  have hu34 := Try.underlying34
  go_enter Try.func18, Try.ntmps18
  have Q1 := blk7_ BK1.out
  obtain ⟨gHO0_6_, ed_⟩ := R_at0 HO0_6.out (by have := EB2.out; omega)
  subst ed_
  have QE2 := (show w1.cell? ⟨gHO0_6_, 0, none⟩ = some (.int .i64 (rd l0_6 (0 : Int))) from rcl_ HO0_6.out EB2.out)
  have QF2 := (show w1.frozen? ⟨gHO0_6_, 0, none⟩ = false from rcf_ HO0_6.out EB2.out)
  go_wp2_with (first | ((with_reducible refine gc_ (f := 41) rfl ?_); have gd3_ := 0; refine gl_ (some 21) Try.func41 #[.slice (some ⟨gHO0_6_, 0, none⟩) l0_6.length c0_6, .int .i64 (0 : Int), .int .i64 1] ?_; refine (calls_cast (by rw [show wrap64 ((0 : Int) + 1) = 1 from (by unfold wrap64; omega)]) (slices_Delete_3.calls (fun k_ => ((w.heap.size ≤ k_ ∧ k_ < w1.heap.size) ∧ k_ ≠ gb1_ ∧ f0_ k_ = 3)) _ _ _ l0_6 (0 : Int) w _ HB.out HO0_6.out EB3.out.1 EB3.out.2)).mono ?_; rintro e w3_ ⟨he_, ho, hb2, hkp⟩; rw [← Ny1.out] at ho; have hl_ := (Kd.R_reads' ho).1; rw [hl_] at he_ ho; subst he_; clear hl_; refine ⟨_, rfl, ?_⟩; replace hkp := Kept.mono (S' := fun k_ => ((w.heap.size ≤ k_ ∧ k_ < w1.heap.size) ∧ k_ ≠ gb1_ ∧ f0_ k_ = 3)) hkp (fun k_ e_ => by subst e_; exact HO0_6.out.1 _ rfl); replace HK := A_.mk (HK.out.then_ hkp (fun k_ h_ => by have := HS.out; (try dsimp only at h_ ⊢); omega)); replace HO0_1 := aSk HO0_1 hkp HS; replace HO0_4 := aSk HO0_4 hkp HS; replace HO0_5 := aSk HO0_5 hkp HS; replace BK1 := aBk BK1 hkp HS; replace HS := aHs HS hkp.1; have HO3 := A_.mk ho; replace HB := A_.mk hb2; clear hkp hb2 ho HO0_6 Q1 QE2 QF2; have Q1 := blk7_ BK1.out) | ((with_reducible refine gate_store (t := 32) (p := 23) rfl ?_); have qf0 := bf_ BK1.out 6; refine se_ (t := 32) (p := 23) (v := ?vo_4) (w1 := (w3_.setCell ⟨gb1_, 6, none⟩ (.slice (some ⟨gHO0_6_, 0, none⟩) y1.length c0_6))) ?hg ?ho ?hn ?hr ?_; (case ho => rfl); (case hg => rfl); (case hn => rfl); (case hr => first | (go_simp; done) | (go_simp; rfl)); intro w4_ hw; clear qf0; have hge : w.heap.size ≤ gb1_ := (by have := HS.out; omega); have hkp : Kept w3_ w4_ (fun k_ => k_ = gb1_) := (by rw [hw]; exact (Kept.of_set (Kept.refl _ _) _ _)); have hbb : Below w.heap.size w w4_ := (by rw [hw]; exact (bs_ HB.out hge)); have hbx : w4_.heap[gb1_]? = some (.cells #[.int .i64 a0_0, .slice A0_1 l0_1.length c0_1, .int .i64 a0_2, .int .i64 a0_3, .slice A0_4 l0_4.length c0_4, .slice A0_5 l0_5.length c0_5, .slice (some ⟨gHO0_6_, 0, none⟩) y1.length c0_6] 34 (0, 0)) := (by rw [hw]; exact (bp_ (cs := #[.int .i64 a0_0, .slice A0_1 l0_1.length c0_1, .int .i64 a0_2, .int .i64 a0_3, .slice A0_4 l0_4.length c0_4, .slice A0_5 l0_5.length c0_5, .slice (some ⟨gHO0_6_, 0, none⟩) l0_6.length c0_6]) BK1.out 6 _ rfl)); clear hw; replace HK := A_.mk (HK.out.then_ hkp (fun k_ h_ => by have := HS.out; (try dsimp only at h_ ⊢); omega)); replace HO0_1 := aSk HO0_1 hkp HS; replace HO0_4 := aSk HO0_4 hkp HS; replace HO0_5 := aSk HO0_5 hkp HS; replace HO3 := aRk HO3 hkp HS; replace BK1 := A_.mk hbx; replace HB := A_.mk hbb; replace HS := aHs HS hkp.1; clear hkp hbb hbx hge Q1; have Q1 := blk7_ BK1.out) | ((with_reducible refine gc_ (f := 42) rfl ?_); refine gl_ (some 32) Try.func42 #[.agg #[.int .i64 a0_0, .slice A0_1 l0_1.length c0_1, .int .i64 a0_2], .int .i64 (Int.tmod (rd l0_6 (0 : Int)) 100)] ?_; (with_reducible refine (impl_TakeAck.calls k a0_0 _ _ l0_1 a0_2 (Int.tmod (rd l0_6 (0 : Int)) 100) t2 t3 t4 t5 _ (Kd.S_reads' HO0_1.out).2.2 (Kd.S_reads' HO0_1.out).2.1 A5.out).mono ?_); rintro e w5_ ⟨f5_, v0_, rfl, ho0_, hb⟩; refine ⟨_, rfl, ?_⟩; replace HS := aHs HS hb.size; obtain ⟨Ao5_0, co5_0, ev_⟩ := Kd.S_slice ho0_; subst ev_; have HO5_0 := aSn ho0_ HB.out.size; replace HO0_1 := aSb HO0_1 hb; replace HO0_4 := aSb HO0_4 hb; replace HO0_5 := aSb HO0_5 hb; replace HO3 := aRb HO3 hb; replace BK1 := aBb BK1 hb; replace HK := A_.mk (HK.out.below hb); replace HB := aHB HB hb; clear hb ho0_ Q1; have Q1 := blk7_ BK1.out) | ((with_reducible refine gate_store (t := 28) (p := 36) rfl ?_); have qf0 := bf_ BK1.out 0; have qf1 := bf_ BK1.out 1; have qf2 := bf_ BK1.out 2; refine se_ (t := 28) (p := 36) (v := ?vo_6) (w1 := (((w5_.setCell ⟨gb1_, 0, none⟩ (.int .i64 t2)).setCell ⟨gb1_, 1, none⟩ (.slice Ao5_0 t3.length co5_0)).setCell ⟨gb1_, 2, none⟩ (.int .i64 t4))) ?hg ?ho ?hn ?hr ?_; (case ho => rfl); (case hg => rfl); (case hn => rfl); (case hr => first | (go_simp; done) | (go_simp; rfl)); intro w6_ hw; clear qf0 qf1 qf2; have hge : w.heap.size ≤ gb1_ := (by have := HS.out; omega); have hkp : Kept w5_ w6_ (fun k_ => k_ = gb1_) := (by rw [hw]; exact (Kept.of_set (Kept.of_set (Kept.of_set (Kept.refl _ _) _ _) _ _) _ _)); have hbb : Below w.heap.size w w6_ := (by rw [hw]; exact (bs_ (bs_ (bs_ HB.out hge) hge) hge)); have hbx : w6_.heap[gb1_]? = some (.cells #[.int .i64 t2, .slice Ao5_0 t3.length co5_0, .int .i64 t4, .int .i64 a0_3, .slice A0_4 l0_4.length c0_4, .slice A0_5 l0_5.length c0_5, .slice (some ⟨gHO0_6_, 0, none⟩) y1.length c0_6] 34 (0, 0)) := (by rw [hw]; exact (bp_ (cs := #[.int .i64 t2, .slice Ao5_0 t3.length co5_0, .int .i64 a0_2, .int .i64 a0_3, .slice A0_4 l0_4.length c0_4, .slice A0_5 l0_5.length c0_5, .slice (some ⟨gHO0_6_, 0, none⟩) y1.length c0_6]) (bp_ (cs := #[.int .i64 t2, .slice A0_1 l0_1.length c0_1, .int .i64 a0_2, .int .i64 a0_3, .slice A0_4 l0_4.length c0_4, .slice A0_5 l0_5.length c0_5, .slice (some ⟨gHO0_6_, 0, none⟩) y1.length c0_6]) (bp_ (cs := #[.int .i64 a0_0, .slice A0_1 l0_1.length c0_1, .int .i64 a0_2, .int .i64 a0_3, .slice A0_4 l0_4.length c0_4, .slice A0_5 l0_5.length c0_5, .slice (some ⟨gHO0_6_, 0, none⟩) y1.length c0_6]) BK1.out 0 _ rfl) 1 _ rfl) 2 _ rfl)); clear hw; replace HK := A_.mk (HK.out.then_ hkp (fun k_ h_ => by have := HS.out; (try dsimp only at h_ ⊢); omega)); replace HO0_4 := aSk HO0_4 hkp HS; replace HO0_5 := aSk HO0_5 hkp HS; replace HO3 := aRk HO3 hkp HS; replace HO5_0 := aSk HO5_0 hkp HS; replace BK1 := A_.mk hbx; replace HB := A_.mk hbb; replace HS := aHs HS hkp.1; clear hkp hbb hbx hge Q1; have Q1 := blk7_ BK1.out) | ((with_reducible refine gc_ (f := 36) rfl ?_); refine gl_ (some 44) Try.func36 #[.agg #[.int .i64 t2, .slice Ao5_0 t3.length co5_0, .int .i64 t4]] ?_; (with_reducible refine (impl_Replay.calls k t2 _ _ t3 t4 t6 t7 t8 _ (Kd.S_reads' HO5_0.out).2.2 (Kd.S_reads' HO5_0.out).2.1 A7.out).mono ?_); rintro e w7_ ⟨f7_, v0_, rfl, ho0_, hb⟩; refine ⟨_, rfl, ?_⟩; replace HS := aHs HS hb.size; obtain ⟨Ao7_0, co7_0, ev_⟩ := Kd.S_slice ho0_; subst ev_; have HO7_0 := aSn ho0_ HB.out.size; replace HO0_4 := aSb HO0_4 hb; replace HO0_5 := aSb HO0_5 hb; replace HO3 := aRb HO3 hb; replace HO5_0 := aSb HO5_0 hb; replace BK1 := aBb BK1 hb; replace HK := A_.mk (HK.out.below hb); replace HB := aHB HB hb; clear hb ho0_ Q1; have Q1 := blk7_ BK1.out) | ((with_reducible refine gate_store (t := 28) (p := 46) rfl ?_); have qf0 := bf_ BK1.out 0; have qf1 := bf_ BK1.out 1; have qf2 := bf_ BK1.out 2; refine se_ (t := 28) (p := 46) (v := ?vo_8) (w1 := (((w7_.setCell ⟨gb1_, 0, none⟩ (.int .i64 t6)).setCell ⟨gb1_, 1, none⟩ (.slice Ao7_0 t7.length co7_0)).setCell ⟨gb1_, 2, none⟩ (.int .i64 t8))) ?hg ?ho ?hn ?hr ?_; (case ho => rfl); (case hg => rfl); (case hn => rfl); (case hr => first | (go_simp; done) | (go_simp; rfl)); intro w8_ hw; clear qf0 qf1 qf2; have hge : w.heap.size ≤ gb1_ := (by have := HS.out; omega); have hkp : Kept w7_ w8_ (fun k_ => k_ = gb1_) := (by rw [hw]; exact (Kept.of_set (Kept.of_set (Kept.of_set (Kept.refl _ _) _ _) _ _) _ _)); have hbb : Below w.heap.size w w8_ := (by rw [hw]; exact (bs_ (bs_ (bs_ HB.out hge) hge) hge)); have hbx : w8_.heap[gb1_]? = some (.cells #[.int .i64 t6, .slice Ao7_0 t7.length co7_0, .int .i64 t8, .int .i64 a0_3, .slice A0_4 l0_4.length c0_4, .slice A0_5 l0_5.length c0_5, .slice (some ⟨gHO0_6_, 0, none⟩) y1.length c0_6] 34 (0, 0)) := (by rw [hw]; exact (bp_ (cs := #[.int .i64 t6, .slice Ao7_0 t7.length co7_0, .int .i64 t4, .int .i64 a0_3, .slice A0_4 l0_4.length c0_4, .slice A0_5 l0_5.length c0_5, .slice (some ⟨gHO0_6_, 0, none⟩) y1.length c0_6]) (bp_ (cs := #[.int .i64 t6, .slice Ao5_0 t3.length co5_0, .int .i64 t4, .int .i64 a0_3, .slice A0_4 l0_4.length c0_4, .slice A0_5 l0_5.length c0_5, .slice (some ⟨gHO0_6_, 0, none⟩) y1.length c0_6]) (bp_ (cs := #[.int .i64 t2, .slice Ao5_0 t3.length co5_0, .int .i64 t4, .int .i64 a0_3, .slice A0_4 l0_4.length c0_4, .slice A0_5 l0_5.length c0_5, .slice (some ⟨gHO0_6_, 0, none⟩) y1.length c0_6]) BK1.out 0 _ rfl) 1 _ rfl) 2 _ rfl)); clear hw; replace HK := A_.mk (HK.out.then_ hkp (fun k_ h_ => by have := HS.out; (try dsimp only at h_ ⊢); omega)); replace HO0_4 := aSk HO0_4 hkp HS; replace HO0_5 := aSk HO0_5 hkp HS; replace HO3 := aRk HO3 hkp HS; replace HO7_0 := aSk HO7_0 hkp HS; replace BK1 := A_.mk hbx; replace HB := A_.mk hbb; replace HS := aHs HS hkp.1; clear hkp hbb hbx hge Q1; have Q1 := blk7_ BK1.out))
  go_ret
  obtain ⟨f_, hf_⟩ : ∃ f_ : Nat → Nat, ∀ k_, f_ k_ = (if ((w6_.heap.size ≤ k_ ∧ k_ < w7_.heap.size) ∧ f7_ k_ = 0) then 0 else (if ((w.heap.size ≤ k_ ∧ k_ < w1.heap.size) ∧ k_ ≠ gb1_ ∧ f0_ k_ = 1) then 1 else (if ((w.heap.size ≤ k_ ∧ k_ < w1.heap.size) ∧ k_ ≠ gb1_ ∧ f0_ k_ = 2) then 2 else (if ((w.heap.size ≤ k_ ∧ k_ < w1.heap.size) ∧ k_ ≠ gb1_ ∧ f0_ k_ = 3) then 3 else 4)))) := ⟨fun k_ => (if ((w6_.heap.size ≤ k_ ∧ k_ < w7_.heap.size) ∧ f7_ k_ = 0) then 0 else (if ((w.heap.size ≤ k_ ∧ k_ < w1.heap.size) ∧ k_ ≠ gb1_ ∧ f0_ k_ = 1) then 1 else (if ((w.heap.size ≤ k_ ∧ k_ < w1.heap.size) ∧ k_ ≠ gb1_ ∧ f0_ k_ = 2) then 2 else (if ((w.heap.size ≤ k_ ∧ k_ < w1.heap.size) ∧ k_ ≠ gb1_ ∧ f0_ k_ = 3) then 3 else 4)))), fun _ => rfl⟩
  have hcol0_ : ∀ k_, (((w6_.heap.size ≤ k_ ∧ k_ < w7_.heap.size) ∧ f7_ k_ = 0)) → ((w.heap.size ≤ k_ ∧ k_ < w8_.heap.size) ∧ k_ ≠ gb1_ ∧ f_ k_ = 0) := fun k_ hk_ => ⟨by have := HS.out; omega, by have := HS.out; omega, by rw [hf_]; have := HS.out; repeat' (first | omega | split)⟩
  have hcol1_ : ∀ k_, (((w.heap.size ≤ k_ ∧ k_ < w1.heap.size) ∧ k_ ≠ gb1_ ∧ f0_ k_ = 1)) → ((w.heap.size ≤ k_ ∧ k_ < w8_.heap.size) ∧ k_ ≠ gb1_ ∧ f_ k_ = 1) := fun k_ hk_ => ⟨by have := HS.out; omega, by have := HS.out; omega, by rw [hf_]; have := HS.out; repeat' (first | omega | split)⟩
  have hcol2_ : ∀ k_, (((w.heap.size ≤ k_ ∧ k_ < w1.heap.size) ∧ k_ ≠ gb1_ ∧ f0_ k_ = 2)) → ((w.heap.size ≤ k_ ∧ k_ < w8_.heap.size) ∧ k_ ≠ gb1_ ∧ f_ k_ = 2) := fun k_ hk_ => ⟨by have := HS.out; omega, by have := HS.out; omega, by rw [hf_]; have := HS.out; repeat' (first | omega | split)⟩
  have hcol3_ : ∀ k_, (((w.heap.size ≤ k_ ∧ k_ < w1.heap.size) ∧ k_ ≠ gb1_ ∧ f0_ k_ = 3)) → ((w.heap.size ≤ k_ ∧ k_ < w8_.heap.size) ∧ k_ ≠ gb1_ ∧ f_ k_ = 3) := fun k_ hk_ => ⟨by have := HS.out; omega, by have := HS.out; omega, by rw [hf_]; have := HS.out; repeat' (first | omega | split)⟩
  have hfk_ : ∀ k_, k_ < w1.heap.size → f_ k_ < 4 → k_ = gb1_ ∨ f0_ k_ < 4 := fun k_ h1_ h2_ => by have := HS.out; rw [hf_] at h2_; repeat' (first | omega | split at h2_)
  first | exact ⟨f_, _, _, _, _, rfl, BK1.out, Kd.S_mono HO7_0.out hcol0_, Kd.S_mono HO0_4.out hcol1_, Kd.S_mono HO0_5.out hcol2_, Kd.R_mono HO3.out hcol3_, hfk_, HB.out, HK.out⟩ | exact ⟨rfl, f_, _, _, _, _, BK1.out, Kd.S_mono HO7_0.out hcol0_, Kd.S_mono HO0_4.out hcol1_, Kd.S_mono HO0_5.out hcol2_, Kd.R_mono HO3.out hcol3_, hfk_, HB.out, HK.out⟩
 rw [if_neg hc2_] at H
 have hc2_b0 : decide (100 ≤ (rd l0_6 (0 : Int))) = false := decide_eq_false hc2_
 replace hc2_ := A_.mk hc2_
 simp only [Option.some.injEq, Prod.mk.injEq] at H
 obtain ⟨rfl, rfl, rfl, rfl, rfl, rfl, rfl, rfl⟩ := H
 have hu34 := Try.underlying34
 go_enter Try.func18, Try.ntmps18
 have Q1 := blk7_ BK1.out
 obtain ⟨gHO0_6_, ed_⟩ := R_at0 HO0_6.out (by have := EB2.out; omega)
 subst ed_
 have QE2 := (show w1.cell? ⟨gHO0_6_, 0, none⟩ = some (.int .i64 (rd l0_6 (0 : Int))) from rcl_ HO0_6.out EB2.out)
 have QF2 := (show w1.frozen? ⟨gHO0_6_, 0, none⟩ = false from rcf_ HO0_6.out EB2.out)
 go_wp2_with (first | ((with_reducible refine gc_ (f := 41) rfl ?_); have gd3_ := 0; refine gl_ (some 21) Try.func41 #[.slice (some ⟨gHO0_6_, 0, none⟩) l0_6.length c0_6, .int .i64 (0 : Int), .int .i64 1] ?_; refine (calls_cast (by rw [show wrap64 ((0 : Int) + 1) = 1 from (by unfold wrap64; omega)]) (slices_Delete_3.calls (fun k_ => ((w.heap.size ≤ k_ ∧ k_ < w1.heap.size) ∧ k_ ≠ gb1_ ∧ f0_ k_ = 3)) _ _ _ l0_6 (0 : Int) w _ HB.out HO0_6.out EB3.out.1 EB3.out.2)).mono ?_; rintro e w3_ ⟨he_, ho, hb2, hkp⟩; rw [← Ny1.out] at ho; have hl_ := (Kd.R_reads' ho).1; rw [hl_] at he_ ho; subst he_; clear hl_; refine ⟨_, rfl, ?_⟩; replace hkp := Kept.mono (S' := fun k_ => ((w.heap.size ≤ k_ ∧ k_ < w1.heap.size) ∧ k_ ≠ gb1_ ∧ f0_ k_ = 3)) hkp (fun k_ e_ => by subst e_; exact HO0_6.out.1 _ rfl); replace HK := A_.mk (HK.out.then_ hkp (fun k_ h_ => by have := HS.out; (try dsimp only at h_ ⊢); omega)); replace HO0_1 := aSk HO0_1 hkp HS; replace HO0_4 := aSk HO0_4 hkp HS; replace HO0_5 := aSk HO0_5 hkp HS; replace BK1 := aBk BK1 hkp HS; replace HS := aHs HS hkp.1; have HO3 := A_.mk ho; replace HB := A_.mk hb2; clear hkp hb2 ho HO0_6 Q1 QE2 QF2; have Q1 := blk7_ BK1.out) | ((with_reducible refine gate_store (t := 32) (p := 23) rfl ?_); have qf0 := bf_ BK1.out 6; refine se_ (t := 32) (p := 23) (v := ?vo_4) (w1 := (w3_.setCell ⟨gb1_, 6, none⟩ (.slice (some ⟨gHO0_6_, 0, none⟩) y1.length c0_6))) ?hg ?ho ?hn ?hr ?_; (case ho => rfl); (case hg => rfl); (case hn => rfl); (case hr => first | (go_simp; done) | (go_simp; rfl)); intro w4_ hw; clear qf0; have hge : w.heap.size ≤ gb1_ := (by have := HS.out; omega); have hkp : Kept w3_ w4_ (fun k_ => k_ = gb1_) := (by rw [hw]; exact (Kept.of_set (Kept.refl _ _) _ _)); have hbb : Below w.heap.size w w4_ := (by rw [hw]; exact (bs_ HB.out hge)); have hbx : w4_.heap[gb1_]? = some (.cells #[.int .i64 a0_0, .slice A0_1 l0_1.length c0_1, .int .i64 a0_2, .int .i64 a0_3, .slice A0_4 l0_4.length c0_4, .slice A0_5 l0_5.length c0_5, .slice (some ⟨gHO0_6_, 0, none⟩) y1.length c0_6] 34 (0, 0)) := (by rw [hw]; exact (bp_ (cs := #[.int .i64 a0_0, .slice A0_1 l0_1.length c0_1, .int .i64 a0_2, .int .i64 a0_3, .slice A0_4 l0_4.length c0_4, .slice A0_5 l0_5.length c0_5, .slice (some ⟨gHO0_6_, 0, none⟩) l0_6.length c0_6]) BK1.out 6 _ rfl)); clear hw; replace HK := A_.mk (HK.out.then_ hkp (fun k_ h_ => by have := HS.out; (try dsimp only at h_ ⊢); omega)); replace HO0_1 := aSk HO0_1 hkp HS; replace HO0_4 := aSk HO0_4 hkp HS; replace HO0_5 := aSk HO0_5 hkp HS; replace HO3 := aRk HO3 hkp HS; replace BK1 := A_.mk hbx; replace HB := A_.mk hbb; replace HS := aHs HS hkp.1; clear hkp hbb hbx hge Q1; have Q1 := blk7_ BK1.out) | ((with_reducible refine gc_ (f := 42) rfl ?_); refine gl_ (some 32) Try.func42 #[.agg #[.int .i64 a0_0, .slice A0_1 l0_1.length c0_1, .int .i64 a0_2], .int .i64 (Int.tmod (rd l0_6 (0 : Int)) 100)] ?_; (with_reducible refine (impl_TakeAck.calls k a0_0 _ _ l0_1 a0_2 (Int.tmod (rd l0_6 (0 : Int)) 100) t2 t3 t4 t5 _ (Kd.S_reads' HO0_1.out).2.2 (Kd.S_reads' HO0_1.out).2.1 A5.out).mono ?_); rintro e w5_ ⟨f5_, v0_, rfl, ho0_, hb⟩; refine ⟨_, rfl, ?_⟩; replace HS := aHs HS hb.size; obtain ⟨Ao5_0, co5_0, ev_⟩ := Kd.S_slice ho0_; subst ev_; have HO5_0 := aSn ho0_ HB.out.size; replace HO0_1 := aSb HO0_1 hb; replace HO0_4 := aSb HO0_4 hb; replace HO0_5 := aSb HO0_5 hb; replace HO3 := aRb HO3 hb; replace BK1 := aBb BK1 hb; replace HK := A_.mk (HK.out.below hb); replace HB := aHB HB hb; clear hb ho0_ Q1; have Q1 := blk7_ BK1.out) | ((with_reducible refine gate_store (t := 28) (p := 36) rfl ?_); have qf0 := bf_ BK1.out 0; have qf1 := bf_ BK1.out 1; have qf2 := bf_ BK1.out 2; refine se_ (t := 28) (p := 36) (v := ?vo_6) (w1 := (((w5_.setCell ⟨gb1_, 0, none⟩ (.int .i64 t2)).setCell ⟨gb1_, 1, none⟩ (.slice Ao5_0 t3.length co5_0)).setCell ⟨gb1_, 2, none⟩ (.int .i64 t4))) ?hg ?ho ?hn ?hr ?_; (case ho => rfl); (case hg => rfl); (case hn => rfl); (case hr => first | (go_simp; done) | (go_simp; rfl)); intro w6_ hw; clear qf0 qf1 qf2; have hge : w.heap.size ≤ gb1_ := (by have := HS.out; omega); have hkp : Kept w5_ w6_ (fun k_ => k_ = gb1_) := (by rw [hw]; exact (Kept.of_set (Kept.of_set (Kept.of_set (Kept.refl _ _) _ _) _ _) _ _)); have hbb : Below w.heap.size w w6_ := (by rw [hw]; exact (bs_ (bs_ (bs_ HB.out hge) hge) hge)); have hbx : w6_.heap[gb1_]? = some (.cells #[.int .i64 t2, .slice Ao5_0 t3.length co5_0, .int .i64 t4, .int .i64 a0_3, .slice A0_4 l0_4.length c0_4, .slice A0_5 l0_5.length c0_5, .slice (some ⟨gHO0_6_, 0, none⟩) y1.length c0_6] 34 (0, 0)) := (by rw [hw]; exact (bp_ (cs := #[.int .i64 t2, .slice Ao5_0 t3.length co5_0, .int .i64 a0_2, .int .i64 a0_3, .slice A0_4 l0_4.length c0_4, .slice A0_5 l0_5.length c0_5, .slice (some ⟨gHO0_6_, 0, none⟩) y1.length c0_6]) (bp_ (cs := #[.int .i64 t2, .slice A0_1 l0_1.length c0_1, .int .i64 a0_2, .int .i64 a0_3, .slice A0_4 l0_4.length c0_4, .slice A0_5 l0_5.length c0_5, .slice (some ⟨gHO0_6_, 0, none⟩) y1.length c0_6]) (bp_ (cs := #[.int .i64 a0_0, .slice A0_1 l0_1.length c0_1, .int .i64 a0_2, .int .i64 a0_3, .slice A0_4 l0_4.length c0_4, .slice A0_5 l0_5.length c0_5, .slice (some ⟨gHO0_6_, 0, none⟩) y1.length c0_6]) BK1.out 0 _ rfl) 1 _ rfl) 2 _ rfl)); clear hw; replace HK := A_.mk (HK.out.then_ hkp (fun k_ h_ => by have := HS.out; (try dsimp only at h_ ⊢); omega)); replace HO0_4 := aSk HO0_4 hkp HS; replace HO0_5 := aSk HO0_5 hkp HS; replace HO3 := aRk HO3 hkp HS; replace HO5_0 := aSk HO5_0 hkp HS; replace BK1 := A_.mk hbx; replace HB := A_.mk hbb; replace HS := aHs HS hkp.1; clear hkp hbb hbx hge Q1; have Q1 := blk7_ BK1.out))
 go_ret
 obtain ⟨f_, hf_⟩ : ∃ f_ : Nat → Nat, ∀ k_, f_ k_ = (if ((w4_.heap.size ≤ k_ ∧ k_ < w5_.heap.size) ∧ f5_ k_ = 0) then 0 else (if ((w.heap.size ≤ k_ ∧ k_ < w1.heap.size) ∧ k_ ≠ gb1_ ∧ f0_ k_ = 1) then 1 else (if ((w.heap.size ≤ k_ ∧ k_ < w1.heap.size) ∧ k_ ≠ gb1_ ∧ f0_ k_ = 2) then 2 else (if ((w.heap.size ≤ k_ ∧ k_ < w1.heap.size) ∧ k_ ≠ gb1_ ∧ f0_ k_ = 3) then 3 else 4)))) := ⟨fun k_ => (if ((w4_.heap.size ≤ k_ ∧ k_ < w5_.heap.size) ∧ f5_ k_ = 0) then 0 else (if ((w.heap.size ≤ k_ ∧ k_ < w1.heap.size) ∧ k_ ≠ gb1_ ∧ f0_ k_ = 1) then 1 else (if ((w.heap.size ≤ k_ ∧ k_ < w1.heap.size) ∧ k_ ≠ gb1_ ∧ f0_ k_ = 2) then 2 else (if ((w.heap.size ≤ k_ ∧ k_ < w1.heap.size) ∧ k_ ≠ gb1_ ∧ f0_ k_ = 3) then 3 else 4)))), fun _ => rfl⟩
 have hcol0_ : ∀ k_, (((w4_.heap.size ≤ k_ ∧ k_ < w5_.heap.size) ∧ f5_ k_ = 0)) → ((w.heap.size ≤ k_ ∧ k_ < w6_.heap.size) ∧ k_ ≠ gb1_ ∧ f_ k_ = 0) := fun k_ hk_ => ⟨by have := HS.out; omega, by have := HS.out; omega, by rw [hf_]; have := HS.out; repeat' (first | omega | split)⟩
 have hcol1_ : ∀ k_, (((w.heap.size ≤ k_ ∧ k_ < w1.heap.size) ∧ k_ ≠ gb1_ ∧ f0_ k_ = 1)) → ((w.heap.size ≤ k_ ∧ k_ < w6_.heap.size) ∧ k_ ≠ gb1_ ∧ f_ k_ = 1) := fun k_ hk_ => ⟨by have := HS.out; omega, by have := HS.out; omega, by rw [hf_]; have := HS.out; repeat' (first | omega | split)⟩
 have hcol2_ : ∀ k_, (((w.heap.size ≤ k_ ∧ k_ < w1.heap.size) ∧ k_ ≠ gb1_ ∧ f0_ k_ = 2)) → ((w.heap.size ≤ k_ ∧ k_ < w6_.heap.size) ∧ k_ ≠ gb1_ ∧ f_ k_ = 2) := fun k_ hk_ => ⟨by have := HS.out; omega, by have := HS.out; omega, by rw [hf_]; have := HS.out; repeat' (first | omega | split)⟩
 have hcol3_ : ∀ k_, (((w.heap.size ≤ k_ ∧ k_ < w1.heap.size) ∧ k_ ≠ gb1_ ∧ f0_ k_ = 3)) → ((w.heap.size ≤ k_ ∧ k_ < w6_.heap.size) ∧ k_ ≠ gb1_ ∧ f_ k_ = 3) := fun k_ hk_ => ⟨by have := HS.out; omega, by have := HS.out; omega, by rw [hf_]; have := HS.out; repeat' (first | omega | split)⟩
 have hfk_ : ∀ k_, k_ < w1.heap.size → f_ k_ < 4 → k_ = gb1_ ∨ f0_ k_ < 4 := fun k_ h1_ h2_ => by have := HS.out; rw [hf_] at h2_; repeat' (first | omega | split at h2_)
 first | exact ⟨f_, _, _, _, _, rfl, BK1.out, Kd.S_mono HO5_0.out hcol0_, Kd.S_mono HO0_4.out hcol1_, Kd.S_mono HO0_5.out hcol2_, Kd.R_mono HO3.out hcol3_, hfk_, HB.out, HK.out⟩ | exact ⟨rfl, f_, _, _, _, _, BK1.out, Kd.S_mono HO5_0.out hcol0_, Kd.S_mono HO0_4.out hcol1_, Kd.S_mono HO0_5.out hcol2_, Kd.R_mono HO3.out hcol3_, hfk_, HB.out, HK.out⟩
end Go.Proofs.Ytflopendlbciaaa.PFnLinkOnce
