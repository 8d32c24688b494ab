-- Written by a program of this session (wip/xp): not trusted, Lean checks it.
import Derived.Test.YtbdehpmfemgooaaPFnPassersx0
import Derived.Test.YtbdehpmfemgooaaPFnPassersx3
import Derived.Test.YtbdehpmfemgooaaPFnPassersx4
namespace Go.Proofs.Ytbdehpmfemgooaa.PFnPassers
open Go.RowKit Go.Proofs.YtbdehpmfemgooaaW.PrintWords Go.Proofs.YtbdehpmfemgooaaW.PrintLast Go.Proofs.YtbdehpmfemgooaaW.PrintMore
attribute [local go_sem] max2_int min2_int max_two min_two max_three min_three max_four min_four   -- for this text's walks alone
set_option linter.unusedVariables false
set_option linter.unusedSimpArgs false

theorem calls_castP {P : Program} {n : Nat} {a b : Array Value} {w : World} {Q : Ending → World → Prop} (h : a = b) (hc : Calls P n a w Q) : Calls P n b w Q := h ▸ hc

/-! ### impl_passes_1: function 75, told by hand: a closure over a row of packets and a place -/
def impl_passes_1.f (k : Nat) (q : S60) (a0_0 : Int) (a0_1 : Int) (a0_2 : Int) (a0_3 : Int) (a0_4 : Int) (a0_5 : Int) (a0_6 : Int) (l0_7 : List Int) : Option (Bool) := (impl_IsPacket.f k a0_0 a0_1 a0_2 a0_3 a0_4 a0_5 a0_6 l0_7).bind fun t => (if t = true then ((impl_MayPass.f k (q).f0 (q).f1 (q).f2 (q).f3 (q).f4 (q).f5 (q).f6 (q).f7 a0_0 a0_1 a0_2 a0_3 a0_4 a0_5 a0_6 l0_7).bind fun u => (some (!u))) else (some false))
theorem impl_passes_1.mono : ∀ a0 a1 a2 a3 a4 a5 a6 a7 a8 k, LeO (impl_passes_1.f k a0 a1 a2 a3 a4 a5 a6 a7 a8) (impl_passes_1.f (k + 1) a0 a1 a2 a3 a4 a5 a6 a7 a8) := by
  intro a0 a1 a2 a3 a4 a5 a6 a7 a8 k
  unfold impl_passes_1.f
  repeat' first
      | (with_reducible exact impl_IsPacket.mono _ _ _ _ _ _ _ _ _)
      | (with_reducible exact impl_MayPass.mono _ _ _ _ _ _ _ _ _ _ _ _ _ _ _ _ _)
      | (with_reducible exact LeO.refl _)
      | (with_reducible exact LeO.none _)
      | (with_reducible refine LeO.ite ?_ ?_)
      | (with_reducible refine LeO.bind ?_ (fun _ => ?_))
      | exact impl_IsPacket.mono _ _ _ _ _ _ _ _ _
      | exact impl_MayPass.mono _ _ _ _ _ _ _ _ _ _ _ _ _ _ _ _ _
      | exact LeO.none _
      | refine LeO.ite ?_ ?_
      | refine LeO.bind ?_ (fun _ => ?_)
set_option maxHeartbeats 8000000 in
set_option maxRecDepth 100000 in
theorem impl_passes_1.calls (k : Nat) (gq gi : Nat) (Aq : Option Addr) (cq : Nat) (lq : List (S60)) (iq : Int) (a0_0 : Int) (a0_1 : Int) (a0_2 : Int) (a0_3 : Int) (a0_4 : Int) (a0_5 : Int) (a0_6 : Int) (A0_7 : Option Addr) (c0_7 : Nat) (l0_7 : List Int) (r : Bool) (w : World) (hbq : w.heap[gq]? = some (.cells #[.slice Aq lq.length cq] 27 (0, 0))) (hbi : w.heap[gi]? = some (.cells #[.int .i64 iq] 3 (0, 0))) (hrq : Kd.C k60 w Aq lq.length lq) (hcq : lq.length ≤ cq) (hi0 : 0 ≤ iq) (hi1 : iq < lq.length) (hr0_7 : Kd.C (Kd.int .i64) w A0_7 l0_7.length l0_7) (hc0_7 : l0_7.length ≤ c0_7) (h : impl_passes_1.f k (rd_T60 lq iq) a0_0 a0_1 a0_2 a0_3 a0_4 a0_5 a0_6 l0_7 = some r) :
    Calls Try.prog 75 #[.agg #[.int .i64 a0_0, .int .i64 a0_1, .int .i64 a0_2, .int .i64 a0_3, .int .i64 a0_4, .int .i64 a0_5, .int .i64 a0_6, .slice A0_7 l0_7.length c0_7], .pointer (some ⟨gq, 0, none⟩), .pointer (some ⟨gi, 0, none⟩)] w fun e w' => e = .returned (.bool r) ∧ Below w.heap.size w w' := by
  have hu60 := Try.underlying60
  have HR0 := Aside0.mk hr0_7
  have HC0 := Aside0.mk hc0_7
  have BQ := Aside0.mk hbq
  have BI := Aside0.mk hbi
  have HB := Aside0.mk (Below.refl w.heap.size w)
  have H := h
  unfold impl_passes_1.f at H
  clear h hr0_7 hc0_7 hbq hbi
  obtain ⟨ad1, A1_7, c1_7, e1, hx1_0, hx1_1, hx1_2, hx1_3, hx1_4, hx1_5, hx1_6, hx1_7, hl1_7, hi1_7⟩ := at_T60 hrq iq hi0 hi1
  cases e1
  have HR1 := Aside0.mk hi1_7
  have HC1 := Aside0.mk hl1_7
  have p1 := eq_true hi0
  have q1 := eq_true hi1
  replace hx1_0 := Aside0.mk hx1_0
  replace hx1_1 := Aside0.mk hx1_1
  replace hx1_2 := Aside0.mk hx1_2
  replace hx1_3 := Aside0.mk hx1_3
  replace hx1_4 := Aside0.mk hx1_4
  replace hx1_5 := Aside0.mk hx1_5
  replace hx1_6 := Aside0.mk hx1_6
  replace hx1_7 := Aside0.mk hx1_7
  clear hrq hi1_7 hl1_7
  replace H := Option.bind_eq_some_iff.mp H
  obtain ⟨t, A10, H⟩ := H
  have A1 := Aside0.mk A10
  clear A10
  have c1 := eq_true hi0
  have c2 := decide_eq_true hi0
  have c3 := decide_eq_true hi1
  cases t with
  | false =>
    replace H : (some false) = some r := H
    obtain rfl := Option.some.inj H
    clear H
    go_enter Try.func75, Try.ntmps75
    try go_wp2_with (((with_reducible refine gate_dst (N := 3) rfl ?_); refine box_event ?hg (N := 3) ?hd (cs := #[.int .i64 a0_0, .int .i64 a0_1, .int .i64 a0_2, .int .i64 a0_3, .int .i64 a0_4, .int .i64 a0_5, .int .i64 a0_6, .slice A0_7 l0_7.length c0_7]) (t := 60) ?hr ?_; (case hd => rfl); (case hg => rfl); (case hr => first | (go_simp; done) | (go_simp; rfl)); intro gp hg w4_ hbox hb; have BP := Aside0.mk hbox; replace BQ := Aside0.mk (blk_below BQ.out hb); replace BI := Aside0.mk (blk_below BI.out hb); replace HB := Aside0.mk (below_then HB.out HB.out.size hb); clear hb hbox hg))
    replace BP := Aside0.mk (blk_drew BP.out)
    replace BQ := Aside0.mk (blk_drew BQ.out)
    replace BI := Aside0.mk (blk_drew BI.out)
    replace HB := Aside0.mk (below_drew1 HB.out)
    refine start_ (n := 12) (S := fun w' => w'.cell? ⟨gp, 0, none⟩ = some (.int .i64 a0_0) ∧ w'.cell? ⟨gp, 1, none⟩ = some (.int .i64 a0_1) ∧ w'.cell? ⟨gp, 2, none⟩ = some (.int .i64 a0_2) ∧ w'.cell? ⟨gp, 3, none⟩ = some (.int .i64 a0_3) ∧ w'.cell? ⟨gp, 4, none⟩ = some (.int .i64 a0_4) ∧ w'.cell? ⟨gp, 5, none⟩ = some (.int .i64 a0_5) ∧ w'.cell? ⟨gp, 6, none⟩ = some (.int .i64 a0_6) ∧ w'.cell? ⟨gp, 7, none⟩ = some (.slice A0_7 l0_7.length c0_7) ∧ w'.cell? ⟨gq, 0, none⟩ = some (.slice (some ad1) lq.length cq) ∧ w'.cell? ⟨gi, 0, none⟩ = some (.int .i64 iq) ∧ w'.cell? (ad1.add (iq.toNat * 8)) = some (.int .i64 (rd_T60 lq iq).f0) ∧ w'.cell? ⟨(ad1.add (iq.toNat * 8)).block, (ad1.add (iq.toNat * 8)).off + 1, none⟩ = some (.int .i64 (rd_T60 lq iq).f1) ∧ w'.cell? ⟨(ad1.add (iq.toNat * 8)).block, (ad1.add (iq.toNat * 8)).off + 2, none⟩ = some (.int .i64 (rd_T60 lq iq).f2) ∧ w'.cell? ⟨(ad1.add (iq.toNat * 8)).block, (ad1.add (iq.toNat * 8)).off + 3, none⟩ = some (.int .i64 (rd_T60 lq iq).f3) ∧ w'.cell? ⟨(ad1.add (iq.toNat * 8)).block, (ad1.add (iq.toNat * 8)).off + 4, none⟩ = some (.int .i64 (rd_T60 lq iq).f4) ∧ w'.cell? ⟨(ad1.add (iq.toNat * 8)).block, (ad1.add (iq.toNat * 8)).off + 5, none⟩ = some (.int .i64 (rd_T60 lq iq).f5) ∧ w'.cell? ⟨(ad1.add (iq.toNat * 8)).block, (ad1.add (iq.toNat * 8)).off + 6, none⟩ = some (.int .i64 (rd_T60 lq iq).f6) ∧ w'.cell? ⟨(ad1.add (iq.toNat * 8)).block, (ad1.add (iq.toNat * 8)).off + 7, none⟩ = some (.slice A1_7 (rd_T60 lq iq).f7.length c1_7)) (ds := []) #[false, false, false, false, false, false, false, false, false, false, false, false] (by kernel_rfl) rfl rfl ⟨(blk_cell BP.out 0).trans rfl, (blk_cell BP.out 1).trans rfl, (blk_cell BP.out 2).trans rfl, (blk_cell BP.out 3).trans rfl, (blk_cell BP.out 4).trans rfl, (blk_cell BP.out 5).trans rfl, (blk_cell BP.out 6).trans rfl, (blk_cell BP.out 7).trans rfl, (blk_cell BQ.out 0).trans rfl, (blk_cell BI.out 0).trans rfl, (HB.out.cell (World.block_lt_of_cell? w _ hx1_0.out)).trans hx1_0.out, (HB.out.cell (World.block_lt_of_cell? w _ hx1_1.out)).trans hx1_1.out, (HB.out.cell (World.block_lt_of_cell? w _ hx1_2.out)).trans hx1_2.out, (HB.out.cell (World.block_lt_of_cell? w _ hx1_3.out)).trans hx1_3.out, (HB.out.cell (World.block_lt_of_cell? w _ hx1_4.out)).trans hx1_4.out, (HB.out.cell (World.block_lt_of_cell? w _ hx1_5.out)).trans hx1_5.out, (HB.out.cell (World.block_lt_of_cell? w _ hx1_6.out)).trans hx1_6.out, (HB.out.cell (World.block_lt_of_cell? w _ hx1_7.out)).trans hx1_7.out⟩ (fun hHeld => ?_)
    refine take_ (i := 0) (N := some 5) (v := ?_) (a' := ?_) #[true, false, false, false, false, false, false, false, false, false, false, false] rfl rfl (by kernel_rfl) (fun _ _ _ h => h) (Or.inl ⟨by rfl, ?_⟩) hHeld ?_ ?_
    rotate_left
    · rintro w' ⟨s0, s1, s2, s3, s4, s5, s6, s7, s8, s9, s10, s11, s12, s13, s14, s15, s16, s17⟩
      go_simp
      with_reducible rfl
    rotate_left
    · simp only [Act.put, List.setIfInBounds_toArray, List.set_cons_zero, List.set_cons_succ, i64_w, i32_w]
      rfl
    refine one_ (i := 1) (N := some 6) #[true, true, false, false, false, false, false, false, false, false, false, false] rfl rfl (by kernel_rfl) (by decide) (fun K hK => ?_)
    refine goes_ Try.func65 (by kernel_rfl) rfl #[.agg #[.int .i64 a0_0, .int .i64 a0_1, .int .i64 a0_2, .int .i64 a0_3, .int .i64 a0_4, .int .i64 a0_5, .int .i64 a0_6, .slice A0_7 l0_7.length c0_7]] (by rfl) rfl rfl (by (try simp only [List.map_toArray, List.map_cons, List.map_nil]); first | done | rfl | (simp only [List.length_drop, List.length_take]; rfl)) ?_
    with_reducible refine (impl_IsPacket.calls k a0_0 a0_1 a0_2 a0_3 a0_4 a0_5 a0_6 _ _ l0_7 false _ (Kd.C_below HR0.out HB.out) HC0.out A1.out).mono ?_
    rintro e w6_ ⟨rfl, hb⟩
    refine ⟨_, rfl, ?_⟩
    replace BP := Aside0.mk (blk_below BP.out hb)
    replace BQ := Aside0.mk (blk_below BQ.out hb)
    replace BI := Aside0.mk (blk_below BI.out hb)
    replace HB := Aside0.mk (below_then HB.out HB.out.size hb)
    clear hb
    refine hK.out _ _ ⟨(blk_cell BP.out 0).trans rfl, (blk_cell BP.out 1).trans rfl, (blk_cell BP.out 2).trans rfl, (blk_cell BP.out 3).trans rfl, (blk_cell BP.out 4).trans rfl, (blk_cell BP.out 5).trans rfl, (blk_cell BP.out 6).trans rfl, (blk_cell BP.out 7).trans rfl, (blk_cell BQ.out 0).trans rfl, (blk_cell BI.out 0).trans rfl, (HB.out.cell (World.block_lt_of_cell? w _ hx1_0.out)).trans hx1_0.out, (HB.out.cell (World.block_lt_of_cell? w _ hx1_1.out)).trans hx1_1.out, (HB.out.cell (World.block_lt_of_cell? w _ hx1_2.out)).trans hx1_2.out, (HB.out.cell (World.block_lt_of_cell? w _ hx1_3.out)).trans hx1_3.out, (HB.out.cell (World.block_lt_of_cell? w _ hx1_4.out)).trans hx1_4.out, (HB.out.cell (World.block_lt_of_cell? w _ hx1_5.out)).trans hx1_5.out, (HB.out.cell (World.block_lt_of_cell? w _ hx1_6.out)).trans hx1_6.out, (HB.out.cell (World.block_lt_of_cell? w _ hx1_7.out)).trans hx1_7.out⟩ (fun hHeld => ?_)
    clear hK K
    refine norm_ (a' := ?_) ?_ ?_
    rotate_left
    · show Act.put _ (some 6) _ = _
      simp only [Act.put, List.setIfInBounds_toArray, List.set_cons_zero, List.set_cons_succ, i64_w, i32_w]
      rfl
    refine pure_ (i := 2) (N := some 7) (v := ?_) (a' := ?_) #[true, true, true, false, false, false, false, false, false, false, false, false] rfl rfl (by kernel_rfl) (fun _ _ _ h => h) (Or.inl ⟨by rfl, ?_⟩) ?_ ?_
    rotate_left
    · intro w'
      go_simp
      with_reducible rfl
    rotate_left
    · simp only [Act.put, List.setIfInBounds_toArray, List.set_cons_zero, List.set_cons_succ, i64_w, i32_w]
      rfl
    refine pure_ (i := 3) (N := some 8) (v := undef) (a' := ?_) #[true, true, true, true, false, false, false, false, false, false, false, false] rfl rfl (by kernel_rfl) (fun _ _ _ h => h) (Or.inr ⟨by rfl, by rfl⟩) ?_ ?_
    rotate_left
    · simp only [Act.put, List.setIfInBounds_toArray, List.set_cons_zero, List.set_cons_succ, i64_w, i32_w]
      rfl
    refine pure_ (i := 4) (N := some 9) (v := undef) (a' := ?_) #[true, true, true, true, true, false, false, false, false, false, false, false] rfl rfl (by kernel_rfl) (fun _ _ _ h => h) (Or.inr ⟨by rfl, by rfl⟩) ?_ ?_
    rotate_left
    · simp only [Act.put, List.setIfInBounds_toArray, List.set_cons_zero, List.set_cons_succ, i64_w, i32_w]
      rfl
    refine pure_ (i := 5) (N := some 10) (v := undef) (a' := ?_) #[true, true, true, true, true, true, false, false, false, false, false, false] rfl rfl (by kernel_rfl) (fun _ _ _ h => h) (Or.inr ⟨by rfl, by rfl⟩) ?_ ?_
    rotate_left
    · simp only [Act.put, List.setIfInBounds_toArray, List.set_cons_zero, List.set_cons_succ, i64_w, i32_w]
      rfl
    refine pure_ (i := 6) (N := some 11) (v := undef) (a' := ?_) #[true, true, true, true, true, true, true, false, false, false, false, false] rfl rfl (by kernel_rfl) (fun _ _ _ h => h) (Or.inr ⟨by rfl, by rfl⟩) ?_ ?_
    rotate_left
    · simp only [Act.put, List.setIfInBounds_toArray, List.set_cons_zero, List.set_cons_succ, i64_w, i32_w]
      rfl
    refine pure_ (i := 7) (N := some 12) (v := undef) (a' := ?_) #[true, true, true, true, true, true, true, true, false, false, false, false] rfl rfl (by kernel_rfl) (fun _ _ _ h => h) (Or.inr ⟨by rfl, by rfl⟩) ?_ ?_
    rotate_left
    · simp only [Act.put, List.setIfInBounds_toArray, List.set_cons_zero, List.set_cons_succ, i64_w, i32_w]
      rfl
    refine pure_ (i := 8) (N := some 13) (v := undef) (a' := ?_) #[true, true, true, true, true, true, true, true, true, false, false, false] rfl rfl (by kernel_rfl) (fun _ _ _ h => h) (Or.inr ⟨by rfl, by rfl⟩) ?_ ?_
    rotate_left
    · simp only [Act.put, List.setIfInBounds_toArray, List.set_cons_zero, List.set_cons_succ, i64_w, i32_w]
      rfl
    refine pure_ (i := 9) (N := some 14) (v := undef) (a' := ?_) #[true, true, true, true, true, true, true, true, true, true, false, false] rfl rfl (by kernel_rfl) (fun _ _ _ h => h) (Or.inr ⟨by rfl, by rfl⟩) ?_ ?_
    rotate_left
    · simp only [Act.put, List.setIfInBounds_toArray, List.set_cons_zero, List.set_cons_succ, i64_w, i32_w]
      rfl
    refine pure_ (i := 10) (N := some 15) (v := ?_) (a' := ?_) #[true, true, true, true, true, true, true, true, true, true, true, false] rfl rfl (by kernel_rfl) (fun _ _ _ h => h) (Or.inl ⟨by rfl, ?_⟩) ?_ ?_
    rotate_left
    · intro w'
      go_simp
      with_reducible rfl
    rotate_left
    · simp only [Act.put, List.setIfInBounds_toArray, List.set_cons_zero, List.set_cons_succ, i64_w, i32_w]
      rfl
    refine pure_ (i := 11) (N := some 4) (v := ?_) (a' := ?_) #[true, true, true, true, true, true, true, true, true, true, true, true] rfl rfl (by kernel_rfl) (fun _ _ _ h => h) (Or.inl ⟨by rfl, ?_⟩) ?_ ?_
    rotate_left
    · intro w'
      go_simp
      with_reducible rfl
    rotate_left
    · simp only [Act.put, List.setIfInBounds_toArray, List.set_cons_zero, List.set_cons_succ, i64_w, i32_w]
      rfl
    refine done_ (by kernel_rfl) ?_
    go_wp2
    go_ret
    exact ⟨rfl, HB.out⟩
  | true =>
    replace H : ((impl_MayPass.f k (rd_T60 lq iq).f0 (rd_T60 lq iq).f1 (rd_T60 lq iq).f2 (rd_T60 lq iq).f3 (rd_T60 lq iq).f4 (rd_T60 lq iq).f5 (rd_T60 lq iq).f6 (rd_T60 lq iq).f7 a0_0 a0_1 a0_2 a0_3 a0_4 a0_5 a0_6 l0_7).bind fun u => (some (!u))) = some r := H
    replace H := Option.bind_eq_some_iff.mp H
    obtain ⟨u, A20, H⟩ := H
    have A2 := Aside0.mk A20
    clear A20
    obtain rfl := Option.some.inj H
    clear H
    go_enter Try.func75, Try.ntmps75
    try go_wp2_with (((with_reducible refine gate_dst (N := 3) rfl ?_); refine box_event ?hg (N := 3) ?hd (cs := #[.int .i64 a0_0, .int .i64 a0_1, .int .i64 a0_2, .int .i64 a0_3, .int .i64 a0_4, .int .i64 a0_5, .int .i64 a0_6, .slice A0_7 l0_7.length c0_7]) (t := 60) ?hr ?_; (case hd => rfl); (case hg => rfl); (case hr => first | (go_simp; done) | (go_simp; rfl)); intro gp hg w4_ hbox hb; have BP := Aside0.mk hbox; replace BQ := Aside0.mk (blk_below BQ.out hb); replace BI := Aside0.mk (blk_below BI.out hb); replace HB := Aside0.mk (below_then HB.out HB.out.size hb); clear hb hbox hg))
    replace BP := Aside0.mk (blk_drew BP.out)
    replace BQ := Aside0.mk (blk_drew BQ.out)
    replace BI := Aside0.mk (blk_drew BI.out)
    replace HB := Aside0.mk (below_drew1 HB.out)
    refine start_ (n := 12) (S := fun w' => w'.cell? ⟨gp, 0, none⟩ = some (.int .i64 a0_0) ∧ w'.cell? ⟨gp, 1, none⟩ = some (.int .i64 a0_1) ∧ w'.cell? ⟨gp, 2, none⟩ = some (.int .i64 a0_2) ∧ w'.cell? ⟨gp, 3, none⟩ = some (.int .i64 a0_3) ∧ w'.cell? ⟨gp, 4, none⟩ = some (.int .i64 a0_4) ∧ w'.cell? ⟨gp, 5, none⟩ = some (.int .i64 a0_5) ∧ w'.cell? ⟨gp, 6, none⟩ = some (.int .i64 a0_6) ∧ w'.cell? ⟨gp, 7, none⟩ = some (.slice A0_7 l0_7.length c0_7) ∧ w'.cell? ⟨gq, 0, none⟩ = some (.slice (some ad1) lq.length cq) ∧ w'.cell? ⟨gi, 0, none⟩ = some (.int .i64 iq) ∧ w'.cell? (ad1.add (iq.toNat * 8)) = some (.int .i64 (rd_T60 lq iq).f0) ∧ w'.cell? ⟨(ad1.add (iq.toNat * 8)).block, (ad1.add (iq.toNat * 8)).off + 1, none⟩ = some (.int .i64 (rd_T60 lq iq).f1) ∧ w'.cell? ⟨(ad1.add (iq.toNat * 8)).block, (ad1.add (iq.toNat * 8)).off + 2, none⟩ = some (.int .i64 (rd_T60 lq iq).f2) ∧ w'.cell? ⟨(ad1.add (iq.toNat * 8)).block, (ad1.add (iq.toNat * 8)).off + 3, none⟩ = some (.int .i64 (rd_T60 lq iq).f3) ∧ w'.cell? ⟨(ad1.add (iq.toNat * 8)).block, (ad1.add (iq.toNat * 8)).off + 4, none⟩ = some (.int .i64 (rd_T60 lq iq).f4) ∧ w'.cell? ⟨(ad1.add (iq.toNat * 8)).block, (ad1.add (iq.toNat * 8)).off + 5, none⟩ = some (.int .i64 (rd_T60 lq iq).f5) ∧ w'.cell? ⟨(ad1.add (iq.toNat * 8)).block, (ad1.add (iq.toNat * 8)).off + 6, none⟩ = some (.int .i64 (rd_T60 lq iq).f6) ∧ w'.cell? ⟨(ad1.add (iq.toNat * 8)).block, (ad1.add (iq.toNat * 8)).off + 7, none⟩ = some (.slice A1_7 (rd_T60 lq iq).f7.length c1_7)) (ds := []) #[false, false, false, false, false, false, false, false, false, false, false, false] (by kernel_rfl) rfl rfl ⟨(blk_cell BP.out 0).trans rfl, (blk_cell BP.out 1).trans rfl, (blk_cell BP.out 2).trans rfl, (blk_cell BP.out 3).trans rfl, (blk_cell BP.out 4).trans rfl, (blk_cell BP.out 5).trans rfl, (blk_cell BP.out 6).trans rfl, (blk_cell BP.out 7).trans rfl, (blk_cell BQ.out 0).trans rfl, (blk_cell BI.out 0).trans rfl, (HB.out.cell (World.block_lt_of_cell? w _ hx1_0.out)).trans hx1_0.out, (HB.out.cell (World.block_lt_of_cell? w _ hx1_1.out)).trans hx1_1.out, (HB.out.cell (World.block_lt_of_cell? w _ hx1_2.out)).trans hx1_2.out, (HB.out.cell (World.block_lt_of_cell? w _ hx1_3.out)).trans hx1_3.out, (HB.out.cell (World.block_lt_of_cell? w _ hx1_4.out)).trans hx1_4.out, (HB.out.cell (World.block_lt_of_cell? w _ hx1_5.out)).trans hx1_5.out, (HB.out.cell (World.block_lt_of_cell? w _ hx1_6.out)).trans hx1_6.out, (HB.out.cell (World.block_lt_of_cell? w _ hx1_7.out)).trans hx1_7.out⟩ (fun hHeld => ?_)
    refine take_ (i := 0) (N := some 5) (v := ?_) (a' := ?_) #[true, false, false, false, false, false, false, false, false, false, false, false] rfl rfl (by kernel_rfl) (fun _ _ _ h => h) (Or.inl ⟨by rfl, ?_⟩) hHeld ?_ ?_
    rotate_left
    · rintro w' ⟨s0, s1, s2, s3, s4, s5, s6, s7, s8, s9, s10, s11, s12, s13, s14, s15, s16, s17⟩
      go_simp
      with_reducible rfl
    rotate_left
    · simp only [Act.put, List.setIfInBounds_toArray, List.set_cons_zero, List.set_cons_succ, i64_w, i32_w]
      rfl
    refine one_ (i := 1) (N := some 6) #[true, true, false, false, false, false, false, false, false, false, false, false] rfl rfl (by kernel_rfl) (by decide) (fun K hK => ?_)
    refine goes_ Try.func65 (by kernel_rfl) rfl #[.agg #[.int .i64 a0_0, .int .i64 a0_1, .int .i64 a0_2, .int .i64 a0_3, .int .i64 a0_4, .int .i64 a0_5, .int .i64 a0_6, .slice A0_7 l0_7.length c0_7]] (by rfl) rfl rfl (by (try simp only [List.map_toArray, List.map_cons, List.map_nil]); first | done | rfl | (simp only [List.length_drop, List.length_take]; rfl)) ?_
    with_reducible refine (impl_IsPacket.calls k a0_0 a0_1 a0_2 a0_3 a0_4 a0_5 a0_6 _ _ l0_7 true _ (Kd.C_below HR0.out HB.out) HC0.out A1.out).mono ?_
    rintro e w6_ ⟨rfl, hb⟩
    refine ⟨_, rfl, ?_⟩
    replace BP := Aside0.mk (blk_below BP.out hb)
    replace BQ := Aside0.mk (blk_below BQ.out hb)
    replace BI := Aside0.mk (blk_below BI.out hb)
    replace HB := Aside0.mk (below_then HB.out HB.out.size hb)
    clear hb
    refine hK.out _ _ ⟨(blk_cell BP.out 0).trans rfl, (blk_cell BP.out 1).trans rfl, (blk_cell BP.out 2).trans rfl, (blk_cell BP.out 3).trans rfl, (blk_cell BP.out 4).trans rfl, (blk_cell BP.out 5).trans rfl, (blk_cell BP.out 6).trans rfl, (blk_cell BP.out 7).trans rfl, (blk_cell BQ.out 0).trans rfl, (blk_cell BI.out 0).trans rfl, (HB.out.cell (World.block_lt_of_cell? w _ hx1_0.out)).trans hx1_0.out, (HB.out.cell (World.block_lt_of_cell? w _ hx1_1.out)).trans hx1_1.out, (HB.out.cell (World.block_lt_of_cell? w _ hx1_2.out)).trans hx1_2.out, (HB.out.cell (World.block_lt_of_cell? w _ hx1_3.out)).trans hx1_3.out, (HB.out.cell (World.block_lt_of_cell? w _ hx1_4.out)).trans hx1_4.out, (HB.out.cell (World.block_lt_of_cell? w _ hx1_5.out)).trans hx1_5.out, (HB.out.cell (World.block_lt_of_cell? w _ hx1_6.out)).trans hx1_6.out, (HB.out.cell (World.block_lt_of_cell? w _ hx1_7.out)).trans hx1_7.out⟩ (fun hHeld => ?_)
    clear hK K
    refine norm_ (a' := ?_) ?_ ?_
    rotate_left
    · show Act.put _ (some 6) _ = _
      simp only [Act.put, List.setIfInBounds_toArray, List.set_cons_zero, List.set_cons_succ, i64_w, i32_w]
      rfl
    refine pure_ (i := 2) (N := some 7) (v := ?_) (a' := ?_) #[true, true, true, false, false, false, false, false, false, false, false, false] rfl rfl (by kernel_rfl) (fun _ _ _ h => h) (Or.inl ⟨by rfl, ?_⟩) ?_ ?_
    rotate_left
    · intro w'
      go_simp
      with_reducible rfl
    rotate_left
    · simp only [Act.put, List.setIfInBounds_toArray, List.set_cons_zero, List.set_cons_succ, i64_w, i32_w]
      rfl
    refine take_ (i := 3) (N := some 8) (v := ?_) (a' := ?_) #[true, true, true, true, false, false, false, false, false, false, false, false] rfl rfl (by kernel_rfl) (fun _ _ _ h => h) (Or.inl ⟨by rfl, ?_⟩) hHeld ?_ ?_
    rotate_left
    · rintro w' ⟨s0, s1, s2, s3, s4, s5, s6, s7, s8, s9, s10, s11, s12, s13, s14, s15, s16, s17⟩
      go_simp
      with_reducible rfl
    rotate_left
    · simp only [Act.put, List.setIfInBounds_toArray, List.set_cons_zero, List.set_cons_succ, i64_w, i32_w]
      rfl
    refine take_ (i := 4) (N := some 9) (v := ?_) (a' := ?_) #[true, true, true, true, true, false, false, false, false, false, false, false] rfl rfl (by kernel_rfl) (fun _ _ _ h => h) (Or.inl ⟨by rfl, ?_⟩) hHeld ?_ ?_
    rotate_left
    · rintro w' ⟨s0, s1, s2, s3, s4, s5, s6, s7, s8, s9, s10, s11, s12, s13, s14, s15, s16, s17⟩
      go_simp
      with_reducible rfl
    rotate_left
    · simp only [Act.put, List.setIfInBounds_toArray, List.set_cons_zero, List.set_cons_succ, i64_w, i32_w]
      rfl
    refine pure_ (i := 5) (N := some 10) (v := ?_) (a' := ?_) #[true, true, true, true, true, true, false, false, false, false, false, false] rfl rfl (by kernel_rfl) (fun _ _ _ h => h) (Or.inl ⟨by rfl, ?_⟩) ?_ ?_
    rotate_left
    · intro w'
      go_simp
      with_reducible rfl
    rotate_left
    · simp only [Act.put, List.setIfInBounds_toArray, List.set_cons_zero, List.set_cons_succ, i64_w, i32_w]
      rfl
    refine take_ (i := 6) (N := some 11) (v := ?_) (a' := ?_) #[true, true, true, true, true, true, true, false, false, false, false, false] rfl rfl (by kernel_rfl) (fun _ _ _ h => h) (Or.inl ⟨by rfl, ?_⟩) hHeld ?_ ?_
    rotate_left
    · rintro w' ⟨s0, s1, s2, s3, s4, s5, s6, s7, s8, s9, s10, s11, s12, s13, s14, s15, s16, s17⟩
      go_simp
      with_reducible rfl
    rotate_left
    · simp only [Act.put, List.setIfInBounds_toArray, List.set_cons_zero, List.set_cons_succ, i64_w, i32_w]
      rfl
    refine take_ (i := 7) (N := some 12) (v := ?_) (a' := ?_) #[true, true, true, true, true, true, true, true, false, false, false, false] rfl rfl (by kernel_rfl) (fun _ _ _ h => h) (Or.inl ⟨by rfl, ?_⟩) hHeld ?_ ?_
    rotate_left
    · rintro w' ⟨s0, s1, s2, s3, s4, s5, s6, s7, s8, s9, s10, s11, s12, s13, s14, s15, s16, s17⟩
      go_simp
      with_reducible rfl
    rotate_left
    · simp only [Act.put, List.setIfInBounds_toArray, List.set_cons_zero, List.set_cons_succ, i64_w, i32_w]
      rfl
    refine one_ (i := 8) (N := some 13) #[true, true, true, true, true, true, true, true, true, false, false, false] rfl rfl (by kernel_rfl) (by decide) (fun K hK => ?_)
    refine goes_ Try.func57 (by kernel_rfl) rfl #[.agg #[.int .i64 (rd_T60 lq iq).f0, .int .i64 (rd_T60 lq iq).f1, .int .i64 (rd_T60 lq iq).f2, .int .i64 (rd_T60 lq iq).f3, .int .i64 (rd_T60 lq iq).f4, .int .i64 (rd_T60 lq iq).f5, .int .i64 (rd_T60 lq iq).f6, .slice A1_7 (rd_T60 lq iq).f7.length c1_7], .agg #[.int .i64 a0_0, .int .i64 a0_1, .int .i64 a0_2, .int .i64 a0_3, .int .i64 a0_4, .int .i64 a0_5, .int .i64 a0_6, .slice A0_7 l0_7.length c0_7]] (by rfl) rfl rfl (by (try simp only [List.map_toArray, List.map_cons, List.map_nil]); first | done | rfl | (simp only [List.length_drop, List.length_take]; rfl)) ?_
    with_reducible refine (impl_MayPass.calls k (rd_T60 lq iq).f0 (rd_T60 lq iq).f1 (rd_T60 lq iq).f2 (rd_T60 lq iq).f3 (rd_T60 lq iq).f4 (rd_T60 lq iq).f5 (rd_T60 lq iq).f6 _ _ (rd_T60 lq iq).f7 a0_0 a0_1 a0_2 a0_3 a0_4 a0_5 a0_6 _ _ l0_7 u _ (Kd.C_below HR1.out HB.out) HC1.out (Kd.C_below HR0.out HB.out) HC0.out A2.out).mono ?_
    rintro e w8_ ⟨rfl, hb⟩
    refine ⟨_, rfl, ?_⟩
    replace BP := Aside0.mk (blk_below BP.out hb)
    replace BQ := Aside0.mk (blk_below BQ.out hb)
    replace BI := Aside0.mk (blk_below BI.out hb)
    replace HB := Aside0.mk (below_then HB.out HB.out.size hb)
    clear hb
    refine hK.out _ _ ⟨(blk_cell BP.out 0).trans rfl, (blk_cell BP.out 1).trans rfl, (blk_cell BP.out 2).trans rfl, (blk_cell BP.out 3).trans rfl, (blk_cell BP.out 4).trans rfl, (blk_cell BP.out 5).trans rfl, (blk_cell BP.out 6).trans rfl, (blk_cell BP.out 7).trans rfl, (blk_cell BQ.out 0).trans rfl, (blk_cell BI.out 0).trans rfl, (HB.out.cell (World.block_lt_of_cell? w _ hx1_0.out)).trans hx1_0.out, (HB.out.cell (World.block_lt_of_cell? w _ hx1_1.out)).trans hx1_1.out, (HB.out.cell (World.block_lt_of_cell? w _ hx1_2.out)).trans hx1_2.out, (HB.out.cell (World.block_lt_of_cell? w _ hx1_3.out)).trans hx1_3.out, (HB.out.cell (World.block_lt_of_cell? w _ hx1_4.out)).trans hx1_4.out, (HB.out.cell (World.block_lt_of_cell? w _ hx1_5.out)).trans hx1_5.out, (HB.out.cell (World.block_lt_of_cell? w _ hx1_6.out)).trans hx1_6.out, (HB.out.cell (World.block_lt_of_cell? w _ hx1_7.out)).trans hx1_7.out⟩ (fun hHeld => ?_)
    clear hK K
    refine norm_ (a' := ?_) ?_ ?_
    rotate_left
    · show Act.put _ (some 13) _ = _
      simp only [Act.put, List.setIfInBounds_toArray, List.set_cons_zero, List.set_cons_succ, i64_w, i32_w]
      rfl
    refine pure_ (i := 9) (N := some 14) (v := ?_) (a' := ?_) #[true, true, true, true, true, true, true, true, true, true, false, false] rfl rfl (by kernel_rfl) (fun _ _ _ h => h) (Or.inl ⟨by rfl, ?_⟩) ?_ ?_
    rotate_left
    · intro w'
      go_simp
      with_reducible rfl
    rotate_left
    · simp only [Act.put, List.setIfInBounds_toArray, List.set_cons_zero, List.set_cons_succ, i64_w, i32_w]
      rfl
    refine pure_ (i := 10) (N := some 15) (v := ?_) (a' := ?_) #[true, true, true, true, true, true, true, true, true, true, true, false] rfl rfl (by kernel_rfl) (fun _ _ _ h => h) (Or.inl ⟨by rfl, ?_⟩) ?_ ?_
    rotate_left
    · intro w'
      go_simp
      with_reducible rfl
    rotate_left
    · simp only [Act.put, List.setIfInBounds_toArray, List.set_cons_zero, List.set_cons_succ, i64_w, i32_w]
      rfl
    refine pure_ (i := 11) (N := some 4) (v := ?_) (a' := ?_) #[true, true, true, true, true, true, true, true, true, true, true, true] rfl rfl (by kernel_rfl) (fun _ _ _ h => h) (Or.inl ⟨by rfl, ?_⟩) ?_ ?_
    rotate_left
    · intro w'
      go_simp
      with_reducible rfl
    rotate_left
    · simp only [Act.put, List.setIfInBounds_toArray, List.set_cons_zero, List.set_cons_succ, i64_w, i32_w]
      rfl
    refine done_ (by kernel_rfl) ?_
    go_wp2
    go_ret
    exact ⟨rfl, HB.out⟩

/-! ### slices.IndexFunc, slices.ContainsFunc (functions 92, 74) at that closure -/
def impl_passes_ix.l0 : Nat → List (S60) → S60 → Int → Int → Option (Int)
  | 0, _, _, _, _ => none
  | k + 1, x0, q, x7, x8 => if x8 < x7 then (if 0 ≤ x8 then (if x8 < (x0.length : Int) then ((impl_passes_1.f k q (rd_T60 x0 x8).f0 (rd_T60 x0 x8).f1 (rd_T60 x0 x8).f2 (rd_T60 x0 x8).f3 (rd_T60 x0 x8).f4 (rd_T60 x0 x8).f5 (rd_T60 x0 x8).f6 (rd_T60 x0 x8).f7).bind fun t => (if t = true then (some x8) else (impl_passes_ix.l0 k x0 q x7 (wrap64 (x8 + 1))))) else (none)) else (none)) else (some (-1))
def impl_passes_ix.f (k : Nat) (l0 : List (S60)) (q : S60) : Option (Int) := impl_passes_ix.l0 k l0 q (l0.length : Int) 0
theorem impl_passes_ix.mono_l : ∀ k, (∀ y0 y1 y2 y3, LeO (impl_passes_ix.l0 k y0 y1 y2 y3) (impl_passes_ix.l0 (k + 1) y0 y1 y2 y3))
  | 0 => fun _ _ _ _ r h => by simp [impl_passes_ix.l0] at h
  | k + 1 => by
    have ih0 := impl_passes_ix.mono_l k
    intro y0 y1 y2 y3
    unfold impl_passes_ix.l0
    repeat' first
      | (with_reducible exact ih0 _ _ _ _)
      | (with_reducible exact impl_passes_1.mono _ _ _ _ _ _ _ _ _ _)
      | (with_reducible exact LeO.refl _)
      | (with_reducible exact LeO.none _)
      | (with_reducible refine LeO.ite ?_ ?_)
      | (with_reducible refine LeO.bind ?_ (fun _ => ?_))
      | exact ih0 _ _ _ _
      | exact impl_passes_1.mono _ _ _ _ _ _ _ _ _ _
      | exact LeO.none _
      | refine LeO.ite ?_ ?_
      | refine LeO.bind ?_ (fun _ => ?_)
theorem impl_passes_ix.mono : ∀ a0 a1 k, LeO (impl_passes_ix.f k a0 a1) (impl_passes_ix.f (k + 1) a0 a1) := by
  intro a0 a1 k
  have ih0 := impl_passes_ix.mono_l k
  unfold impl_passes_ix.f
  repeat' first
      | (with_reducible exact ih0 _ _ _ _)
      | (with_reducible exact impl_passes_1.mono _ _ _ _ _ _ _ _ _ _)
      | (with_reducible exact LeO.refl _)
      | (with_reducible exact LeO.none _)
      | (with_reducible refine LeO.ite ?_ ?_)
      | (with_reducible refine LeO.bind ?_ (fun _ => ?_))
      | exact ih0 _ _ _ _
      | exact impl_passes_1.mono _ _ _ _ _ _ _ _ _ _
      | exact LeO.none _
      | refine LeO.ite ?_ ?_
      | refine LeO.bind ?_ (fun _ => ?_)
def impl_passes_has.f (k : Nat) (l0 : List (S60)) (q : S60) : Option (Bool) := (impl_passes_ix.f k l0 q).bind fun t => (some (decide (t ≥ 0)))
theorem impl_passes_has.mono : ∀ a0 a1 k, LeO (impl_passes_has.f k a0 a1) (impl_passes_has.f (k + 1) a0 a1) := by
  intro a0 a1 k
  unfold impl_passes_has.f
  repeat' first
      | (with_reducible exact impl_passes_ix.mono _ _ _)
      | (with_reducible exact LeO.refl _)
      | (with_reducible exact LeO.none _)
      | (with_reducible refine LeO.ite ?_ ?_)
      | (with_reducible refine LeO.bind ?_ (fun _ => ?_))
      | exact impl_passes_ix.mono _ _ _
      | exact LeO.none _
      | refine LeO.ite ?_ ?_
      | refine LeO.bind ?_ (fun _ => ?_)
set_option maxHeartbeats 8000000 in
set_option maxRecDepth 100000 in
theorem impl_passes_ix.calls (k : Nat) (A0 : Option Addr) (c0 : Nat) (l0 : List (S60)) (gq gi : Nat) (Aq : Option Addr) (cq : Nat) (lq : List (S60)) (iq : Int) (r : Int) (w : World) (hr0 : Kd.C k60 w A0 l0.length l0) (hc0 : l0.length ≤ c0) (hbq : w.heap[gq]? = some (.cells #[.slice Aq lq.length cq] 27 (0, 0))) (hbi : w.heap[gi]? = some (.cells #[.int .i64 iq] 3 (0, 0))) (hrq : Kd.C k60 w Aq lq.length lq) (hcq : lq.length ≤ cq) (hi0 : 0 ≤ iq) (hi1 : iq < lq.length) (h : impl_passes_ix.f k l0 (rd_T60 lq iq) = some r) :
    Calls Try.prog 92 #[.slice A0 l0.length c0, .func (.func 75) #[] #[.pointer (some ⟨gq, 0, none⟩), .pointer (some ⟨gi, 0, none⟩)]] w fun e w' => e = .returned (.int .i64 r) ∧ Below w.heap.size w w' := by
  have hu60 := Try.underlying60
  have HR0 := Aside0.mk hr0
  have HC0 := Aside0.mk hc0
  have BQ := Aside0.mk hbq
  have BI := Aside0.mk hbi
  have HRQ := Aside0.mk hrq
  have HCQ := Aside0.mk hcq
  have HI0 := Aside0.mk hi0
  have HI1 := Aside0.mk hi1
  clear hr0 hc0 hbq hbi hrq hcq hi0 hi1
  have HB := Aside0.mk (Below.refl w.heap.size w)
  have H' := Aside0.mk (show (impl_passes_ix.l0 k l0 (rd_T60 lq iq) (l0.length : Int) 0) = some r from h)
  clear h
  go_enter Try.func92, Try.ntmps92
  go_wp2
  go_loopg [8] k (fun kq v8 w' => ∃ (x8_1 : Int), v8 = .int .i64 x8_1 ∧ Aside0 (impl_passes_ix.l0 kq l0 (rd_T60 lq iq) (l0.length : Int) x8_1 = some r) ∧ Aside0 (kq ≤ k) ∧ Aside0 (Below w.heap.size w w'))
  case atStart => exact ⟨(0), (by first | rfl | (simp; done) | (simp [*]; done)), H', ⟨Nat.le_refl _⟩, ⟨by repeat (first | (with_reducible first | exact HB.out | apply below_alloc | apply pw_below_drewN | apply below_drew1) | exact HB.out)⟩⟩
  case round =>
    clear H' HB
    obtain ⟨x8_1, rfl, HA, HK1, HB⟩ := hrel
    cases gk with
    | zero => exact absurd HA.out (by simp [impl_passes_ix.l0])
    | succ k1 =>
      have H := HA.out
      clear HA
      simp only [impl_passes_ix.l0] at H
      by_cases c3 : x8_1 < (l0.length : Int)
      · rw [if_pos c3] at H
        have c3b0 : decide (x8_1 < (l0.length : Int)) = true := decide_eq_true c3
        by_cases c4 : 0 ≤ x8_1
        case neg => rw [if_neg c4] at H; exact absurd H (by simp)
        rw [if_pos c4, if_pos c3] at H
        have c4b0 : decide (0 ≤ x8_1) = true := decide_eq_true c4
        have p1 := c4
        have q1 := c3
        clear c3 c4
        replace H := Option.bind_eq_some_iff.mp H
        obtain ⟨t, A60, H⟩ := H
        have A6 := Aside0.mk A60
        clear A60
        cases t with
        | true =>
          replace H : (some x8_1) = some r := H
          obtain rfl := Option.some.inj H
          clear H
          obtain ⟨ad1, A1_7, c1_7, e1, hx1_0, hx1_1, hx1_2, hx1_3, hx1_4, hx1_5, hx1_6, hx1_7, hl1_7, hi1_7⟩ := at_T60 HR0.out x8_1 p1 q1
          cases e1
          replace hx1_0 := (HB.out.cell (World.block_lt_of_cell? w _ hx1_0)).trans hx1_0
          replace hx1_1 := (HB.out.cell (World.block_lt_of_cell? w _ hx1_1)).trans hx1_1
          replace hx1_2 := (HB.out.cell (World.block_lt_of_cell? w _ hx1_2)).trans hx1_2
          replace hx1_3 := (HB.out.cell (World.block_lt_of_cell? w _ hx1_3)).trans hx1_3
          replace hx1_4 := (HB.out.cell (World.block_lt_of_cell? w _ hx1_4)).trans hx1_4
          replace hx1_5 := (HB.out.cell (World.block_lt_of_cell? w _ hx1_5)).trans hx1_5
          replace hx1_6 := (HB.out.cell (World.block_lt_of_cell? w _ hx1_6)).trans hx1_6
          replace hx1_7 := (HB.out.cell (World.block_lt_of_cell? w _ hx1_7)).trans hx1_7
          have HR1 := Aside0.mk hi1_7
          have HC1 := Aside0.mk hl1_7
          clear hi1_7 hl1_7
          replace p1 := eq_true p1
          replace q1 := eq_true q1
          go_wp2_with fail
          (with_reducible refine (impl_passes_1.calls k1 gq gi Aq cq lq iq (rd_T60 l0 x8_1).f0 (rd_T60 l0 x8_1).f1 (rd_T60 l0 x8_1).f2 (rd_T60 l0 x8_1).f3 (rd_T60 l0 x8_1).f4 (rd_T60 l0 x8_1).f5 (rd_T60 l0 x8_1).f6 _ _ (rd_T60 l0 x8_1).f7 true _ (blk_below BQ.out HB.out) (blk_below BI.out HB.out) (Kd.C_below HRQ.out HB.out) HCQ.out HI0.out HI1.out (Kd.C_below HR1.out HB.out) HC1.out A6.out).mono ?_)
          rintro e w8_ ⟨rfl, hb⟩
          replace HB := Aside0.mk (below_then HB.out HB.out.size hb)
          clear hb
          go_wp2
          go_ret
          exact ⟨rfl, HB.out⟩
        | false =>
          have H' := Aside0.mk (show (impl_passes_ix.l0 k1 l0 (rd_T60 lq iq) (l0.length : Int) (wrap64 (x8_1 + 1))) = some r from H)
          clear H
          obtain ⟨ad1, A1_7, c1_7, e1, hx1_0, hx1_1, hx1_2, hx1_3, hx1_4, hx1_5, hx1_6, hx1_7, hl1_7, hi1_7⟩ := at_T60 HR0.out x8_1 p1 q1
          cases e1
          replace hx1_0 := (HB.out.cell (World.block_lt_of_cell? w _ hx1_0)).trans hx1_0
          replace hx1_1 := (HB.out.cell (World.block_lt_of_cell? w _ hx1_1)).trans hx1_1
          replace hx1_2 := (HB.out.cell (World.block_lt_of_cell? w _ hx1_2)).trans hx1_2
          replace hx1_3 := (HB.out.cell (World.block_lt_of_cell? w _ hx1_3)).trans hx1_3
          replace hx1_4 := (HB.out.cell (World.block_lt_of_cell? w _ hx1_4)).trans hx1_4
          replace hx1_5 := (HB.out.cell (World.block_lt_of_cell? w _ hx1_5)).trans hx1_5
          replace hx1_6 := (HB.out.cell (World.block_lt_of_cell? w _ hx1_6)).trans hx1_6
          replace hx1_7 := (HB.out.cell (World.block_lt_of_cell? w _ hx1_7)).trans hx1_7
          have HR1 := Aside0.mk hi1_7
          have HC1 := Aside0.mk hl1_7
          clear hi1_7 hl1_7
          replace p1 := eq_true p1
          replace q1 := eq_true q1
          go_wp2_with fail
          (with_reducible refine (impl_passes_1.calls k1 gq gi Aq cq lq iq (rd_T60 l0 x8_1).f0 (rd_T60 l0 x8_1).f1 (rd_T60 l0 x8_1).f2 (rd_T60 l0 x8_1).f3 (rd_T60 l0 x8_1).f4 (rd_T60 l0 x8_1).f5 (rd_T60 l0 x8_1).f6 _ _ (rd_T60 l0 x8_1).f7 false _ (blk_below BQ.out HB.out) (blk_below BI.out HB.out) (Kd.C_below HRQ.out HB.out) HCQ.out HI0.out HI1.out (Kd.C_below HR1.out HB.out) HC1.out A6.out).mono ?_)
          rintro e w8_ ⟨rfl, hb⟩
          replace HB := Aside0.mk (below_then HB.out HB.out.size hb)
          clear hb
          go_wp2
          go_roundg k1
          case measure => have := HK1.out; omega
          case rel => exact ⟨(wrap64 (x8_1 + 1)), (by first | rfl | (simp; done) | (simp [*]; done)), H', ⟨by have := HK1.out; omega⟩, HB⟩
      · rw [if_neg c3] at H
        have c3b0 : decide (x8_1 < (l0.length : Int)) = false := decide_eq_false c3
        clear c3
        obtain rfl := Option.some.inj H
        clear H
        go_wp2
        go_ret
        exact ⟨rfl, HB.out⟩

set_option maxHeartbeats 8000000 in
set_option maxRecDepth 100000 in
theorem impl_passes_has.calls (k : Nat) (A0 : Option Addr) (c0 : Nat) (l0 : List (S60)) (gq gi : Nat) (Aq : Option Addr) (cq : Nat) (lq : List (S60)) (iq : Int) (r : Bool) (w : World) (hr0 : Kd.C k60 w A0 l0.length l0) (hc0 : l0.length ≤ c0) (hbq : w.heap[gq]? = some (.cells #[.slice Aq lq.length cq] 27 (0, 0))) (hbi : w.heap[gi]? = some (.cells #[.int .i64 iq] 3 (0, 0))) (hrq : Kd.C k60 w Aq lq.length lq) (hcq : lq.length ≤ cq) (hi0 : 0 ≤ iq) (hi1 : iq < lq.length) (h : impl_passes_has.f k l0 (rd_T60 lq iq) = some r) :
    Calls Try.prog 74 #[.slice A0 l0.length c0, .func (.func 75) #[] #[.pointer (some ⟨gq, 0, none⟩), .pointer (some ⟨gi, 0, none⟩)]] w fun e w' => e = .returned (.bool r) ∧ Below w.heap.size w w' := by
  have HR0 := Aside0.mk hr0
  have HC0 := Aside0.mk hc0
  have BQ := Aside0.mk hbq
  have BI := Aside0.mk hbi
  have HRQ := Aside0.mk hrq
  have HCQ := Aside0.mk hcq
  have HI0 := Aside0.mk hi0
  have HI1 := Aside0.mk hi1
  clear hr0 hc0 hbq hbi hrq hcq hi0 hi1
  unfold impl_passes_has.f at h
  obtain ⟨t, A10, H⟩ := Option.bind_eq_some_iff.mp h
  have A1 := Aside0.mk A10
  clear A10 h
  obtain rfl := Option.some.inj H
  clear H
  go_enter Try.func74, Try.ntmps74
  go_wp2_with fail
  (with_reducible refine (impl_passes_ix.calls k _ _ l0 gq gi Aq cq lq iq t _ HR0.out HC0.out BQ.out BI.out HRQ.out HCQ.out HI0.out HI1.out A1.out).mono ?_)
  rintro e w1_ ⟨rfl, hb⟩
  replace hb := Aside0.mk hb
  go_wp2
  go_ret
  exact ⟨by first | rfl | (simp; done), hb.out⟩

/-! ### impl_passes: function 51 -/
def impl_passes.f (k : Nat) (l0 : List (S60)) (a1 : Int) : Option (Bool) := if 0 ≤ a1 then (if a1 < (l0.length : Int) then ((impl_IsPacket.f k (rd_T60 l0 a1).f0 (rd_T60 l0 a1).f1 (rd_T60 l0 a1).f2 (rd_T60 l0 a1).f3 (rd_T60 l0 a1).f4 (rd_T60 l0 a1).f5 (rd_T60 l0 a1).f6 (rd_T60 l0 a1).f7).bind fun t => (if t = true then ((impl_passes_has.f k (l0.take a1.toNat) (rd_T60 l0 a1)).bind fun u => (some (!u))) else (some false))) else (none)) else (none)
theorem impl_passes.mono : ∀ a0 a1 k, LeO (impl_passes.f k a0 a1) (impl_passes.f (k + 1) a0 a1) := by
  intro a0 a1 k
  unfold impl_passes.f
  repeat' first
      | (with_reducible exact impl_IsPacket.mono _ _ _ _ _ _ _ _ _)
      | (with_reducible exact impl_passes_has.mono _ _ _)
      | (with_reducible exact LeO.refl _)
      | (with_reducible exact LeO.none _)
      | (with_reducible refine LeO.ite ?_ ?_)
      | (with_reducible refine LeO.bind ?_ (fun _ => ?_))
      | exact impl_IsPacket.mono _ _ _ _ _ _ _ _ _
      | exact impl_passes_has.mono _ _ _
      | exact LeO.none _
      | refine LeO.ite ?_ ?_
      | refine LeO.bind ?_ (fun _ => ?_)
set_option maxHeartbeats 8000000 in
set_option maxRecDepth 100000 in
theorem impl_passes.calls (k : Nat) (A0 : Option Addr) (c0 : Nat) (l0 : List (S60)) (a1 : Int) (r : Bool) (w : World) (hr0 : Kd.C k60 w A0 l0.length l0) (hc0 : l0.length ≤ c0) (h : impl_passes.f k l0 a1 = some r) :
    Calls Try.prog 51 #[.slice A0 l0.length c0, .int .i64 a1] w fun e w' => e = .returned (.bool r) ∧ Below w.heap.size w w' := by
  have hu60 := Try.underlying60
  have HR0 := Aside0.mk hr0
  have HC0 := Aside0.mk hc0
  clear hr0 hc0
  have HB := Aside0.mk (Below.refl w.heap.size w)
  have H := h
  clear h
  unfold impl_passes.f at H
  by_cases p1 : 0 ≤ a1
  case neg => rw [if_neg p1] at H; exact absurd H (by simp)
  by_cases q1 : a1 < (l0.length : Int)
  case neg => rw [if_pos p1, if_neg q1] at H; exact absurd H (by simp)
  rw [if_pos p1, if_pos q1] at H
  replace H := Option.bind_eq_some_iff.mp H
  obtain ⟨t, A10, H⟩ := H
  have A1 := Aside0.mk A10
  clear A10
  have c3b0 : decide (a1 < (l0.length : Int)) = true := decide_eq_true q1
  have c4b0 : decide (0 ≤ a1) = true := decide_eq_true p1
  have HI0 := Aside0.mk p1
  have HI1 := Aside0.mk q1
  have hj : a1.toNat ≤ l0.length := by omega
  have HL := Aside0.mk (show (l0.take a1.toNat).length = a1.toNat by rw [List.length_take, Nat.min_eq_left hj])
  have HCT := Aside0.mk (show (l0.take a1.toNat).length ≤ c0 by have := HL.out; have := HC0.out; omega)
  have HJ := Aside0.mk hj
  clear hj
  obtain ⟨ad1, A1_7, c1_7, e1, hx1_0, hx1_1, hx1_2, hx1_3, hx1_4, hx1_5, hx1_6, hx1_7, hl1_7, hi1_7⟩ := at_T60 HR0.out a1 p1 q1
  cases e1
  have HR1 := Aside0.mk hi1_7
  have HC1 := Aside0.mk hl1_7
  clear hi1_7 hl1_7
  have hcut : ∀ W : World, (Instr.slice 27 (.slice (some ad1) l0.length c0) none (some (.int .i64 a1)) none).run Try.prog W = .ok (.slice (some ad1) a1.toNat c0) W := cut_to 27 60 .i64 Try.underlying27 (i := _) rfl (some ad1) l0.length c0 a1 p1 (by omega) HC0.out
  have hmf : ∀ (fn : Fn) (first cap : Array Value) (w : World), (Instr.makeFunc fn first cap).run Try.prog w = .ok (.func fn first cap) w := fun _ _ _ _ => rfl
  replace p1 := eq_true p1
  replace q1 := eq_true q1
  cases t with
  | false =>
    replace H : (some false) = some r := H
    obtain rfl := Option.some.inj H
    clear H
    go_enter Try.func51, Try.ntmps51
    go_wp2_with (first | ((with_reducible refine gate_dst (N := 2) rfl ?_); refine box_event ?hg (N := 2) ?hd (cs := #[.slice (some ad1) l0.length c0]) (t := 27) ?hr ?_; (case hd => rfl); (case hg => rfl); (case hr => first | (go_simp; done) | (go_simp; rfl)); intro gq hg w2_ hbox hb; have Bgq := Aside0.mk hbox; replace HB := Aside0.mk (below_then HB.out HB.out.size hb); clear hb hbox hg) | ((with_reducible refine gate_dst (N := 3) rfl ?_); refine box_event ?hg (N := 3) ?hd (cs := #[.int .i64 a1]) (t := 3) ?hr ?_; (case hd => rfl); (case hg => rfl); (case hr => first | (go_simp; done) | (go_simp; rfl)); intro gi hg w3_ hbox hb; have Bgi := Aside0.mk hbox; replace Bgq := Aside0.mk (blk_below Bgq.out hb); replace HB := Aside0.mk (below_then HB.out HB.out.size hb); clear hb hbox hg; have z0_ := (blk_cell Bgq.out 0).trans rfl; have z1_ := (blk_cell Bgi.out 0).trans rfl; replace hx1_0 := (HB.out.cell (World.block_lt_of_cell? w _ hx1_0)).trans hx1_0; replace hx1_1 := (HB.out.cell (World.block_lt_of_cell? w _ hx1_1)).trans hx1_1; replace hx1_2 := (HB.out.cell (World.block_lt_of_cell? w _ hx1_2)).trans hx1_2; replace hx1_3 := (HB.out.cell (World.block_lt_of_cell? w _ hx1_3)).trans hx1_3; replace hx1_4 := (HB.out.cell (World.block_lt_of_cell? w _ hx1_4)).trans hx1_4; replace hx1_5 := (HB.out.cell (World.block_lt_of_cell? w _ hx1_5)).trans hx1_5; replace hx1_6 := (HB.out.cell (World.block_lt_of_cell? w _ hx1_6)).trans hx1_6; replace hx1_7 := (HB.out.cell (World.block_lt_of_cell? w _ hx1_7)).trans hx1_7))
    (with_reducible refine (impl_IsPacket.calls k (rd_T60 l0 a1).f0 (rd_T60 l0 a1).f1 (rd_T60 l0 a1).f2 (rd_T60 l0 a1).f3 (rd_T60 l0 a1).f4 (rd_T60 l0 a1).f5 (rd_T60 l0 a1).f6 _ _ (rd_T60 l0 a1).f7 false _ (Kd.C_below HR1.out HB.out) HC1.out A1.out).mono ?_)
    rintro e w4_ ⟨rfl, hb⟩
    replace Bgq := Aside0.mk (blk_below Bgq.out hb)
    replace Bgi := Aside0.mk (blk_below Bgi.out hb)
    replace HB := Aside0.mk (below_then HB.out HB.out.size hb)
    clear hb z0_ z1_
    have z0_ : w4_.cell? ⟨gq, 0, none⟩ = some (.slice (some ad1) l0.length c0) := (blk_cell Bgq.out 0).trans rfl
    have z1_ : w4_.cell? ⟨gi, 0, none⟩ = some (.int .i64 a1) := (blk_cell Bgi.out 0).trans rfl
    clear hx1_0 hx1_1 hx1_2 hx1_3 hx1_4 hx1_5 hx1_6 hx1_7
    go_wp2
    go_ret
    exact ⟨rfl, HB.out⟩
  | true =>
    replace H : ((impl_passes_has.f k (l0.take a1.toNat) (rd_T60 l0 a1)).bind fun u => (some (!u))) = some r := H
    replace H := Option.bind_eq_some_iff.mp H
    obtain ⟨u, A20, H⟩ := H
    have A2 := Aside0.mk A20
    clear A20
    obtain rfl := Option.some.inj H
    clear H
    go_enter Try.func51, Try.ntmps51
    go_wp2_with (first | ((with_reducible refine gate_dst (N := 2) rfl ?_); refine box_event ?hg (N := 2) ?hd (cs := #[.slice (some ad1) l0.length c0]) (t := 27) ?hr ?_; (case hd => rfl); (case hg => rfl); (case hr => first | (go_simp; done) | (go_simp; rfl)); intro gq hg w2_ hbox hb; have Bgq := Aside0.mk hbox; replace HB := Aside0.mk (below_then HB.out HB.out.size hb); clear hb hbox hg) | ((with_reducible refine gate_dst (N := 3) rfl ?_); refine box_event ?hg (N := 3) ?hd (cs := #[.int .i64 a1]) (t := 3) ?hr ?_; (case hd => rfl); (case hg => rfl); (case hr => first | (go_simp; done) | (go_simp; rfl)); intro gi hg w3_ hbox hb; have Bgi := Aside0.mk hbox; replace Bgq := Aside0.mk (blk_below Bgq.out hb); replace HB := Aside0.mk (below_then HB.out HB.out.size hb); clear hb hbox hg; have z0_ := (blk_cell Bgq.out 0).trans rfl; have z1_ := (blk_cell Bgi.out 0).trans rfl; replace hx1_0 := (HB.out.cell (World.block_lt_of_cell? w _ hx1_0)).trans hx1_0; replace hx1_1 := (HB.out.cell (World.block_lt_of_cell? w _ hx1_1)).trans hx1_1; replace hx1_2 := (HB.out.cell (World.block_lt_of_cell? w _ hx1_2)).trans hx1_2; replace hx1_3 := (HB.out.cell (World.block_lt_of_cell? w _ hx1_3)).trans hx1_3; replace hx1_4 := (HB.out.cell (World.block_lt_of_cell? w _ hx1_4)).trans hx1_4; replace hx1_5 := (HB.out.cell (World.block_lt_of_cell? w _ hx1_5)).trans hx1_5; replace hx1_6 := (HB.out.cell (World.block_lt_of_cell? w _ hx1_6)).trans hx1_6; replace hx1_7 := (HB.out.cell (World.block_lt_of_cell? w _ hx1_7)).trans hx1_7))
    (with_reducible refine (impl_IsPacket.calls k (rd_T60 l0 a1).f0 (rd_T60 l0 a1).f1 (rd_T60 l0 a1).f2 (rd_T60 l0 a1).f3 (rd_T60 l0 a1).f4 (rd_T60 l0 a1).f5 (rd_T60 l0 a1).f6 _ _ (rd_T60 l0 a1).f7 true _ (Kd.C_below HR1.out HB.out) HC1.out A1.out).mono ?_)
    rintro e w4_ ⟨rfl, hb⟩
    replace Bgq := Aside0.mk (blk_below Bgq.out hb)
    replace Bgi := Aside0.mk (blk_below Bgi.out hb)
    replace HB := Aside0.mk (below_then HB.out HB.out.size hb)
    clear hb z0_ z1_
    have z0_ : w4_.cell? ⟨gq, 0, none⟩ = some (.slice (some ad1) l0.length c0) := (blk_cell Bgq.out 0).trans rfl
    have z1_ : w4_.cell? ⟨gi, 0, none⟩ = some (.int .i64 a1) := (blk_cell Bgi.out 0).trans rfl
    clear hx1_0 hx1_1 hx1_2 hx1_3 hx1_4 hx1_5 hx1_6 hx1_7
    go_wp2_with fail
    refine (calls_castP (by rw [HL.out]) (impl_passes_has.calls k (some ad1) c0 (l0.take a1.toNat) gq gi (some ad1) c0 l0 a1 u _ (Kd.C_take (Kd.C_below HR0.out HB.out) HJ.out) HCT.out Bgq.out Bgi.out (Kd.C_below HR0.out HB.out) HC0.out HI0.out HI1.out A2.out)).mono ?_
    rintro e w5_ ⟨rfl, hb⟩
    replace HB := Aside0.mk (below_then HB.out HB.out.size hb)
    clear hb
    go_wp2
    go_ret
    exact ⟨rfl, HB.out⟩


/-! ### impl_PassersOf: function 20 -/
def impl_PassersOf.l0 : Nat → List (S60) → List Int → Int → Int → Option (List Int)
  | 0, _, _, _, _ => none
  | k + 1, x0, x3, x7, x8 => if x8 < x7 then ((impl_passes.f k x0 x8).bind fun t146 => (if t146 = true then (if x3.length < 17592186044416 then (impl_PassersOf.l0 k x0 (x3 ++ [x8]) x7 (wrap64 (x8 + 1))) else (none)) else (impl_PassersOf.l0 k x0 x3 x7 (wrap64 (x8 + 1))))) else (some x3)
def impl_PassersOf.f (k : Nat) (l0 : List (S60)) : Option (List Int) := impl_PassersOf.l0 k l0 (([] : List Int)) (l0.length : Int) 0
theorem impl_PassersOf.mono_l : ∀ k, (∀ y0 y1 y2 y3, LeO (impl_PassersOf.l0 k y0 y1 y2 y3) (impl_PassersOf.l0 (k + 1) y0 y1 y2 y3))
  | 0 => fun _ _ _ _ r h => by simp [impl_PassersOf.l0] at h
  | k + 1 => by
    have ih0 := impl_PassersOf.mono_l k
    · intro y0 y1 y2 y3
      unfold impl_PassersOf.l0
      repeat' first
      | (with_reducible exact ih0 _ _ _ _)
      | (with_reducible exact impl_passes.mono _ _ _)
      | (with_reducible exact LeO.refl _)
      | (with_reducible exact LeO.none _)
      | (with_reducible refine LeO.ite ?_ ?_)
      | (with_reducible refine LeO.bind ?_ (fun _ => ?_))
      | exact ih0 _ _ _ _
      | exact impl_passes.mono _ _ _
      | exact LeO.none _
      | refine LeO.ite ?_ ?_
      | refine LeO.bind ?_ (fun _ => ?_)
theorem impl_PassersOf.mono : ∀ a0 k, LeO (impl_PassersOf.f k a0) (impl_PassersOf.f (k + 1) a0) := by
  intro a0 k
  have ih0 := impl_PassersOf.mono_l k
  unfold impl_PassersOf.f
  repeat' first
      | (with_reducible exact ih0 _ _ _ _)
      | (with_reducible exact impl_passes.mono _ _ _)
      | (with_reducible exact LeO.refl _)
      | (with_reducible exact LeO.none _)
      | (with_reducible refine LeO.ite ?_ ?_)
      | (with_reducible refine LeO.bind ?_ (fun _ => ?_))
      | exact ih0 _ _ _ _
      | exact impl_passes.mono _ _ _
      | exact LeO.none _
      | refine LeO.ite ?_ ?_
      | refine LeO.bind ?_ (fun _ => ?_)
set_option maxHeartbeats 8000000 in
set_option maxRecDepth 100000 in
theorem impl_PassersOf.calls (k : Nat) (A0 : Option Addr) (c0 : Nat) (l0 : List (S60)) (r : List Int) (w : World) (hr0 : Kd.C k60 w A0 l0.length l0) (hc0 : l0.length ≤ c0) (h : impl_PassersOf.f k l0 = some r) :
    Calls Try.prog 20 #[.slice A0 l0.length c0] w fun e w' => ∃ v0_ : Value, e = .returned (v0_) ∧ Kd.R (Kd.int .i64) 3 w' w.heap.size (fun _ => True) v0_ r ∧ Below w.heap.size w w' := by
  have HR0 := Aside0.mk hr0
  have HC0 := Aside0.mk hc0
  clear hr0 hc0
  have HB := Aside0.mk (Below.refl w.heap.size w)
  have H : (impl_PassersOf.l0 k l0 (([] : List Int)) (l0.length : Int) 0) = some r := h
  clear h
  obtain ⟨y143, hy143⟩ : ∃ y_ : List Int, y_ = (([] : List Int)) := ⟨_, rfl⟩
  replace H : (impl_PassersOf.l0 k l0 y143 (l0.length : Int) 0) = some r := by first | (rw [hy143]; with_reducible exact H) | (have H2_ := (Option.bind_some _ _).symm.trans H; rw [hy143]; with_reducible exact H2_) | (have H2_ := (Option.bind_some _ _).symm.trans H; with_reducible exact H2_) | with_reducible exact H | (rw [hy143]; exact H) | exact H
  have Ny143 := Aside0.mk hy143
  clear hy143
  have H' := Aside0.mk H
  clear H
  go_enter Try.func20, Try.ntmps20
  go_wp2_with (first | ((with_reducible refine gate_dst (N := 5) rfl ?_); refine Kd.R_lit (Kd.int .i64) _ 3 ?hg (N := 5) ?hd (xs := ([] : List Int)) (inner := []) (ok := fun _ => True) (okp := fun _ => True) ?hr ?hp (fun _ hk => hk) trivial (Below.refl _ _) (Nat.le_refl _) (by simp) ?_; (case hd => rfl); (case hg => rfl); (case hr => first | (go_simp; done) | (go_simp; rfl)); (case hp => exact (Reps.none _ _)); intro v144 w2 ho3 hb hg_ hnew_; clear hg_ hnew_; (first | rw [← Ny143.out] at ho3 | (simp only [Int.reduceToNat] at ho3; rw [← Ny143.out] at ho3)); have n0_ := Aside0.mk (Kd.R_lower ho3 (below_size (by repeat (first | (with_reducible first | exact HB.out | apply below_alloc | apply pw_below_drewN | apply below_drew1) | exact HB.out)))); have n1_ := Aside0.mk (below_step (by repeat (first | (with_reducible first | exact HB.out | apply below_alloc | apply pw_below_drewN | apply below_drew1) | exact HB.out)) hb); clear HB; have HO145 := n0_; have HB := n1_; clear n0_ n1_; clear hb ho3))
  go_loopg [3, 8] k (fun kq v3 v8 w' => ∃ (x3_1 : List Int) (x8_1 : Int), v8 = .int .i64 x8_1 ∧ Aside0 (impl_PassersOf.l0 kq l0 x3_1 (l0.length : Int) x8_1 = some r) ∧ Aside0 (kq ≤ k) ∧ Aside0 (Kd.R (Kd.int .i64) 3 w' w.heap.size (fun _ => True) v3 x3_1) ∧ Aside0 (Below w.heap.size w w'))
  case atStart => exact ⟨(y143), (0), (by first | rfl | (simp; done) | (simp [*]; done)), H', ⟨Nat.le_refl _⟩, ⟨by (with_reducible repeat (first | apply Kd.R_alloc | apply Kd.R_drewN | apply Kd.R_drew)); exact HO145.out⟩, ⟨by repeat (first | (with_reducible first | exact HB.out | apply below_alloc | apply pw_below_drewN | apply below_drew1) | exact HB.out)⟩⟩
  case round =>
    clear H'
    try clear c2
    try clear p2
    obtain ⟨x3_1, x8_1, rfl, HA, HK1, HO_3, HB⟩ := hrel
    cases gk with
    | zero => exact absurd HA.out (by simp [impl_PassersOf.l0])
    | succ k1 =>
      have H := HA.out
      clear HA
      simp only [impl_PassersOf.l0] at H
      by_cases c4 : x8_1 < (l0.length : Int)
      · rw [if_pos c4] at H
        have c4b0 : decide (x8_1 < (l0.length : Int)) = true := decide_eq_true c4
        clear c4
        replace H := Option.bind_eq_some_iff.mp H
        obtain ⟨t146, A50, H⟩ := H
        replace H : (if t146 = true then (if x3_1.length < 17592186044416 then (impl_PassersOf.l0 k1 l0 (x3_1 ++ [x8_1]) (l0.length : Int) (wrap64 (x8_1 + 1))) else (none)) else (impl_PassersOf.l0 k1 l0 x3_1 (l0.length : Int) (wrap64 (x8_1 + 1)))) = some r := H
        have A5 := Aside0.mk A50
        clear A50
        by_cases c6 : t146 = true
        · subst c6
          have H1 : (if x3_1.length < 17592186044416 then (impl_PassersOf.l0 k1 l0 (x3_1 ++ [x8_1]) (l0.length : Int) (wrap64 (x8_1 + 1))) else (none)) = some r := by rw [if_pos rfl] at H; exact H
          clear H
          have H := H1
          clear H1
          by_cases c7 : x3_1.length < 17592186044416
          · rw [if_pos c7] at H
            have LMc7 := Aside0.mk c7
            clear c7
            obtain ⟨y147, hy147⟩ : ∃ y_ : List Int, y_ = (x3_1 ++ [x8_1]) := ⟨_, rfl⟩
            replace H : (impl_PassersOf.l0 k1 l0 y147 (l0.length : Int) (wrap64 (x8_1 + 1))) = some r := by first | (rw [hy147]; with_reducible exact H) | (have H2_ := (Option.bind_some _ _).symm.trans H; rw [hy147]; with_reducible exact H2_) | (have H2_ := (Option.bind_some _ _).symm.trans H; with_reducible exact H2_) | with_reducible exact H | (rw [hy147]; exact H) | exact H
            have Ny147 := Aside0.mk hy147
            clear hy147
            have H' := Aside0.mk H
            clear H
            go_wp2_with (first | ((with_reducible refine gate_callee (f := 51) rfl ?_); refine goesL_ (some 13) rfl rfl Try.func51 (by kernel_rfl) rfl #[.slice A0 l0.length c0, .int .i64 x8_1] rfl (by (try simp only [List.map_toArray, List.map_cons, List.map_nil]); first | done | rfl | (simp only [List.length_drop, List.length_take]; rfl)) ?_; (with_reducible refine (impl_passes.calls k1 _ _ l0 x8_1 true _ ?side1 ?side2 A5.out).mono ?_); (case side1 => repeat (first | exact (Kd.C_below HR0.out HB.out) | (with_reducible refine Kd.C_alloc ?_ _) | (with_reducible refine Kd.C_drewN ?_ _) | (with_reducible refine Kd.C_drew ?_))); (case side2 => exact HC0.out); rintro e w8 ⟨rfl, hb⟩; refine ⟨_, rfl, ?_⟩; have n0_ := Aside0.mk (Kd.R_below (by (with_reducible repeat (first | apply Kd.R_alloc | apply Kd.R_drewN | apply Kd.R_drew)); exact HO_3.out) hb); have n1_ := Aside0.mk (below_step (by repeat (first | (with_reducible first | exact HB.out | apply below_alloc | apply pw_below_drewN | apply below_drew1) | exact HB.out)) hb); clear HO_3; clear HB; have HO_3 := n0_; have HB := n1_; clear n0_ n1_; (try clear hb); (try clear hb2); (try clear hk); (try clear hi)) | ((with_reducible refine gate_builtin (b := .append) (xs := #[.tmp 14, .tmp 16]) rfl ?_); at_builtin; refine Kd.R_append (Kd.int .i64) (w0 := w) w.heap.size rfl (.tmp 14) (.tmp 16) 22 3 (.int .i64 0) 8 rfl Try.underlying22 info3 rfl (by decide) (by omega) u3 x3_1 x8_1 [.int .i64 x8_1] (fun _ => True) (fun _ => False) rfl rfl ?aP (fun _ hk => hk.elim) ?aF ?aO ?aB ?aS ?aL ?_; (case aP => exact rfl); (case aB => exact (by repeat (first | (with_reducible first | exact HB.out | apply below_alloc | apply pw_below_drewN | apply below_drew1) | exact HB.out))); (case aF => exact (fun _ _ => trivial)); (case aO => exact (by (with_reducible repeat (first | apply Kd.R_alloc | apply Kd.R_drewN | apply Kd.R_drew)); exact HO_3.out)); (case aS => exact (below_size (by repeat (first | (with_reducible first | exact HB.out | apply below_alloc | apply pw_below_drewN | apply below_drew1) | exact HB.out)))); (case aL => have := LMc7.out; omega); intro v148 w9 ho hb hg hat; rw [← Ny147.out] at ho; have n0_ := Aside0.mk (hb); have n1_ := Aside0.mk (ho); clear HB; clear HO_3; have HB := n0_; have HO149 := n1_; clear n0_ n1_; clear ho hb hg hat))
            go_roundg k1
            case measure => have := HK1.out; omega
            case rel => exact ⟨(y147), (wrap64 (x8_1 + 1)), (by first | rfl | (simp; done) | (simp [*]; done)), H', ⟨by have := HK1.out; omega⟩, ⟨by (with_reducible repeat (first | apply Kd.R_alloc | apply Kd.R_drewN | apply Kd.R_drew)); exact HO149.out⟩, ⟨by repeat (first | (with_reducible first | exact HB.out | apply below_alloc | apply pw_below_drewN | apply below_drew1) | exact HB.out)⟩⟩
          · rw [if_neg c7] at H
            exact absurd H (by simp)
        · replace c6 := Bool.eq_false_iff.mpr c6
          subst c6
          have H1 : (impl_PassersOf.l0 k1 l0 x3_1 (l0.length : Int) (wrap64 (x8_1 + 1))) = some r := by rw [if_neg (show ¬ (false = true) by decide)] at H; exact H
          clear H
          have H := H1
          clear H1
          have H' := Aside0.mk H
          clear H
          go_wp2_with (first | ((with_reducible refine gate_callee (f := 51) rfl ?_); refine goesL_ (some 13) rfl rfl Try.func51 (by kernel_rfl) rfl #[.slice A0 l0.length c0, .int .i64 x8_1] rfl (by (try simp only [List.map_toArray, List.map_cons, List.map_nil]); first | done | rfl | (simp only [List.length_drop, List.length_take]; rfl)) ?_; (with_reducible refine (impl_passes.calls k1 _ _ l0 x8_1 false _ ?side1 ?side2 A5.out).mono ?_); (case side1 => repeat (first | exact (Kd.C_below HR0.out HB.out) | (with_reducible refine Kd.C_alloc ?_ _) | (with_reducible refine Kd.C_drewN ?_ _) | (with_reducible refine Kd.C_drew ?_))); (case side2 => exact HC0.out); rintro e w10 ⟨rfl, hb⟩; refine ⟨_, rfl, ?_⟩; have n0_ := Aside0.mk (Kd.R_below (by (with_reducible repeat (first | apply Kd.R_alloc | apply Kd.R_drewN | apply Kd.R_drew)); exact HO_3.out) hb); have n1_ := Aside0.mk (below_step (by repeat (first | (with_reducible first | exact HB.out | apply below_alloc | apply pw_below_drewN | apply below_drew1) | exact HB.out)) hb); clear HO_3; clear HB; have HO_3 := n0_; have HB := n1_; clear n0_ n1_; (try clear hb); (try clear hb2); (try clear hk); (try clear hi)))
          go_roundg k1
          case measure => have := HK1.out; omega
          case rel => exact ⟨(x3_1), (wrap64 (x8_1 + 1)), (by first | rfl | (simp; done) | (simp [*]; done)), H', ⟨by have := HK1.out; omega⟩, ⟨by (with_reducible repeat (first | apply Kd.R_alloc | apply Kd.R_drewN | apply Kd.R_drew)); exact HO_3.out⟩, ⟨by repeat (first | (with_reducible first | exact HB.out | apply below_alloc | apply pw_below_drewN | apply below_drew1) | exact HB.out)⟩⟩
      · rw [if_neg c4] at H
        have c4b0 : decide (x8_1 < (l0.length : Int)) = false := decide_eq_false c4
        clear c4
        obtain rfl := Option.some.inj H
        go_wp2
        go_ret
        exact ⟨_, by first | rfl | (simp [errW_none, errW_some] <;> rfl) | (simp [*, errW_none, errW_some] <;> rfl), by (with_reducible repeat (first | apply Kd.R_alloc | apply Kd.R_drewN | apply Kd.R_drew)); exact HO_3.out, by repeat (first | (with_reducible first | exact HB.out | apply below_alloc | apply pw_below_drewN | apply below_drew1) | exact HB.out)⟩

/-! ### laws_big: function 26 -/
def laws_big.f (l0 : List Int) : Option (Bool) := some (decide ((l0.length : Int) > 1048576))
set_option maxHeartbeats 8000000 in
set_option maxRecDepth 100000 in
theorem laws_big.calls (A0 : Option Addr) (c0 : Nat) (l0 : List Int) (r : Bool) (w : World) (hr0 : Kd.C (Kd.int .u8) w A0 l0.length l0) (hc0 : l0.length ≤ c0) (h : laws_big.f l0 = some r) :
    Calls Try.prog 26 #[.slice A0 l0.length c0] w fun e w' => e = .returned (.bool r) ∧ Drawn0 w w' := by
  have HR0 := Aside0.mk hr0
  have HC0 := Aside0.mk hc0
  clear hr0 hc0
  have H : (some (decide ((l0.length : Int) > 1048576))) = some r := h
  clear h
  obtain rfl := Option.some.inj H
  go_enter Try.func26, Try.ntmps26
  go_wp2
  go_ret
  exact ⟨by first | rfl | (simp; done) | (simp [*]; done), by repeat (first | exact Drawn0.refl _ | apply Drawn0.step)⟩

/-- A state of type 91 at block g of W; what its slices lead to came in by w0. -/
def IsS91 (w0 W : World) (g : Nat) (f0 : List Int) (f1 : Int) (f2 : Int) : Prop := ∃ A0 c0, W.heap[g]? = some (.cells #[.slice A0 f0.length c0, .int .i64 f1, .int .i64 f2] 91 (0, 0)) ∧ w0.heap.size ≤ g ∧ Kd.C (Kd.int .u8) w0 A0 f0.length f0
theorem IsS91.grown {w0 W : World} {g : Nat} {f0 : List Int} {f1 : Int} {f2 : Int} {W1 : World} {row : Option Nat} (h : IsS91 w0 W g f0 f1 f2) (hw : W.grownBy W1 row) (hne : some g ≠ row) : IsS91 w0 W1 g f0 f1 f2 := by
  obtain ⟨A0, c0, hb, hg, hr0⟩ := h
  exact ⟨A0, c0, blk_grown hb hw hne, hg, hr0⟩
theorem IsS91.own_neN {w0 W : World} {g : Nat} {f0 : List Int} {f1 : Int} {f2 : Int} {α : Type} {d : Kd α} {e : Nat} {base : Nat} {ok : Nat → Prop} {v : Value} {xs : List α} (h : IsS91 w0 W g f0 f1 f2) (ho : Kd.N d e W base ok v xs) (ht : e ≠ 91) : some g ≠ v.ownBlock := by
  obtain ⟨A0, c0, hb, hg, hr0⟩ := h
  exact Kd.N_ne ho hb ht
theorem IsS91.fresh {w0 W : World} {g : Nat} {f0 : List Int} {f1 : Int} {f2 : Int} (h : IsS91 w0 W g f0 f1 f2) : ∀ k, W.heap.size ≤ k → k ≠ g := by
  obtain ⟨A0, c0, hb, hg, hr0⟩ := h
  exact Kd.freshB hb
theorem IsS91.kept {w0 W : World} {g : Nat} {f0 : List Int} {f1 : Int} {f2 : Int} {W1 : World} {S : Nat → Prop} (h : IsS91 w0 W g f0 f1 f2) (hk : Kept W W1 S) (hne : ¬ S g) : IsS91 w0 W1 g f0 f1 f2 := by
  obtain ⟨A0, c0, hb, hg, hr0⟩ := h
  exact ⟨A0, c0, blk_kept hb hk hne, hg, hr0⟩
theorem IsS91.below {w0 W : World} {g : Nat} {f0 : List Int} {f1 : Int} {f2 : Int} {W1 : World} (h : IsS91 w0 W g f0 f1 f2) (hw : Below W.heap.size W W1) : IsS91 w0 W1 g f0 f1 f2 := h.grown (grown_of_below hw none) (by simp)
theorem IsS91.alloc {w0 W : World} {g : Nat} {f0 : List Int} {f1 : Int} {f2 : Int} (h : IsS91 w0 W g f0 f1 f2) (o : Obj) : IsS91 w0 (W.alloc o) g f0 f1 f2 := h.below (below_alloc (Below.refl _ _) o)
theorem IsS91.drewN {w0 W : World} {g : Nat} {f0 : List Int} {f1 : Int} {f2 : Int} (h : IsS91 w0 W g f0 f1 f2) (m : Nat) : IsS91 w0 (W.drewN m) g f0 f1 f2 := h
theorem IsS91.drew {w0 W : World} {g : Nat} {f0 : List Int} {f1 : Int} {f2 : Int} (h : IsS91 w0 W g f0 f1 f2) : IsS91 w0 W.drew g f0 f1 f2 := h
theorem IsS91.at_ {w0 W : World} {g : Nat} {f0 : List Int} {f1 : Int} {f2 : Int} {w' : World} {m : Nat} (hq : W.drewN m = w') (h : IsS91 w0 W g f0 f1 f2) : IsS91 w0 w' g f0 f1 f2 := by subst hq; exact IsS91.drewN h m
theorem IsS91.apart {w0 W : World} {g : Nat} {f0 : List Int} {f1 : Int} {f2 : Int} {α : Type} {d : Kd α} {e : Nat} {base : Nat} {ok : Nat → Prop} {v : Value} {xs : List α} (h : IsS91 w0 W g f0 f1 f2) (ho : d.R e W base ok v xs) (ht : ∀ q, q ∈ e :: d.E → q ≠ 91) : d.R e W base (fun k => ok k ∧ k ≠ g) v xs := by
  obtain ⟨A0, c0, hb, hg, hr0⟩ := h
  exact Kd.R_types ho hb ht
theorem IsS91.own_ne {w0 W : World} {g : Nat} {f0 : List Int} {f1 : Int} {f2 : Int} {α : Type} {d : Kd α} {e : Nat} {base : Nat} {ok : Nat → Prop} {v : Value} {xs : List α} (h : IsS91 w0 W g f0 f1 f2) (ho : d.R e W base ok v xs) (ht : e ≠ 91) : some g ≠ v.ownBlock := by
  obtain ⟨A0, c0, hb, hg, hr0⟩ := h
  exact Kd.R_ne ho hb ht
theorem IsS91.apartQ {w0 W : World} {g : Nat} {f0 : List Int} {f1 : Int} {f2 : Int} {α : Type} {d : Kd α} {e : Nat} {base : Nat} {ok : Nat → Prop} {v : Value} {xs : List α} (h : IsS91 w0 W g f0 f1 f2) (ho : d.Q e W base ok v xs) (ht : ∀ q, q ∈ e :: d.E → q ≠ 91) : d.Q e W base (fun k => ok k ∧ k ≠ g) v xs := by
  obtain ⟨A0, c0, hb, hg, hr0⟩ := h
  exact Kd.Q_types ho hb ht
theorem IsS91.own_neQ {w0 W : World} {g : Nat} {f0 : List Int} {f1 : Int} {f2 : Int} {α : Type} {d : Kd α} {e : Nat} {base : Nat} {ok : Nat → Prop} {v : Value} {xs : List α} (h : IsS91 w0 W g f0 f1 f2) (ho : d.Q e W base ok v xs) (ht : e ≠ 91) : some g ≠ v.ownBlock := by
  obtain ⟨A0, c0, hb, hg, hr0⟩ := h
  exact Kd.Q_ne ho hb ht
theorem IsS91.apartS {w0 W : World} {g : Nat} {f0 : List Int} {f1 : Int} {f2 : Int} {α : Type} {d : Kd α} {e : Nat} {base : Nat} {ok : Nat → Prop} {v : Value} {xs : List α} (h : IsS91 w0 W g f0 f1 f2) (ho : d.S e W base ok v xs) (ht : ∀ q, q ∈ e :: d.E → q ≠ 91) : d.S e W base (fun k => ok k ∧ k ≠ g) v xs := by
  obtain ⟨A0, c0, hb, hg, hr0⟩ := h
  exact Kd.S_types ho hb ht
theorem IsS91.own_neS {w0 W : World} {g : Nat} {f0 : List Int} {f1 : Int} {f2 : Int} {α : Type} {d : Kd α} {e : Nat} {base : Nat} {ok : Nat → Prop} {v : Value} {xs : List α} (h : IsS91 w0 W g f0 f1 f2) (ho : d.S e W base ok v xs) (ht : e ≠ 91) : some g ≠ v.ownBlock := by
  obtain ⟨A0, c0, hb, hg, hr0⟩ := h
  exact Kd.S_ne ho hb ht
theorem IsS91.lt {w0 W : World} {g : Nat} {f0 : List Int} {f1 : Int} {f2 : Int} (h : IsS91 w0 W g f0 f1 f2) : g < W.heap.size := by
  obtain ⟨A0, c0, hb, hg, hr0⟩ := h
  exact blk_lt hb
theorem IsS91.ge {w0 W : World} {g : Nat} {f0 : List Int} {f1 : Int} {f2 : Int} (h : IsS91 w0 W g f0 f1 f2) : w0.heap.size ≤ g := by
  obtain ⟨A0, c0, hb, hg, hr0⟩ := h
  exact hg
theorem IsS91.ne_blk {w0 W : World} {g : Nat} {f0 : List Int} {f1 : Int} {f2 : Int} {a : Nat} {cs : Array Value} {t : TypeId} {fr : Nat × Nat} (h : IsS91 w0 W g f0 f1 f2) (hb2 : W.heap[a]? = some (.cells cs t fr)) (ht : t ≠ 91) : g ≠ a := by
  obtain ⟨A0, c0, hb, hg, hr0⟩ := h
  rintro rfl
  rw [hb] at hb2
  injection hb2 with hb2
  injection hb2 with _ ht2
  exact ht ht2.symm
theorem IsS91.far {w0 W : World} {g : Nat} {f0 : List Int} {f1 : Int} {f2 : Int} {p : Addr} (h : IsS91 w0 W g f0 f1 f2) (hne : g ≠ p.block) (u : Value) : IsS91 w0 (W.setCell p u) g f0 f1 f2 := by
  obtain ⟨A0, c0, hb, hg, hr0⟩ := h
  exact ⟨A0, c0, blk_far hb hne u, hg, hr0⟩
theorem cellS91_0 {W : World} {g : Nat} {A0 : Option Addr} {c0 : Nat} {f0 : List Int} {f1 : Int} {f2 : Int} (h : W.heap[g]? = some (.cells #[.slice A0 f0.length c0, .int .i64 f1, .int .i64 f2] 91 (0, 0))) : W.cell? ⟨g, 0, none⟩ = some (.slice A0 f0.length c0) := (blk_cell h 0).trans rfl
theorem cellS91_1 {W : World} {g : Nat} {A0 : Option Addr} {c0 : Nat} {f0 : List Int} {f1 : Int} {f2 : Int} (h : W.heap[g]? = some (.cells #[.slice A0 f0.length c0, .int .i64 f1, .int .i64 f2] 91 (0, 0))) : W.cell? ⟨g, 1, none⟩ = some (.int .i64 f1) := (blk_cell h 1).trans rfl
theorem IsS91.set_1 {w0 W : World} {g : Nat} {f0 : List Int} {f1 : Int} {f2 : Int} (h : IsS91 w0 W g f0 f1 f2) (x : Int) : IsS91 w0 (W.setCell ⟨g, 1, none⟩ (.int .i64 x)) g f0 x f2 := by
  obtain ⟨A0, c0, hb, hg, hr0⟩ := h
  exact ⟨A0, c0, by simpa using blk_set hb 1 (.int .i64 x), hg, hr0⟩
theorem cellS91_2 {W : World} {g : Nat} {A0 : Option Addr} {c0 : Nat} {f0 : List Int} {f1 : Int} {f2 : Int} (h : W.heap[g]? = some (.cells #[.slice A0 f0.length c0, .int .i64 f1, .int .i64 f2] 91 (0, 0))) : W.cell? ⟨g, 2, none⟩ = some (.int .i64 f2) := (blk_cell h 2).trans rfl
theorem IsS91.set_2 {w0 W : World} {g : Nat} {f0 : List Int} {f1 : Int} {f2 : Int} (h : IsS91 w0 W g f0 f1 f2) (x : Int) : IsS91 w0 (W.setCell ⟨g, 2, none⟩ (.int .i64 x)) g f0 f1 x := by
  obtain ⟨A0, c0, hb, hg, hr0⟩ := h
  exact ⟨A0, c0, by simpa using blk_set hb 2 (.int .i64 x), hg, hr0⟩
theorem IsS91.new (w0 W : World) (A0 : Option Addr) (c0 : Nat) (f0 : List Int) (f1 : Int) (f2 : Int) (hB : Below w0.heap.size w0 W) (hr0 : Kd.C (Kd.int .u8) w0 A0 f0.length f0) : IsS91 w0 (W.alloc (.cells #[.slice A0 f0.length c0, .int .i64 f1, .int .i64 f2] 91)) W.heap.size f0 f1 f2 := ⟨A0, c0, by simpa using heap_alloc_new W _, hB.size, hr0⟩

/-! ### spec_l01Byte: function 93 -/
def spec_l01Byte.f (s0_0 : List Int) (s0_1 : Int) (s0_2 : Int) : Option (Int × Int × Int) := if s0_1 < (s0_0.length : Int) then (if 0 ≤ s0_1 then (some (Go.bits .and .i64 (wrap64 ((Go.bits .and .i64 (Go.bits .xor .i64 ((wrap64 ((wrap64 (s0_2 * 6364136223846793005)) + 1442695040888963407)) / 8589934592) ((wrap64 ((wrap64 (s0_2 * 6364136223846793005)) + 1442695040888963407)) / 35184372088832)) 255) + (wrap64 (rd s0_0 s0_1)))) 255, wrap64 (s0_1 + 1), wrap64 ((wrap64 (s0_2 * 6364136223846793005)) + 1442695040888963407))) else (none)) else (some (Go.bits .and .i64 (Go.bits .xor .i64 ((wrap64 ((wrap64 (s0_2 * 6364136223846793005)) + 1442695040888963407)) / 8589934592) ((wrap64 ((wrap64 (s0_2 * 6364136223846793005)) + 1442695040888963407)) / 35184372088832)) 255, s0_1, wrap64 ((wrap64 (s0_2 * 6364136223846793005)) + 1442695040888963407)))
set_option maxHeartbeats 8000000 in
set_option maxRecDepth 100000 in
theorem spec_l01Byte.calls (g : Nat) (s0_0 : List Int) (s0_1 : Int) (s0_2 : Int) (r1 : Int) (r2 : Int) (r3 : Int) (w0 w : World) (hI : IsS91 w0 w g s0_0 s0_1 s0_2) (hB : Below w0.heap.size w0 w) (h : spec_l01Byte.f s0_0 s0_1 s0_2 = some (r1, r2, r3)) :
    Calls Try.prog 93 #[.pointer (some ⟨g, 0, none⟩)] w fun e w' => e = .returned (.int .i64 r1) ∧ IsS91 w0 w' g s0_0 r2 r3 ∧ Below w0.heap.size w0 w' ∧ KeepBut w w' g none := by
  have HI0 := Aside0.mk hI
  have HK := Aside0.mk (KeepBut.refl w g none)
  have HL := Aside0.mk hB.size
  clear hI
  have HW0 := Aside0.mk hB.size
  have HB := Aside0.mk hB
  clear hB
  have H : (if s0_1 < (s0_0.length : Int) then (if 0 ≤ s0_1 then (some (Go.bits .and .i64 (wrap64 ((Go.bits .and .i64 (Go.bits .xor .i64 ((wrap64 ((wrap64 (s0_2 * 6364136223846793005)) + 1442695040888963407)) / 8589934592) ((wrap64 ((wrap64 (s0_2 * 6364136223846793005)) + 1442695040888963407)) / 35184372088832)) 255) + (wrap64 (rd s0_0 s0_1)))) 255, wrap64 (s0_1 + 1), wrap64 ((wrap64 (s0_2 * 6364136223846793005)) + 1442695040888963407))) else (none)) else (some (Go.bits .and .i64 (Go.bits .xor .i64 ((wrap64 ((wrap64 (s0_2 * 6364136223846793005)) + 1442695040888963407)) / 8589934592) ((wrap64 ((wrap64 (s0_2 * 6364136223846793005)) + 1442695040888963407)) / 35184372088832)) 255, s0_1, wrap64 ((wrap64 (s0_2 * 6364136223846793005)) + 1442695040888963407)))) = some (r1, r2, r3) := h
  clear h
  by_cases c2 : s0_1 < (s0_0.length : Int)
  · rw [if_pos c2] at H
    have c2b0 : decide (s0_1 < (s0_0.length : Int)) = true := decide_eq_true c2
    clear c2
    by_cases c3 : 0 ≤ s0_1
    · rw [if_pos c3] at H
      have c3b0 : decide (0 ≤ s0_1) = true := decide_eq_true c3
      clear c3
      simp only [Option.some.injEq, Prod.mk.injEq] at H
      obtain ⟨rfl, rfl, rfl⟩ := H
      obtain ⟨ASz4_0, cSz4_0, HGz4, hgz4, HSz4_0⟩ := HI0.out
      have hcz4_0 := cellS91_0 HGz4
      have hcz4_1 := cellS91_1 HGz4
      have hcz4_2 := cellS91_2 HGz4
      have hfz4_1 := blk_frozen HGz4 1
      have hfz4_2 := blk_frozen HGz4 2
      clear HGz4 hgz4
      have p150 : 0 ≤ (s0_1 : Int) := of_decide_eq_true (by first | (with_reducible assumption) | assumption)
      have q150 : s0_1 < (s0_0.length : Int) := of_decide_eq_true (by first | (with_reducible assumption) | assumption)
      obtain ⟨ad150, e150, hx150_0⟩ := Kd.at_int HSz4_0 s0_1 p150 q150
      cases e150
      have hn150_0 : ad150.block ≠ g := Nat.ne_of_lt (Nat.lt_of_lt_of_le (by have := World.block_lt_of_cell? _ _ hx150_0; first | rwa [add_block] at this | exact this) (IsS91.ge HI0.out))
      replace hx150_0 := pw_cell_below HB.out hx150_0
      replace hx150_0 := (cell_far (p := ⟨g, 2, none⟩) (by first | (rw [add_block]; exact hn150_0) | (show (Addr.add _ _).block ≠ _; rw [add_block]; exact hn150_0) | exact hn150_0) (.int .i64 (wrap64 ((wrap64 (s0_2 * 6364136223846793005)) + 1442695040888963407)))).trans hx150_0
      (try have hy150_0 := fun (n_ : Nat) => (show (((w.drewN n_).setCell ⟨g, 2, none⟩ (.int .i64 (wrap64 ((wrap64 (s0_2 * 6364136223846793005)) + 1442695040888963407))))).cell? _ = some _ from hx150_0))
      clear hn150_0
      replace p150 := eq_true p150
      replace q150 := eq_true q150
      go_enter Try.func93, Try.ntmps93
      go_wp2
      repeat (go_quiet (fail); try go_wp2)
      go_ret
      exact ⟨by first | rfl | (simp [errW_none, errW_some] <;> rfl) | (simp [*, errW_none, errW_some] <;> rfl), by repeat (first | (with_reducible first | exact HI0.out | apply IsS91.alloc | apply IsS91.drewN | apply IsS91.drew | apply IsS91.set_1 | apply IsS91.set_2) | exact HI0.out), by repeat (first | (with_reducible first | exact HB.out | apply below_alloc | apply pw_below_drewN | apply below_drew1 | refine below_set ?_ (IsS91.ge HI0.out)) | exact HB.out), by repeat (first | (with_reducible first | exact HK.out | apply KeepBut.set_ | apply keep_drewN | apply keep_drew | apply keep_alloc) | exact HK.out)⟩
    · rw [if_neg c3] at H
      exact absurd H (by simp)
  · rw [if_neg c2] at H
    have c2b0 : decide (s0_1 < (s0_0.length : Int)) = false := decide_eq_false c2
    clear c2
    simp only [Option.some.injEq, Prod.mk.injEq] at H
    obtain ⟨rfl, rfl, rfl⟩ := H
    obtain ⟨ASz5_0, cSz5_0, HGz5, hgz5, HSz5_0⟩ := HI0.out
    have hcz5_0 := cellS91_0 HGz5
    have hcz5_1 := cellS91_1 HGz5
    have hcz5_2 := cellS91_2 HGz5
    have hfz5_1 := blk_frozen HGz5 1
    have hfz5_2 := blk_frozen HGz5 2
    clear HGz5 hgz5
    go_enter Try.func93, Try.ntmps93
    go_wp2
    repeat (go_quiet (fail); try go_wp2)
    go_ret
    exact ⟨by first | rfl | (simp [errW_none, errW_some] <;> rfl) | (simp [*, errW_none, errW_some] <;> rfl), by repeat (first | (with_reducible first | exact HI0.out | apply IsS91.alloc | apply IsS91.drewN | apply IsS91.drew | apply IsS91.set_1 | apply IsS91.set_2) | exact HI0.out), by repeat (first | (with_reducible first | exact HB.out | apply below_alloc | apply pw_below_drewN | apply below_drew1 | refine below_set ?_ (IsS91.ge HI0.out)) | exact HB.out), by repeat (first | (with_reducible first | exact HK.out | apply KeepBut.set_ | apply keep_drewN | apply keep_drew | apply keep_alloc) | exact HK.out)⟩

end Go.Proofs.Ytbdehpmfemgooaa.PFnPassers
