-- Written by a program of this session (wip/xp): not trusted, Lean checks it.
import Derived.Test.YtbdehpmfemgooaaPFnQueuesx0
import Derived.Test.YtbdehpmfemgooaaPFnQueuesx3
import Derived.Test.YtbdehpmfemgooaaPFnQueuesx4
namespace Go.Proofs.Ytbdehpmfemgooaa.PFnQueues
open Go.RowKit Go.Proofs.YtbdehpmfemgooaaW.PrintWords Go.Proofs.YtbdehpmfemgooaaW.PrintLast Go.Proofs.YtbdehpmfemgooaaW.PrintMore
attribute [local go_sem] max2_int min2_int max_two min_two max_three min_three max_four min_four   -- for this text's walks alone
set_option linter.unusedVariables false
set_option linter.unusedSimpArgs false

theorem calls_castP {P : Program} {n : Nat} {a b : Array Value} {w : World} {Q : Ending → World → Prop} (h : a = b) (hc : Calls P n a w Q) : Calls P n b w Q := h ▸ hc

/-! ### impl_passes_1: function 75, told by hand: a closure over a row of packets and a place -/
def impl_passes_1.f (k : Nat) (q : S60) (a0_0 : Int) (a0_1 : Int) (a0_2 : Int) (a0_3 : Int) (a0_4 : Int) (a0_5 : Int) (a0_6 : Int) (l0_7 : List Int) : Option (Bool) := (impl_IsPacket.f k a0_0 a0_1 a0_2 a0_3 a0_4 a0_5 a0_6 l0_7).bind fun t => (if t = true then ((impl_MayPass.f k (q).f0 (q).f1 (q).f2 (q).f3 (q).f4 (q).f5 (q).f6 (q).f7 a0_0 a0_1 a0_2 a0_3 a0_4 a0_5 a0_6 l0_7).bind fun u => (some (!u))) else (some false))
set_option maxHeartbeats 8000000 in
set_option maxRecDepth 100000 in
theorem impl_passes_1.calls (k : Nat) (gq gi : Nat) (Aq : Option Addr) (cq : Nat) (lq : List (S60)) (iq : Int) (a0_0 : Int) (a0_1 : Int) (a0_2 : Int) (a0_3 : Int) (a0_4 : Int) (a0_5 : Int) (a0_6 : Int) (A0_7 : Option Addr) (c0_7 : Nat) (l0_7 : List Int) (r : Bool) (w : World) (hbq : w.heap[gq]? = some (.cells #[.slice Aq lq.length cq] 27 (0, 0))) (hbi : w.heap[gi]? = some (.cells #[.int .i64 iq] 3 (0, 0))) (hrq : Kd.C k60 w Aq lq.length lq) (hcq : lq.length ≤ cq) (hi0 : 0 ≤ iq) (hi1 : iq < lq.length) (hr0_7 : Kd.C (Kd.int .i64) w A0_7 l0_7.length l0_7) (hc0_7 : l0_7.length ≤ c0_7) (h : impl_passes_1.f k (rd_T60 lq iq) a0_0 a0_1 a0_2 a0_3 a0_4 a0_5 a0_6 l0_7 = some r) :
  Calls Try.prog 75 #[.agg #[.int .i64 a0_0, .int .i64 a0_1, .int .i64 a0_2, .int .i64 a0_3, .int .i64 a0_4, .int .i64 a0_5, .int .i64 a0_6, .slice A0_7 l0_7.length c0_7], .pointer (some ⟨gq, 0, none⟩), .pointer (some ⟨gi, 0, none⟩)] w fun e w' => e = .returned (.bool r) ∧ Below w.heap.size w w' := by
 have hu60 := Try.underlying60
 have HR0 := A_.mk hr0_7
 have HC0 := A_.mk hc0_7
 have BQ := A_.mk hbq
 have BI := A_.mk hbi
 have HB := A_.mk (Below.refl w.heap.size w)
 have H := h
 unfold impl_passes_1.f at H
 clear h hr0_7 hc0_7 hbq hbi
 obtain ⟨ad1, A1_7, c1_7, e1, hx1_0, hx1_1, hx1_2, hx1_3, hx1_4, hx1_5, hx1_6, hx1_7, hl1_7, hi1_7⟩ := at_T60 hrq iq hi0 hi1
 cases e1
 have HR1 := A_.mk hi1_7
 have HC1 := A_.mk hl1_7
 have p1 := eq_true hi0
 have q1 := eq_true hi1
 replace hx1_0 := A_.mk hx1_0
 replace hx1_1 := A_.mk hx1_1
 replace hx1_2 := A_.mk hx1_2
 replace hx1_3 := A_.mk hx1_3
 replace hx1_4 := A_.mk hx1_4
 replace hx1_5 := A_.mk hx1_5
 replace hx1_6 := A_.mk hx1_6
 replace hx1_7 := A_.mk hx1_7
 clear hrq hi1_7 hl1_7
 replace H := ob_ H
 obtain ⟨t, A10, H⟩ := H
 have A1 := A_.mk A10
 clear A10
 have c1 := eq_true hi0
 have c2 := decide_eq_true hi0
 have c3 := decide_eq_true hi1
 cases t with
 | false =>
  replace H : (some false) = some r := H
  obtain rfl := Option.some.inj H
  clear H
  go_enter Try.func75, Try.ntmps75
  try go_wp2_with (((with_reducible refine gd_ (N := 3) rfl ?_); refine by_ 3 (cs := #[.int .i64 a0_0, .int .i64 a0_1, .int .i64 a0_2, .int .i64 a0_3, .int .i64 a0_4, .int .i64 a0_5, .int .i64 a0_6, .slice A0_7 l0_7.length c0_7]) (t := 60) ?_; intro gp hg w4_ hbox hb; have BP := A_.mk hbox; replace BQ := A_.mk (bb_ BQ.out hb); replace BI := A_.mk (bb_ BI.out hb); replace HB := A_.mk (below_then HB.out HB.out.size hb); clear hb hbox hg))
  replace BP := A_.mk (bw_ BP.out)
  replace BQ := A_.mk (bw_ BQ.out)
  replace BI := A_.mk (bw_ BI.out)
  replace HB := A_.mk (be_ HB.out)
  refine start_ (n := 12) (S := fun w' => w'.cell? ⟨gp, 0, none⟩ = some (.int .i64 a0_0) ∧ w'.cell? ⟨gp, 1, none⟩ = some (.int .i64 a0_1) ∧ w'.cell? ⟨gp, 2, none⟩ = some (.int .i64 a0_2) ∧ w'.cell? ⟨gp, 3, none⟩ = some (.int .i64 a0_3) ∧ w'.cell? ⟨gp, 4, none⟩ = some (.int .i64 a0_4) ∧ w'.cell? ⟨gp, 5, none⟩ = some (.int .i64 a0_5) ∧ w'.cell? ⟨gp, 6, none⟩ = some (.int .i64 a0_6) ∧ w'.cell? ⟨gp, 7, none⟩ = some (.slice A0_7 l0_7.length c0_7) ∧ w'.cell? ⟨gq, 0, none⟩ = some (.slice (some ad1) lq.length cq) ∧ w'.cell? ⟨gi, 0, none⟩ = some (.int .i64 iq) ∧ w'.cell? (ad1.add (iq.toNat * 8)) = some (.int .i64 (rd_T60 lq iq).f0) ∧ w'.cell? ⟨(ad1.add (iq.toNat * 8)).block, (ad1.add (iq.toNat * 8)).off + 1, none⟩ = some (.int .i64 (rd_T60 lq iq).f1) ∧ w'.cell? ⟨(ad1.add (iq.toNat * 8)).block, (ad1.add (iq.toNat * 8)).off + 2, none⟩ = some (.int .i64 (rd_T60 lq iq).f2) ∧ w'.cell? ⟨(ad1.add (iq.toNat * 8)).block, (ad1.add (iq.toNat * 8)).off + 3, none⟩ = some (.int .i64 (rd_T60 lq iq).f3) ∧ w'.cell? ⟨(ad1.add (iq.toNat * 8)).block, (ad1.add (iq.toNat * 8)).off + 4, none⟩ = some (.int .i64 (rd_T60 lq iq).f4) ∧ w'.cell? ⟨(ad1.add (iq.toNat * 8)).block, (ad1.add (iq.toNat * 8)).off + 5, none⟩ = some (.int .i64 (rd_T60 lq iq).f5) ∧ w'.cell? ⟨(ad1.add (iq.toNat * 8)).block, (ad1.add (iq.toNat * 8)).off + 6, none⟩ = some (.int .i64 (rd_T60 lq iq).f6) ∧ w'.cell? ⟨(ad1.add (iq.toNat * 8)).block, (ad1.add (iq.toNat * 8)).off + 7, none⟩ = some (.slice A1_7 (rd_T60 lq iq).f7.length c1_7)) (ds := []) #[F, F, F, F, F, F, F, F, F, F, F, F] (by kernel_rfl) rfl rfl ⟨(bc_ BP.out 0).trans rfl, (bc_ BP.out 1).trans rfl, (bc_ BP.out 2).trans rfl, (bc_ BP.out 3).trans rfl, (bc_ BP.out 4).trans rfl, (bc_ BP.out 5).trans rfl, (bc_ BP.out 6).trans rfl, (bc_ BP.out 7).trans rfl, (bc_ BQ.out 0).trans rfl, (bc_ BI.out 0).trans rfl, (HB.out.cell (wl_ w _ hx1_0.out)).trans hx1_0.out, (HB.out.cell (wl_ w _ hx1_1.out)).trans hx1_1.out, (HB.out.cell (wl_ w _ hx1_2.out)).trans hx1_2.out, (HB.out.cell (wl_ w _ hx1_3.out)).trans hx1_3.out, (HB.out.cell (wl_ w _ hx1_4.out)).trans hx1_4.out, (HB.out.cell (wl_ w _ hx1_5.out)).trans hx1_5.out, (HB.out.cell (wl_ w _ hx1_6.out)).trans hx1_6.out, (HB.out.cell (wl_ w _ hx1_7.out)).trans hx1_7.out⟩ (fun hHeld => ?_)
  refine take_ (i := 0) (N := some 5) (v := ?_) (a' := ?_) #[T, F, F, F, F, F, F, F, F, F, F, F] rfl rfl (by kernel_rfl) (fun _ _ _ h => h) (Or.inl ⟨by rfl, ?_⟩) hHeld ?_ ?_
  rotate_left
  ·rintro w' ⟨s0, s1, s2, s3, s4, s5, s6, s7, s8, s9, s10, s11, s12, s13, s14, s15, s16, s17⟩
   go_simp
   with_reducible rfl
  rotate_left
  ·simp only [pS]
   rfl
  refine one_ (i := 1) (N := some 6) #[T, T, F, F, F, F, F, F, F, F, F, F] rfl rfl (by kernel_rfl) (by decide) (fun K hK => ?_)
  refine goes_ Try.func65 (by kernel_rfl) rfl #[.agg #[.int .i64 a0_0, .int .i64 a0_1, .int .i64 a0_2, .int .i64 a0_3, .int .i64 a0_4, .int .i64 a0_5, .int .i64 a0_6, .slice A0_7 l0_7.length c0_7]] (by rfl) rfl rfl (by (try simp only [List.map_toArray, List.map_cons, List.map_nil]); first | done | rfl) ?_
  with_reducible refine (impl_IsPacket.calls k a0_0 a0_1 a0_2 a0_3 a0_4 a0_5 a0_6 _ _ l0_7 false _ (Kd.C_below HR0.out HB.out) HC0.out A1.out).mono ?_
  rintro e w6_ ⟨rfl, hb⟩
  refine ⟨_, rfl, ?_⟩
  replace BP := A_.mk (bb_ BP.out hb)
  replace BQ := A_.mk (bb_ BQ.out hb)
  replace BI := A_.mk (bb_ BI.out hb)
  replace HB := A_.mk (below_then HB.out HB.out.size hb)
  clear hb
  refine hK.out _ _ ⟨(bc_ BP.out 0).trans rfl, (bc_ BP.out 1).trans rfl, (bc_ BP.out 2).trans rfl, (bc_ BP.out 3).trans rfl, (bc_ BP.out 4).trans rfl, (bc_ BP.out 5).trans rfl, (bc_ BP.out 6).trans rfl, (bc_ BP.out 7).trans rfl, (bc_ BQ.out 0).trans rfl, (bc_ BI.out 0).trans rfl, (HB.out.cell (wl_ w _ hx1_0.out)).trans hx1_0.out, (HB.out.cell (wl_ w _ hx1_1.out)).trans hx1_1.out, (HB.out.cell (wl_ w _ hx1_2.out)).trans hx1_2.out, (HB.out.cell (wl_ w _ hx1_3.out)).trans hx1_3.out, (HB.out.cell (wl_ w _ hx1_4.out)).trans hx1_4.out, (HB.out.cell (wl_ w _ hx1_5.out)).trans hx1_5.out, (HB.out.cell (wl_ w _ hx1_6.out)).trans hx1_6.out, (HB.out.cell (wl_ w _ hx1_7.out)).trans hx1_7.out⟩ (fun hHeld => ?_)
  clear hK K
  refine norm_ (a' := ?_) ?_ ?_
  rotate_left
  ·show Act.put _ (some 6) _ = _
   simp only [pS]
   rfl
  refine pd_ (i := 2) (N := some 7) #[T, T, T, F, F, F, F, F, F, F, F, F] rfl ?_
  refine pw_ (i := 3) (N := some 8) #[T, T, T, T, F, F, F, F, F, F, F, F] rfl ?_
  refine pw_ (i := 4) (N := some 9) #[T, T, T, T, T, F, F, F, F, F, F, F] rfl ?_
  refine pw_ (i := 5) (N := some 10) #[T, T, T, T, T, T, F, F, F, F, F, F] rfl ?_
  refine pw_ (i := 6) (N := some 11) #[T, T, T, T, T, T, T, F, F, F, F, F] rfl ?_
  refine pw_ (i := 7) (N := some 12) #[T, T, T, T, T, T, T, T, F, F, F, F] rfl ?_
  refine pw_ (i := 8) (N := some 13) #[T, T, T, T, T, T, T, T, T, F, F, F] rfl ?_
  refine pw_ (i := 9) (N := some 14) #[T, T, T, T, T, T, T, T, T, T, F, F] rfl ?_
  refine pd_ (i := 10) (N := some 15) #[T, T, T, T, T, T, T, T, T, T, T, F] rfl ?_
  refine pd_ (i := 11) (N := some 4) #[T, T, T, T, T, T, T, T, T, T, T, T] rfl ?_
  refine done_ (by kernel_rfl) ?_
  go_wp2
  go_ret
  exact ⟨rfl, HB.out⟩
 | true =>
  replace H : ((impl_MayPass.f k (rd_T60 lq iq).f0 (rd_T60 lq iq).f1 (rd_T60 lq iq).f2 (rd_T60 lq iq).f3 (rd_T60 lq iq).f4 (rd_T60 lq iq).f5 (rd_T60 lq iq).f6 (rd_T60 lq iq).f7 a0_0 a0_1 a0_2 a0_3 a0_4 a0_5 a0_6 l0_7).bind fun u => (some (!u))) = some r := H
  replace H := ob_ H
  obtain ⟨u, A20, H⟩ := H
  have A2 := A_.mk A20
  clear A20
  obtain rfl := Option.some.inj H
  clear H
  go_enter Try.func75, Try.ntmps75
  try go_wp2_with (((with_reducible refine gd_ (N := 3) rfl ?_); refine by_ 3 (cs := #[.int .i64 a0_0, .int .i64 a0_1, .int .i64 a0_2, .int .i64 a0_3, .int .i64 a0_4, .int .i64 a0_5, .int .i64 a0_6, .slice A0_7 l0_7.length c0_7]) (t := 60) ?_; intro gp hg w4_ hbox hb; have BP := A_.mk hbox; replace BQ := A_.mk (bb_ BQ.out hb); replace BI := A_.mk (bb_ BI.out hb); replace HB := A_.mk (below_then HB.out HB.out.size hb); clear hb hbox hg))
  replace BP := A_.mk (bw_ BP.out)
  replace BQ := A_.mk (bw_ BQ.out)
  replace BI := A_.mk (bw_ BI.out)
  replace HB := A_.mk (be_ HB.out)
  refine start_ (n := 12) (S := fun w' => w'.cell? ⟨gp, 0, none⟩ = some (.int .i64 a0_0) ∧ w'.cell? ⟨gp, 1, none⟩ = some (.int .i64 a0_1) ∧ w'.cell? ⟨gp, 2, none⟩ = some (.int .i64 a0_2) ∧ w'.cell? ⟨gp, 3, none⟩ = some (.int .i64 a0_3) ∧ w'.cell? ⟨gp, 4, none⟩ = some (.int .i64 a0_4) ∧ w'.cell? ⟨gp, 5, none⟩ = some (.int .i64 a0_5) ∧ w'.cell? ⟨gp, 6, none⟩ = some (.int .i64 a0_6) ∧ w'.cell? ⟨gp, 7, none⟩ = some (.slice A0_7 l0_7.length c0_7) ∧ w'.cell? ⟨gq, 0, none⟩ = some (.slice (some ad1) lq.length cq) ∧ w'.cell? ⟨gi, 0, none⟩ = some (.int .i64 iq) ∧ w'.cell? (ad1.add (iq.toNat * 8)) = some (.int .i64 (rd_T60 lq iq).f0) ∧ w'.cell? ⟨(ad1.add (iq.toNat * 8)).block, (ad1.add (iq.toNat * 8)).off + 1, none⟩ = some (.int .i64 (rd_T60 lq iq).f1) ∧ w'.cell? ⟨(ad1.add (iq.toNat * 8)).block, (ad1.add (iq.toNat * 8)).off + 2, none⟩ = some (.int .i64 (rd_T60 lq iq).f2) ∧ w'.cell? ⟨(ad1.add (iq.toNat * 8)).block, (ad1.add (iq.toNat * 8)).off + 3, none⟩ = some (.int .i64 (rd_T60 lq iq).f3) ∧ w'.cell? ⟨(ad1.add (iq.toNat * 8)).block, (ad1.add (iq.toNat * 8)).off + 4, none⟩ = some (.int .i64 (rd_T60 lq iq).f4) ∧ w'.cell? ⟨(ad1.add (iq.toNat * 8)).block, (ad1.add (iq.toNat * 8)).off + 5, none⟩ = some (.int .i64 (rd_T60 lq iq).f5) ∧ w'.cell? ⟨(ad1.add (iq.toNat * 8)).block, (ad1.add (iq.toNat * 8)).off + 6, none⟩ = some (.int .i64 (rd_T60 lq iq).f6) ∧ w'.cell? ⟨(ad1.add (iq.toNat * 8)).block, (ad1.add (iq.toNat * 8)).off + 7, none⟩ = some (.slice A1_7 (rd_T60 lq iq).f7.length c1_7)) (ds := []) #[F, F, F, F, F, F, F, F, F, F, F, F] (by kernel_rfl) rfl rfl ⟨(bc_ BP.out 0).trans rfl, (bc_ BP.out 1).trans rfl, (bc_ BP.out 2).trans rfl, (bc_ BP.out 3).trans rfl, (bc_ BP.out 4).trans rfl, (bc_ BP.out 5).trans rfl, (bc_ BP.out 6).trans rfl, (bc_ BP.out 7).trans rfl, (bc_ BQ.out 0).trans rfl, (bc_ BI.out 0).trans rfl, (HB.out.cell (wl_ w _ hx1_0.out)).trans hx1_0.out, (HB.out.cell (wl_ w _ hx1_1.out)).trans hx1_1.out, (HB.out.cell (wl_ w _ hx1_2.out)).trans hx1_2.out, (HB.out.cell (wl_ w _ hx1_3.out)).trans hx1_3.out, (HB.out.cell (wl_ w _ hx1_4.out)).trans hx1_4.out, (HB.out.cell (wl_ w _ hx1_5.out)).trans hx1_5.out, (HB.out.cell (wl_ w _ hx1_6.out)).trans hx1_6.out, (HB.out.cell (wl_ w _ hx1_7.out)).trans hx1_7.out⟩ (fun hHeld => ?_)
  refine take_ (i := 0) (N := some 5) (v := ?_) (a' := ?_) #[T, F, F, F, F, F, F, F, F, F, F, F] rfl rfl (by kernel_rfl) (fun _ _ _ h => h) (Or.inl ⟨by rfl, ?_⟩) hHeld ?_ ?_
  rotate_left
  ·rintro w' ⟨s0, s1, s2, s3, s4, s5, s6, s7, s8, s9, s10, s11, s12, s13, s14, s15, s16, s17⟩
   go_simp
   with_reducible rfl
  rotate_left
  ·simp only [pS]
   rfl
  refine one_ (i := 1) (N := some 6) #[T, T, F, F, F, F, F, F, F, F, F, F] rfl rfl (by kernel_rfl) (by decide) (fun K hK => ?_)
  refine goes_ Try.func65 (by kernel_rfl) rfl #[.agg #[.int .i64 a0_0, .int .i64 a0_1, .int .i64 a0_2, .int .i64 a0_3, .int .i64 a0_4, .int .i64 a0_5, .int .i64 a0_6, .slice A0_7 l0_7.length c0_7]] (by rfl) rfl rfl (by (try simp only [List.map_toArray, List.map_cons, List.map_nil]); first | done | rfl) ?_
  with_reducible refine (impl_IsPacket.calls k a0_0 a0_1 a0_2 a0_3 a0_4 a0_5 a0_6 _ _ l0_7 true _ (Kd.C_below HR0.out HB.out) HC0.out A1.out).mono ?_
  rintro e w6_ ⟨rfl, hb⟩
  refine ⟨_, rfl, ?_⟩
  replace BP := A_.mk (bb_ BP.out hb)
  replace BQ := A_.mk (bb_ BQ.out hb)
  replace BI := A_.mk (bb_ BI.out hb)
  replace HB := A_.mk (below_then HB.out HB.out.size hb)
  clear hb
  refine hK.out _ _ ⟨(bc_ BP.out 0).trans rfl, (bc_ BP.out 1).trans rfl, (bc_ BP.out 2).trans rfl, (bc_ BP.out 3).trans rfl, (bc_ BP.out 4).trans rfl, (bc_ BP.out 5).trans rfl, (bc_ BP.out 6).trans rfl, (bc_ BP.out 7).trans rfl, (bc_ BQ.out 0).trans rfl, (bc_ BI.out 0).trans rfl, (HB.out.cell (wl_ w _ hx1_0.out)).trans hx1_0.out, (HB.out.cell (wl_ w _ hx1_1.out)).trans hx1_1.out, (HB.out.cell (wl_ w _ hx1_2.out)).trans hx1_2.out, (HB.out.cell (wl_ w _ hx1_3.out)).trans hx1_3.out, (HB.out.cell (wl_ w _ hx1_4.out)).trans hx1_4.out, (HB.out.cell (wl_ w _ hx1_5.out)).trans hx1_5.out, (HB.out.cell (wl_ w _ hx1_6.out)).trans hx1_6.out, (HB.out.cell (wl_ w _ hx1_7.out)).trans hx1_7.out⟩ (fun hHeld => ?_)
  clear hK K
  refine norm_ (a' := ?_) ?_ ?_
  rotate_left
  ·show Act.put _ (some 6) _ = _
   simp only [pS]
   rfl
  refine pd_ (i := 2) (N := some 7) #[T, T, T, F, F, F, F, F, F, F, F, F] rfl ?_
  refine take_ (i := 3) (N := some 8) (v := ?_) (a' := ?_) #[T, T, T, T, F, F, F, F, F, F, F, F] rfl rfl (by kernel_rfl) (fun _ _ _ h => h) (Or.inl ⟨by rfl, ?_⟩) hHeld ?_ ?_
  rotate_left
  ·rintro w' ⟨s0, s1, s2, s3, s4, s5, s6, s7, s8, s9, s10, s11, s12, s13, s14, s15, s16, s17⟩
   go_simp
   with_reducible rfl
  rotate_left
  ·simp only [pS]
   rfl
  refine take_ (i := 4) (N := some 9) (v := ?_) (a' := ?_) #[T, T, T, T, T, F, F, F, F, F, F, F] rfl rfl (by kernel_rfl) (fun _ _ _ h => h) (Or.inl ⟨by rfl, ?_⟩) hHeld ?_ ?_
  rotate_left
  ·rintro w' ⟨s0, s1, s2, s3, s4, s5, s6, s7, s8, s9, s10, s11, s12, s13, s14, s15, s16, s17⟩
   go_simp
   with_reducible rfl
  rotate_left
  ·simp only [pS]
   rfl
  refine pd_ (i := 5) (N := some 10) #[T, T, T, T, T, T, F, F, F, F, F, F] rfl ?_
  refine take_ (i := 6) (N := some 11) (v := ?_) (a' := ?_) #[T, T, T, T, T, T, T, F, F, F, F, F] rfl rfl (by kernel_rfl) (fun _ _ _ h => h) (Or.inl ⟨by rfl, ?_⟩) hHeld ?_ ?_
  rotate_left
  ·rintro w' ⟨s0, s1, s2, s3, s4, s5, s6, s7, s8, s9, s10, s11, s12, s13, s14, s15, s16, s17⟩
   go_simp
   with_reducible rfl
  rotate_left
  ·simp only [pS]
   rfl
  refine take_ (i := 7) (N := some 12) (v := ?_) (a' := ?_) #[T, T, T, T, T, T, T, T, F, F, F, F] rfl rfl (by kernel_rfl) (fun _ _ _ h => h) (Or.inl ⟨by rfl, ?_⟩) hHeld ?_ ?_
  rotate_left
  ·rintro w' ⟨s0, s1, s2, s3, s4, s5, s6, s7, s8, s9, s10, s11, s12, s13, s14, s15, s16, s17⟩
   go_simp
   with_reducible rfl
  rotate_left
  ·simp only [pS]
   rfl
  refine one_ (i := 8) (N := some 13) #[T, T, T, T, T, T, T, T, T, F, F, F] rfl rfl (by kernel_rfl) (by decide) (fun K hK => ?_)
  refine goes_ Try.func57 (by kernel_rfl) rfl #[.agg #[.int .i64 (rd_T60 lq iq).f0, .int .i64 (rd_T60 lq iq).f1, .int .i64 (rd_T60 lq iq).f2, .int .i64 (rd_T60 lq iq).f3, .int .i64 (rd_T60 lq iq).f4, .int .i64 (rd_T60 lq iq).f5, .int .i64 (rd_T60 lq iq).f6, .slice A1_7 (rd_T60 lq iq).f7.length c1_7], .agg #[.int .i64 a0_0, .int .i64 a0_1, .int .i64 a0_2, .int .i64 a0_3, .int .i64 a0_4, .int .i64 a0_5, .int .i64 a0_6, .slice A0_7 l0_7.length c0_7]] (by rfl) rfl rfl (by (try simp only [List.map_toArray, List.map_cons, List.map_nil]); first | done | rfl) ?_
  with_reducible refine (impl_MayPass.calls k (rd_T60 lq iq).f0 (rd_T60 lq iq).f1 (rd_T60 lq iq).f2 (rd_T60 lq iq).f3 (rd_T60 lq iq).f4 (rd_T60 lq iq).f5 (rd_T60 lq iq).f6 _ _ (rd_T60 lq iq).f7 a0_0 a0_1 a0_2 a0_3 a0_4 a0_5 a0_6 _ _ l0_7 u _ (Kd.C_below HR1.out HB.out) HC1.out (Kd.C_below HR0.out HB.out) HC0.out A2.out).mono ?_
  rintro e w8_ ⟨rfl, hb⟩
  refine ⟨_, rfl, ?_⟩
  replace BP := A_.mk (bb_ BP.out hb)
  replace BQ := A_.mk (bb_ BQ.out hb)
  replace BI := A_.mk (bb_ BI.out hb)
  replace HB := A_.mk (below_then HB.out HB.out.size hb)
  clear hb
  refine hK.out _ _ ⟨(bc_ BP.out 0).trans rfl, (bc_ BP.out 1).trans rfl, (bc_ BP.out 2).trans rfl, (bc_ BP.out 3).trans rfl, (bc_ BP.out 4).trans rfl, (bc_ BP.out 5).trans rfl, (bc_ BP.out 6).trans rfl, (bc_ BP.out 7).trans rfl, (bc_ BQ.out 0).trans rfl, (bc_ BI.out 0).trans rfl, (HB.out.cell (wl_ w _ hx1_0.out)).trans hx1_0.out, (HB.out.cell (wl_ w _ hx1_1.out)).trans hx1_1.out, (HB.out.cell (wl_ w _ hx1_2.out)).trans hx1_2.out, (HB.out.cell (wl_ w _ hx1_3.out)).trans hx1_3.out, (HB.out.cell (wl_ w _ hx1_4.out)).trans hx1_4.out, (HB.out.cell (wl_ w _ hx1_5.out)).trans hx1_5.out, (HB.out.cell (wl_ w _ hx1_6.out)).trans hx1_6.out, (HB.out.cell (wl_ w _ hx1_7.out)).trans hx1_7.out⟩ (fun hHeld => ?_)
  clear hK K
  refine norm_ (a' := ?_) ?_ ?_
  rotate_left
  ·show Act.put _ (some 13) _ = _
   simp only [pS]
   rfl
  refine pd_ (i := 9) (N := some 14) #[T, T, T, T, T, T, T, T, T, T, F, F] rfl ?_
  refine pd_ (i := 10) (N := some 15) #[T, T, T, T, T, T, T, T, T, T, T, F] rfl ?_
  refine pd_ (i := 11) (N := some 4) #[T, T, T, T, T, T, T, T, T, T, T, T] rfl ?_
  refine done_ (by kernel_rfl) ?_
  go_wp2
  go_ret
  exact ⟨rfl, HB.out⟩
/-! ### slices.IndexFunc, slices.ContainsFunc (functions 92, 74) at that closure -/
def impl_passes_ix.l0 : Nat → List (S60) → S60 → Int → Int → Option (Int)
 | 0, _, _, _, _ => none
 | k + 1, x0, q, x7, x8 => if x8 < x7 then (if 0 ≤ x8 then (if x8 < (x0.length : Int) then ((impl_passes_1.f k q (rd_T60 x0 x8).f0 (rd_T60 x0 x8).f1 (rd_T60 x0 x8).f2 (rd_T60 x0 x8).f3 (rd_T60 x0 x8).f4 (rd_T60 x0 x8).f5 (rd_T60 x0 x8).f6 (rd_T60 x0 x8).f7).bind fun t => (if t = true then (some x8) else (impl_passes_ix.l0 k x0 q x7 (wrap64 (x8 + 1))))) else (none)) else (none)) else (some (-1))
def impl_passes_ix.f (k : Nat) (l0 : List (S60)) (q : S60) : Option (Int) := impl_passes_ix.l0 k l0 q (l0.length : Int) 0
def impl_passes_has.f (k : Nat) (l0 : List (S60)) (q : S60) : Option (Bool) := (impl_passes_ix.f k l0 q).bind fun t => (some (decide (t ≥ 0)))
set_option maxHeartbeats 8000000 in
set_option maxRecDepth 100000 in
theorem impl_passes_ix.calls (k : Nat) (A0 : Option Addr) (c0 : Nat) (l0 : List (S60)) (gq gi : Nat) (Aq : Option Addr) (cq : Nat) (lq : List (S60)) (iq : Int) (r : Int) (w : World) (hr0 : Kd.C k60 w A0 l0.length l0) (hc0 : l0.length ≤ c0) (hbq : w.heap[gq]? = some (.cells #[.slice Aq lq.length cq] 27 (0, 0))) (hbi : w.heap[gi]? = some (.cells #[.int .i64 iq] 3 (0, 0))) (hrq : Kd.C k60 w Aq lq.length lq) (hcq : lq.length ≤ cq) (hi0 : 0 ≤ iq) (hi1 : iq < lq.length) (h : impl_passes_ix.f k l0 (rd_T60 lq iq) = some r) :
  Calls Try.prog 92 #[.slice A0 l0.length c0, .func (.func 75) #[] #[.pointer (some ⟨gq, 0, none⟩), .pointer (some ⟨gi, 0, none⟩)]] w fun e w' => e = .returned (.int .i64 r) ∧ Below w.heap.size w w' := by
 have hu60 := Try.underlying60
 have HR0 := A_.mk hr0
 have HC0 := A_.mk hc0
 have BQ := A_.mk hbq
 have BI := A_.mk hbi
 have HRQ := A_.mk hrq
 have HCQ := A_.mk hcq
 have HI0 := A_.mk hi0
 have HI1 := A_.mk hi1
 clear hr0 hc0 hbq hbi hrq hcq hi0 hi1
 have HB := A_.mk (Below.refl w.heap.size w)
 have H' := A_.mk (show (impl_passes_ix.l0 k l0 (rd_T60 lq iq) (l0.length : Int) 0) = some r from h)
 clear h
 go_enter Try.func92, Try.ntmps92
 go_wp2
 go_loopg [8] k (fun kq v8 w' => ∃ (x8_1 : Int), v8 = .int .i64 x8_1 ∧ A_ (impl_passes_ix.l0 kq l0 (rd_T60 lq iq) (l0.length : Int) x8_1 = some r) ∧ A_ (kq ≤ k) ∧ A_ (Below w.heap.size w w'))
 case atStart => exact ⟨(0), (by first | rfl | (simp; done) | (simp [*]; done)), H', ⟨Nat.le_refl _⟩, ⟨beY HB.out⟩⟩
 case round =>
  clear H' HB
  obtain ⟨x8_1, rfl, HA, HK1, HB⟩ := hrel
  cases gk with
  | zero => exact absurd HA.out (by simp [impl_passes_ix.l0])
  | succ k1 =>
   have H := HA.out
   clear HA
   simp only [impl_passes_ix.l0] at H
   by_cases c3 : x8_1 < (l0.length : Int)
   rotate_left
   ·rw [if_neg c3] at H
    have c3b0 : decide (x8_1 < (l0.length : Int)) = false := decide_eq_false c3
    clear c3
    obtain rfl := Option.some.inj H
    clear H
    go_wp2
    go_ret
    exact ⟨rfl, HB.out⟩
   rw [if_pos c3] at H
   have c3b0 : decide (x8_1 < (l0.length : Int)) = true := decide_eq_true c3
   by_cases c4 : 0 ≤ x8_1
   case neg => rw [if_neg c4] at H; exact absurd H (by simp)
   rw [if_pos c4, if_pos c3] at H
   have c4b0 : decide (0 ≤ x8_1) = true := decide_eq_true c4
   have p1 := c4
   have q1 := c3
   clear c3 c4
   replace H := ob_ H
   obtain ⟨t, A60, H⟩ := H
   have A6 := A_.mk A60
   clear A60
   cases t with
   | true =>
    replace H : (some x8_1) = some r := H
    obtain rfl := Option.some.inj H
    clear H
    obtain ⟨ad1, A1_7, c1_7, e1, hx1_0, hx1_1, hx1_2, hx1_3, hx1_4, hx1_5, hx1_6, hx1_7, hl1_7, hi1_7⟩ := at_T60 HR0.out x8_1 p1 q1
    cases e1
    replace hx1_0 := (HB.out.cell (wl_ w _ hx1_0)).trans hx1_0
    replace hx1_1 := (HB.out.cell (wl_ w _ hx1_1)).trans hx1_1
    replace hx1_2 := (HB.out.cell (wl_ w _ hx1_2)).trans hx1_2
    replace hx1_3 := (HB.out.cell (wl_ w _ hx1_3)).trans hx1_3
    replace hx1_4 := (HB.out.cell (wl_ w _ hx1_4)).trans hx1_4
    replace hx1_5 := (HB.out.cell (wl_ w _ hx1_5)).trans hx1_5
    replace hx1_6 := (HB.out.cell (wl_ w _ hx1_6)).trans hx1_6
    replace hx1_7 := (HB.out.cell (wl_ w _ hx1_7)).trans hx1_7
    have HR1 := A_.mk hi1_7
    have HC1 := A_.mk hl1_7
    clear hi1_7 hl1_7
    replace p1 := eq_true p1
    replace q1 := eq_true q1
    go_wp2_with fail
    (with_reducible refine (impl_passes_1.calls k1 gq gi Aq cq lq iq (rd_T60 l0 x8_1).f0 (rd_T60 l0 x8_1).f1 (rd_T60 l0 x8_1).f2 (rd_T60 l0 x8_1).f3 (rd_T60 l0 x8_1).f4 (rd_T60 l0 x8_1).f5 (rd_T60 l0 x8_1).f6 _ _ (rd_T60 l0 x8_1).f7 true _ (bb_ BQ.out HB.out) (bb_ BI.out HB.out) (Kd.C_below HRQ.out HB.out) HCQ.out HI0.out HI1.out (Kd.C_below HR1.out HB.out) HC1.out A6.out).mono ?_)
    rintro e w8_ ⟨rfl, hb⟩
    replace HB := A_.mk (below_then HB.out HB.out.size hb)
    clear hb
    go_wp2
    go_ret
    exact ⟨rfl, HB.out⟩
   | false =>
    have H' := A_.mk (show (impl_passes_ix.l0 k1 l0 (rd_T60 lq iq) (l0.length : Int) (wrap64 (x8_1 + 1))) = some r from H)
    clear H
    obtain ⟨ad1, A1_7, c1_7, e1, hx1_0, hx1_1, hx1_2, hx1_3, hx1_4, hx1_5, hx1_6, hx1_7, hl1_7, hi1_7⟩ := at_T60 HR0.out x8_1 p1 q1
    cases e1
    replace hx1_0 := (HB.out.cell (wl_ w _ hx1_0)).trans hx1_0
    replace hx1_1 := (HB.out.cell (wl_ w _ hx1_1)).trans hx1_1
    replace hx1_2 := (HB.out.cell (wl_ w _ hx1_2)).trans hx1_2
    replace hx1_3 := (HB.out.cell (wl_ w _ hx1_3)).trans hx1_3
    replace hx1_4 := (HB.out.cell (wl_ w _ hx1_4)).trans hx1_4
    replace hx1_5 := (HB.out.cell (wl_ w _ hx1_5)).trans hx1_5
    replace hx1_6 := (HB.out.cell (wl_ w _ hx1_6)).trans hx1_6
    replace hx1_7 := (HB.out.cell (wl_ w _ hx1_7)).trans hx1_7
    have HR1 := A_.mk hi1_7
    have HC1 := A_.mk hl1_7
    clear hi1_7 hl1_7
    replace p1 := eq_true p1
    replace q1 := eq_true q1
    go_wp2_with fail
    (with_reducible refine (impl_passes_1.calls k1 gq gi Aq cq lq iq (rd_T60 l0 x8_1).f0 (rd_T60 l0 x8_1).f1 (rd_T60 l0 x8_1).f2 (rd_T60 l0 x8_1).f3 (rd_T60 l0 x8_1).f4 (rd_T60 l0 x8_1).f5 (rd_T60 l0 x8_1).f6 _ _ (rd_T60 l0 x8_1).f7 false _ (bb_ BQ.out HB.out) (bb_ BI.out HB.out) (Kd.C_below HRQ.out HB.out) HCQ.out HI0.out HI1.out (Kd.C_below HR1.out HB.out) HC1.out A6.out).mono ?_)
    rintro e w8_ ⟨rfl, hb⟩
    replace HB := A_.mk (below_then HB.out HB.out.size hb)
    clear hb
    go_wp2
    go_roundg k1
    case measure => have := HK1.out; omega
    case rel => exact ⟨(wrap64 (x8_1 + 1)), (by first | rfl | (simp; done) | (simp [*]; done)), H', ⟨by have := HK1.out; omega⟩, HB⟩
set_option maxHeartbeats 8000000 in
set_option maxRecDepth 100000 in
theorem impl_passes_has.calls (k : Nat) (A0 : Option Addr) (c0 : Nat) (l0 : List (S60)) (gq gi : Nat) (Aq : Option Addr) (cq : Nat) (lq : List (S60)) (iq : Int) (r : Bool) (w : World) (hr0 : Kd.C k60 w A0 l0.length l0) (hc0 : l0.length ≤ c0) (hbq : w.heap[gq]? = some (.cells #[.slice Aq lq.length cq] 27 (0, 0))) (hbi : w.heap[gi]? = some (.cells #[.int .i64 iq] 3 (0, 0))) (hrq : Kd.C k60 w Aq lq.length lq) (hcq : lq.length ≤ cq) (hi0 : 0 ≤ iq) (hi1 : iq < lq.length) (h : impl_passes_has.f k l0 (rd_T60 lq iq) = some r) :
  Calls Try.prog 74 #[.slice A0 l0.length c0, .func (.func 75) #[] #[.pointer (some ⟨gq, 0, none⟩), .pointer (some ⟨gi, 0, none⟩)]] w fun e w' => e = .returned (.bool r) ∧ Below w.heap.size w w' := by
 have HR0 := A_.mk hr0
 have HC0 := A_.mk hc0
 have BQ := A_.mk hbq
 have BI := A_.mk hbi
 have HRQ := A_.mk hrq
 have HCQ := A_.mk hcq
 have HI0 := A_.mk hi0
 have HI1 := A_.mk hi1
 clear hr0 hc0 hbq hbi hrq hcq hi0 hi1
 unfold impl_passes_has.f at h
 obtain ⟨t, A10, H⟩ := ob_ h
 have A1 := A_.mk A10
 clear A10 h
 obtain rfl := Option.some.inj H
 clear H
 go_enter Try.func74, Try.ntmps74
 go_wp2_with fail
 (with_reducible refine (impl_passes_ix.calls k _ _ l0 gq gi Aq cq lq iq t _ HR0.out HC0.out BQ.out BI.out HRQ.out HCQ.out HI0.out HI1.out A1.out).mono ?_)
 rintro e w1_ ⟨rfl, hb⟩
 replace hb := A_.mk hb
 go_wp2
 go_ret
 exact ⟨by first | rfl | (simp; done), hb.out⟩

/-! ### impl_passes: function 51 -/
def impl_passes.f (k : Nat) (l0 : List (S60)) (a1 : Int) : Option (Bool) := if 0 ≤ a1 then (if a1 < (l0.length : Int) then ((impl_IsPacket.f k (rd_T60 l0 a1).f0 (rd_T60 l0 a1).f1 (rd_T60 l0 a1).f2 (rd_T60 l0 a1).f3 (rd_T60 l0 a1).f4 (rd_T60 l0 a1).f5 (rd_T60 l0 a1).f6 (rd_T60 l0 a1).f7).bind fun t => (if t = true then ((impl_passes_has.f k (l0.take a1.toNat) (rd_T60 l0 a1)).bind fun u => (some (!u))) else (some false))) else (none)) else (none)
set_option maxHeartbeats 8000000 in
set_option maxRecDepth 100000 in
theorem impl_passes.calls (k : Nat) (A0 : Option Addr) (c0 : Nat) (l0 : List (S60)) (a1 : Int) (r : Bool) (w : World) (hr0 : Kd.C k60 w A0 l0.length l0) (hc0 : l0.length ≤ c0) (h : impl_passes.f k l0 a1 = some r) :
  Calls Try.prog 51 #[.slice A0 l0.length c0, .int .i64 a1] w fun e w' => e = .returned (.bool r) ∧ Below w.heap.size w w' := by
 have hu60 := Try.underlying60
 have HR0 := A_.mk hr0
 have HC0 := A_.mk hc0
 clear hr0 hc0
 have HB := A_.mk (Below.refl w.heap.size w)
 have H := h
 clear h
 unfold impl_passes.f at H
 by_cases p1 : 0 ≤ a1
 case neg => rw [if_neg p1] at H; exact absurd H (by simp)
 by_cases q1 : a1 < (l0.length : Int)
 case neg => rw [if_pos p1, if_neg q1] at H; exact absurd H (by simp)
 rw [if_pos p1, if_pos q1] at H
 replace H := ob_ H
 obtain ⟨t, A10, H⟩ := H
 have A1 := A_.mk A10
 clear A10
 have c3b0 : decide (a1 < (l0.length : Int)) = true := decide_eq_true q1
 have c4b0 : decide (0 ≤ a1) = true := decide_eq_true p1
 have HI0 := A_.mk p1
 have HI1 := A_.mk q1
 have hj : a1.toNat ≤ l0.length := by omega
 have HL := A_.mk (show (l0.take a1.toNat).length = a1.toNat by rw [List.length_take, Nat.min_eq_left hj])
 have HCT := A_.mk (show (l0.take a1.toNat).length ≤ c0 by have := HL.out; have := HC0.out; omega)
 have HJ := A_.mk hj
 clear hj
 obtain ⟨ad1, A1_7, c1_7, e1, hx1_0, hx1_1, hx1_2, hx1_3, hx1_4, hx1_5, hx1_6, hx1_7, hl1_7, hi1_7⟩ := at_T60 HR0.out a1 p1 q1
 cases e1
 have HR1 := A_.mk hi1_7
 have HC1 := A_.mk hl1_7
 clear hi1_7 hl1_7
 have hcut : ∀ W : World, (Instr.slice 27 (.slice (some ad1) l0.length c0) none (some (.int .i64 a1)) none).run Try.prog W = .ok (.slice (some ad1) a1.toNat c0) W := cut_to 27 60 .i64 Try.underlying27 (i := _) rfl (some ad1) l0.length c0 a1 p1 (by omega) HC0.out
 have hmf : ∀ (fn : Fn) (first cap : Array Value) (w : World), (Instr.makeFunc fn first cap).run Try.prog w = .ok (.func fn first cap) w := fun _ _ _ _ => rfl
 replace p1 := eq_true p1
 replace q1 := eq_true q1
 cases t with
 | false =>
  replace H : (some false) = some r := H
  obtain rfl := Option.some.inj H
  clear H
  go_enter Try.func51, Try.ntmps51
  go_wp2_with (first | ((with_reducible refine gd_ (N := 2) rfl ?_); refine by_ 2 (cs := #[.slice (some ad1) l0.length c0]) (t := 27) ?_; intro gq hg w2_ hbox hb; have Bgq := A_.mk hbox; replace HB := A_.mk (below_then HB.out HB.out.size hb); clear hb hbox hg) | ((with_reducible refine gd_ (N := 3) rfl ?_); refine by_ 3 (cs := #[.int .i64 a1]) (t := 3) ?_; intro gi hg w3_ hbox hb; have Bgi := A_.mk hbox; replace Bgq := A_.mk (bb_ Bgq.out hb); replace HB := A_.mk (below_then HB.out HB.out.size hb); clear hb hbox hg; have z0_ := (bc_ Bgq.out 0).trans rfl; have z1_ := (bc_ Bgi.out 0).trans rfl; replace hx1_0 := (HB.out.cell (wl_ w _ hx1_0)).trans hx1_0; replace hx1_1 := (HB.out.cell (wl_ w _ hx1_1)).trans hx1_1; replace hx1_2 := (HB.out.cell (wl_ w _ hx1_2)).trans hx1_2; replace hx1_3 := (HB.out.cell (wl_ w _ hx1_3)).trans hx1_3; replace hx1_4 := (HB.out.cell (wl_ w _ hx1_4)).trans hx1_4; replace hx1_5 := (HB.out.cell (wl_ w _ hx1_5)).trans hx1_5; replace hx1_6 := (HB.out.cell (wl_ w _ hx1_6)).trans hx1_6; replace hx1_7 := (HB.out.cell (wl_ w _ hx1_7)).trans hx1_7))
  (with_reducible refine (impl_IsPacket.calls k (rd_T60 l0 a1).f0 (rd_T60 l0 a1).f1 (rd_T60 l0 a1).f2 (rd_T60 l0 a1).f3 (rd_T60 l0 a1).f4 (rd_T60 l0 a1).f5 (rd_T60 l0 a1).f6 _ _ (rd_T60 l0 a1).f7 false _ (Kd.C_below HR1.out HB.out) HC1.out A1.out).mono ?_)
  rintro e w4_ ⟨rfl, hb⟩
  replace Bgq := A_.mk (bb_ Bgq.out hb)
  replace Bgi := A_.mk (bb_ Bgi.out hb)
  replace HB := A_.mk (below_then HB.out HB.out.size hb)
  clear hb z0_ z1_
  have z0_ : w4_.cell? ⟨gq, 0, none⟩ = some (.slice (some ad1) l0.length c0) := (bc_ Bgq.out 0).trans rfl
  have z1_ : w4_.cell? ⟨gi, 0, none⟩ = some (.int .i64 a1) := (bc_ Bgi.out 0).trans rfl
  clear hx1_0 hx1_1 hx1_2 hx1_3 hx1_4 hx1_5 hx1_6 hx1_7
  go_wp2
  go_ret
  exact ⟨rfl, HB.out⟩
 | true =>
  replace H : ((impl_passes_has.f k (l0.take a1.toNat) (rd_T60 l0 a1)).bind fun u => (some (!u))) = some r := H
  replace H := ob_ H
  obtain ⟨u, A20, H⟩ := H
  have A2 := A_.mk A20
  clear A20
  obtain rfl := Option.some.inj H
  clear H
  go_enter Try.func51, Try.ntmps51
  go_wp2_with (first | ((with_reducible refine gd_ (N := 2) rfl ?_); refine by_ 2 (cs := #[.slice (some ad1) l0.length c0]) (t := 27) ?_; intro gq hg w2_ hbox hb; have Bgq := A_.mk hbox; replace HB := A_.mk (below_then HB.out HB.out.size hb); clear hb hbox hg) | ((with_reducible refine gd_ (N := 3) rfl ?_); refine by_ 3 (cs := #[.int .i64 a1]) (t := 3) ?_; intro gi hg w3_ hbox hb; have Bgi := A_.mk hbox; replace Bgq := A_.mk (bb_ Bgq.out hb); replace HB := A_.mk (below_then HB.out HB.out.size hb); clear hb hbox hg; have z0_ := (bc_ Bgq.out 0).trans rfl; have z1_ := (bc_ Bgi.out 0).trans rfl; replace hx1_0 := (HB.out.cell (wl_ w _ hx1_0)).trans hx1_0; replace hx1_1 := (HB.out.cell (wl_ w _ hx1_1)).trans hx1_1; replace hx1_2 := (HB.out.cell (wl_ w _ hx1_2)).trans hx1_2; replace hx1_3 := (HB.out.cell (wl_ w _ hx1_3)).trans hx1_3; replace hx1_4 := (HB.out.cell (wl_ w _ hx1_4)).trans hx1_4; replace hx1_5 := (HB.out.cell (wl_ w _ hx1_5)).trans hx1_5; replace hx1_6 := (HB.out.cell (wl_ w _ hx1_6)).trans hx1_6; replace hx1_7 := (HB.out.cell (wl_ w _ hx1_7)).trans hx1_7))
  (with_reducible refine (impl_IsPacket.calls k (rd_T60 l0 a1).f0 (rd_T60 l0 a1).f1 (rd_T60 l0 a1).f2 (rd_T60 l0 a1).f3 (rd_T60 l0 a1).f4 (rd_T60 l0 a1).f5 (rd_T60 l0 a1).f6 _ _ (rd_T60 l0 a1).f7 true _ (Kd.C_below HR1.out HB.out) HC1.out A1.out).mono ?_)
  rintro e w4_ ⟨rfl, hb⟩
  replace Bgq := A_.mk (bb_ Bgq.out hb)
  replace Bgi := A_.mk (bb_ Bgi.out hb)
  replace HB := A_.mk (below_then HB.out HB.out.size hb)
  clear hb z0_ z1_
  have z0_ : w4_.cell? ⟨gq, 0, none⟩ = some (.slice (some ad1) l0.length c0) := (bc_ Bgq.out 0).trans rfl
  have z1_ : w4_.cell? ⟨gi, 0, none⟩ = some (.int .i64 a1) := (bc_ Bgi.out 0).trans rfl
  clear hx1_0 hx1_1 hx1_2 hx1_3 hx1_4 hx1_5 hx1_6 hx1_7
  go_wp2_with fail
  refine (calls_castP (by rw [HL.out]) (impl_passes_has.calls k (some ad1) c0 (l0.take a1.toNat) gq gi (some ad1) c0 l0 a1 u _ (Kd.C_take (Kd.C_below HR0.out HB.out) HJ.out) HCT.out Bgq.out Bgi.out (Kd.C_below HR0.out HB.out) HC0.out HI0.out HI1.out A2.out)).mono ?_
  rintro e w5_ ⟨rfl, hb⟩
  replace HB := A_.mk (below_then HB.out HB.out.size hb)
  clear hb
  go_wp2
  go_ret
  exact ⟨rfl, HB.out⟩
/-! ### impl_PassersOf: function 20 -/
def impl_PassersOf.l0 : Nat → List (S60) → List Int → Int → Int → Option (List Int)
 | 0, _, _, _, _ => none
 | k + 1, x0, x3, x7, x8 => if x8 < x7 then ((impl_passes.f k x0 x8).bind fun t380 => (if t380 = true then (if x3.length < 17592186044416 then (impl_PassersOf.l0 k x0 (x3 ++ [x8]) x7 (wrap64 (x8 + 1))) else (none)) else (impl_PassersOf.l0 k x0 x3 x7 (wrap64 (x8 + 1))))) else (some x3)
def impl_PassersOf.f (k : Nat) (l0 : List (S60)) : Option (List Int) := impl_PassersOf.l0 k l0 (([] : List Int)) (l0.length : Int) 0
set_option maxHeartbeats 8000000 in
set_option maxRecDepth 100000 in
theorem impl_PassersOf.calls (k : Nat) (A0 : Option Addr) (c0 : Nat) (l0 : List (S60)) (r : List Int) (w : World) (hr0 : Kd.C k60 w A0 l0.length l0) (hc0 : l0.length ≤ c0) (h : impl_PassersOf.f k l0 = some r) :
  Calls Try.prog 20 #[.slice A0 l0.length c0] w fun e w' => ∃ v0_ : Value, e = .returned (v0_) ∧ Kd.R (Kd.int .i64) 3 w' w.heap.size (fun _ => True) v0_ r ∧ Below w.heap.size w w' := by
 have HR0 := A_.mk hr0
 have HC0 := A_.mk hc0
 clear hr0 hc0
 have HB := A_.mk (Below.refl w.heap.size w)
 have H : (impl_PassersOf.l0 k l0 (([] : List Int)) (l0.length : Int) 0) = some r := h
 clear h
 obtain ⟨y377, hy377⟩ : ∃ y_ : List Int, y_ = (([] : List Int)) := ⟨_, rfl⟩
 replace H : (impl_PassersOf.l0 k l0 y377 (l0.length : Int) 0) = some r := by first | (rw [hy377]; with_reducible exact H) | (have H2_ := (Option.bind_some _ _).symm.trans H; rw [hy377]; with_reducible exact H2_) | (have H2_ := (Option.bind_some _ _).symm.trans H; with_reducible exact H2_) | with_reducible exact H | (rw [hy377]; exact H) | exact H
 have Ny377 := A_.mk hy377
 clear hy377
 have H' := A_.mk H
 clear H
 go_enter Try.func20, Try.ntmps20
 go_wp2_with (first | ((with_reducible refine gd_ (N := 5) rfl ?_); refine Kd.R_lit (Kd.int .i64) _ 3 ?hg (N := 5) ?hd (xs := ([] : List Int)) (inner := []) (ok := fun _ => True) (okp := fun _ => True) ?hr ?hp (fun _ hk => hk) trivial (Below.refl _ _) (Nat.le_refl _) (by simp) ?_; (case hd => rfl); (case hg => rfl); (case hr => first | (go_simp; done) | (go_simp; rfl)); (case hp => exact (Reps.none _ _)); intro v378 w2 ho3 hb hg_ hnew_; clear hg_ hnew_; (first | rw [← Ny377.out] at ho3 | (simp only [Int.reduceToNat] at ho3; rw [← Ny377.out] at ho3)); have n0_ := A_.mk (Kd.R_lower ho3 (bz_ (beY HB.out))); have n1_ := A_.mk (bt_ (beY HB.out) hb); clear HB; have HO379 := n0_; have HB := n1_; clear n0_ n1_ hb ho3))
 go_loopg [3, 8] k (fun kq v3 v8 w' => ∃ (x3_1 : List Int) (x8_1 : Int), v8 = .int .i64 x8_1 ∧ A_ (impl_PassersOf.l0 kq l0 x3_1 (l0.length : Int) x8_1 = some r) ∧ A_ (kq ≤ k) ∧ A_ (Kd.R (Kd.int .i64) 3 w' w.heap.size (fun _ => True) v3 x3_1) ∧ A_ (Below w.heap.size w w'))
 case atStart => exact ⟨(y377), (0), (by first | rfl | (simp; done) | (simp [*]; done)), H', ⟨Nat.le_refl _⟩, ⟨by (repeat apply rX); exact HO379.out⟩, ⟨beY HB.out⟩⟩
 case round =>
  clear H'
  obtain ⟨x3_1, x8_1, rfl, HA, HK1, HO_3, HB⟩ := hrel
  cases gk with
  | zero => exact absurd HA.out (by simp [impl_PassersOf.l0])
  | succ k1 =>
   have H := HA.out
   clear HA
   simp only [impl_PassersOf.l0] at H
   by_cases c4 : x8_1 < (l0.length : Int)
   rotate_left
   ·rw [if_neg c4] at H
    have c4b0 : decide (x8_1 < (l0.length : Int)) = false := decide_eq_false c4
    clear c4
    obtain rfl := Option.some.inj H
    go_wp2
    go_ret
    exact ⟨_, by first | rfl | (simp [errW_none, errW_some] <;> rfl) | (simp [*, errW_none, errW_some] <;> rfl), by (repeat apply rX); exact HO_3.out, beY HB.out⟩
   rw [if_pos c4] at H
   have c4b0 : decide (x8_1 < (l0.length : Int)) = true := decide_eq_true c4
   clear c4
   replace H := ob_ H
   obtain ⟨t380, A50, H⟩ := H
   have A5 := A_.mk A50
   clear A50
   by_cases c6 : t380 = true
   rotate_left
   ·replace c6 := Bool.eq_false_iff.mpr c6
    subst c6
    have H1 : (impl_PassersOf.l0 k1 l0 x3_1 (l0.length : Int) (wrap64 (x8_1 + 1))) = some r := by rw [if_neg (show ¬ (false = true) by decide)] at H; exact H
    clear H
    have H := H1
    clear H1
    have H' := A_.mk H
    clear H
    go_wp2_with (first | ((with_reducible refine gc_ (f := 51) rfl ?_); refine gl_ (some 13) Try.func51 #[.slice A0 l0.length c0, .int .i64 x8_1] ?_; (with_reducible refine (impl_passes.calls k1 _ _ l0 x8_1 false _ ?side1 ?side2 A5.out).mono ?_); (case side1 => exact cY ((Kd.C_below HR0.out HB.out))); (case side2 => exact HC0.out); rintro e w10 ⟨rfl, hb⟩; refine ⟨_, rfl, ?_⟩; have n0_ := A_.mk (Kd.R_below (rY HO_3.out) hb); have n1_ := A_.mk (bt_ (beY HB.out) hb); clear HO_3 HB; have HO_3 := n0_; have HB := n1_; clear n0_ n1_; (try clear hb); (try clear hb2); (try clear hk); (try clear hi)))
    go_roundg k1
    case measure => have := HK1.out; omega
    case rel => exact ⟨(x3_1), (wrap64 (x8_1 + 1)), (by first | rfl | (simp; done) | (simp [*]; done)), H', ⟨by have := HK1.out; omega⟩, ⟨by (repeat apply rX); exact HO_3.out⟩, ⟨beY HB.out⟩⟩
   subst c6
   have H1 : (if x3_1.length < 17592186044416 then (impl_PassersOf.l0 k1 l0 (x3_1 ++ [x8_1]) (l0.length : Int) (wrap64 (x8_1 + 1))) else (none)) = some r := by rw [if_pos rfl] at H; exact H
   clear H
   have H := H1
   clear H1
   by_cases c7 : x3_1.length < 17592186044416
   rotate_left
   ·rw [if_neg c7] at H
    exact absurd H (by simp)
   rw [if_pos c7] at H
   have LMc7 := A_.mk c7
   clear c7
   obtain ⟨y381, hy381⟩ : ∃ y_ : List Int, y_ = (x3_1 ++ [x8_1]) := ⟨_, rfl⟩
   replace H : (impl_PassersOf.l0 k1 l0 y381 (l0.length : Int) (wrap64 (x8_1 + 1))) = some r := by first | (rw [hy381]; with_reducible exact H) | (have H2_ := (Option.bind_some _ _).symm.trans H; rw [hy381]; with_reducible exact H2_) | (have H2_ := (Option.bind_some _ _).symm.trans H; with_reducible exact H2_) | with_reducible exact H | (rw [hy381]; exact H) | exact H
   have Ny381 := A_.mk hy381
   clear hy381
   have H' := A_.mk H
   clear H
   go_wp2_with (first | ((with_reducible refine gc_ (f := 51) rfl ?_); refine gl_ (some 13) Try.func51 #[.slice A0 l0.length c0, .int .i64 x8_1] ?_; (with_reducible refine (impl_passes.calls k1 _ _ l0 x8_1 true _ ?side1 ?side2 A5.out).mono ?_); (case side1 => exact cY ((Kd.C_below HR0.out HB.out))); (case side2 => exact HC0.out); rintro e w8 ⟨rfl, hb⟩; refine ⟨_, rfl, ?_⟩; have n0_ := A_.mk (Kd.R_below (rY HO_3.out) hb); have n1_ := A_.mk (bt_ (beY HB.out) hb); clear HO_3 HB; have HO_3 := n0_; have HB := n1_; clear n0_ n1_; (try clear hb); (try clear hb2); (try clear hk); (try clear hi)) | ((with_reducible refine gate_builtin (b := .append) (xs := #[.tmp 14, .tmp 16]) rfl ?_); at_builtin; refine Kd.R_append (Kd.int .i64) (w0 := w) w.heap.size rfl (.tmp 14) (.tmp 16) 22 3 (.int .i64 0) 8 rfl Try.underlying22 info3 rfl (by decide) (by omega) u3 x3_1 x8_1 [.int .i64 x8_1] (fun _ => True) (fun _ => False) rfl rfl ?aP (fun _ hk => hk.elim) ?aF ?aO ?aB ?aS ?aL ?_; (case aP => exact rfl); (case aB => exact (beY HB.out)); (case aF => exact (fun _ _ => trivial)); (case aO => exact (rY HO_3.out)); (case aS => exact (bz_ (beY HB.out))); (case aL => have := LMc7.out; omega); intro v382 w9 ho hb hg hat; rw [← Ny381.out] at ho; have n0_ := A_.mk (hb); have n1_ := A_.mk (ho); clear HB HO_3; have HB := n0_; have HO383 := n1_; clear n0_ n1_ ho hb hg hat))
   go_roundg k1
   case measure => have := HK1.out; omega
   case rel => exact ⟨(y381), (wrap64 (x8_1 + 1)), (by first | rfl | (simp; done) | (simp [*]; done)), H', ⟨by have := HK1.out; omega⟩, ⟨by (repeat apply rX); exact HO383.out⟩, ⟨beY HB.out⟩⟩
/-! ### impl_PacketUnits: function 85 -/
def impl_PacketUnits.f (k : Nat) (a0_0 : Int) (a0_1 : Int) (a0_2 : Int) (a0_3 : Int) (a0_4 : Int) (a0_5 : Int) (a0_6 : Int) (l0_7 : List Int) : Option (Int) := (impl_IsPacket.f k a0_0 a0_1 a0_2 a0_3 a0_4 a0_5 a0_6 l0_7).bind fun t385 => (if t385 = true then (some (wrap64 (Int.tdiv (wrap64 ((l0_7.length : Int) + 3)) 4))) else (some (-1)))
set_option maxHeartbeats 8000000 in
set_option maxRecDepth 100000 in
theorem impl_PacketUnits.calls (k : Nat) (a0_0 : Int) (a0_1 : Int) (a0_2 : Int) (a0_3 : Int) (a0_4 : Int) (a0_5 : Int) (a0_6 : Int) (A0_7 : Option Addr) (c0_7 : Nat) (l0_7 : List Int) (r : Int) (w : World) (hr0_7 : Kd.C (Kd.int .i64) w A0_7 l0_7.length l0_7) (hc0_7 : l0_7.length ≤ c0_7) (h : impl_PacketUnits.f k a0_0 a0_1 a0_2 a0_3 a0_4 a0_5 a0_6 l0_7 = some r) :
  Calls Try.prog 85 #[.agg #[.int .i64 a0_0, .int .i64 a0_1, .int .i64 a0_2, .int .i64 a0_3, .int .i64 a0_4, .int .i64 a0_5, .int .i64 a0_6, .slice A0_7 l0_7.length c0_7]] w fun e w' => e = .returned (.int .i64 r) ∧ Below w.heap.size w w' := by
 have hu60 := Try.underlying60
 have HR0_7 := A_.mk hr0_7
 have HC0_7 := A_.mk hc0_7
 clear hr0_7 hc0_7
 have HB := A_.mk (Below.refl w.heap.size w)
 have H : ((impl_IsPacket.f k a0_0 a0_1 a0_2 a0_3 a0_4 a0_5 a0_6 l0_7).bind fun t385 => (if t385 = true then (some (wrap64 (Int.tdiv (wrap64 ((l0_7.length : Int) + 3)) 4))) else (some (-1)))) = some r := h
 clear h
 replace H := ob_ H
 obtain ⟨t385, A20, H⟩ := H
 have A2 := A_.mk A20
 clear A20
 by_cases c3 : t385 = true
 rotate_left
 ·replace c3 := Bool.eq_false_iff.mpr c3
  subst c3
  have H1 : (some (-1)) = some r := by rw [if_neg (show ¬ (false = true) by decide)] at H; exact H
  clear H
  have H := H1
  clear H1
  obtain rfl := Option.some.inj H
  go_enter Try.func85, Try.ntmps85
  go_wp2_with (first | ((with_reducible refine gd_ (N := 1) rfl ?_); refine by_ 1 (cs := #[.int .i64 a0_0, .int .i64 a0_1, .int .i64 a0_2, .int .i64 a0_3, .int .i64 a0_4, .int .i64 a0_5, .int .i64 a0_6, .slice A0_7 l0_7.length c0_7]) (t := 60) ?_; intro gb384 hg w8 hbox hb; have n0_ := A_.mk (bt_ (beY HB.out) hb); have n1_ := A_.mk (hbox); have n2_ := A_.mk ((by rw [hg]; exact (bz_ (beY HB.out)) : w.heap.size ≤ gb384)); have n3_ := A_.mk ((by rw [hg]; exact (bz_ (beY HB.out)) : w.heap.size ≤ gb384)); clear HB; have HB := n0_; have BK384 := n1_; have GW384 := n2_; have GE384 := n3_; clear n0_ n1_ n2_ n3_ hb hbox hg; have hcz9_0 : w8.cell? ⟨gb384, 0, none⟩ = some (.int .i64 a0_0) := (bc_ BK384.out 0).trans rfl; have hcz9_1 : w8.cell? ⟨gb384, 1, none⟩ = some (.int .i64 a0_1) := (bc_ BK384.out 1).trans rfl; have hcz9_2 : w8.cell? ⟨gb384, 2, none⟩ = some (.int .i64 a0_2) := (bc_ BK384.out 2).trans rfl; have hcz9_3 : w8.cell? ⟨gb384, 3, none⟩ = some (.int .i64 a0_3) := (bc_ BK384.out 3).trans rfl; have hcz9_4 : w8.cell? ⟨gb384, 4, none⟩ = some (.int .i64 a0_4) := (bc_ BK384.out 4).trans rfl; have hcz9_5 : w8.cell? ⟨gb384, 5, none⟩ = some (.int .i64 a0_5) := (bc_ BK384.out 5).trans rfl; have hcz9_6 : w8.cell? ⟨gb384, 6, none⟩ = some (.int .i64 a0_6) := (bc_ BK384.out 6).trans rfl; have hcz9_7 : w8.cell? ⟨gb384, 7, none⟩ = some (.slice A0_7 l0_7.length c0_7) := (bc_ BK384.out 7).trans rfl; have hfz9_0 := bf_ BK384.out 0; have hfz9_1 := bf_ BK384.out 1; have hfz9_2 := bf_ BK384.out 2; have hfz9_3 := bf_ BK384.out 3; have hfz9_4 := bf_ BK384.out 4; have hfz9_5 := bf_ BK384.out 5; have hfz9_6 := bf_ BK384.out 6; have hfz9_7 := bf_ BK384.out 7) | ((with_reducible refine gc_ (f := 65) rfl ?_); refine gl_ (some 4) Try.func65 #[.agg #[.int .i64 a0_0, .int .i64 a0_1, .int .i64 a0_2, .int .i64 a0_3, .int .i64 a0_4, .int .i64 a0_5, .int .i64 a0_6, .slice A0_7 l0_7.length c0_7]] ?_; (with_reducible refine (impl_IsPacket.calls k a0_0 a0_1 a0_2 a0_3 a0_4 a0_5 a0_6 _ _ l0_7 false _ ?side1 ?side2 A2.out).mono ?_); (case side1 => exact cY ((Kd.C_below HR0_7.out HB.out))); (case side2 => exact HC0_7.out); rintro e w10 ⟨rfl, hb⟩; refine ⟨_, rfl, ?_⟩; have n0_ := A_.mk (bb_ (bY BK384.out) hb); have n1_ := A_.mk (bt_ (by repeat (first | (with_reducible first | exact HB.out | apply ba_ | apply bd_ | apply be_ | refine bs_ ?_ GE384.out) | exact HB.out)) hb); clear BK384 HB; have BK384 := n0_; have HB := n1_; clear n0_ n1_; (try clear hb); (try clear hb2); (try clear hk); (try clear hi)))
  go_ret
  exact ⟨by first | rfl | (simp [errW_none, errW_some] <;> rfl) | (simp [*, errW_none, errW_some] <;> rfl), by repeat (first | (with_reducible first | exact HB.out | apply ba_ | apply bd_ | apply be_ | refine bs_ ?_ GE384.out) | exact HB.out)⟩
 subst c3
 have H1 : (some (wrap64 (Int.tdiv (wrap64 ((l0_7.length : Int) + 3)) 4))) = some r := by rw [if_pos rfl] at H; exact H
 clear H
 have H := H1
 clear H1
 obtain rfl := Option.some.inj H
 go_enter Try.func85, Try.ntmps85
 go_wp2_with (first | ((with_reducible refine gd_ (N := 1) rfl ?_); refine by_ 1 (cs := #[.int .i64 a0_0, .int .i64 a0_1, .int .i64 a0_2, .int .i64 a0_3, .int .i64 a0_4, .int .i64 a0_5, .int .i64 a0_6, .slice A0_7 l0_7.length c0_7]) (t := 60) ?_; intro gb384 hg w4 hbox hb; have n0_ := A_.mk (bt_ (beY HB.out) hb); have n1_ := A_.mk (hbox); have n2_ := A_.mk ((by rw [hg]; exact (bz_ (beY HB.out)) : w.heap.size ≤ gb384)); have n3_ := A_.mk ((by rw [hg]; exact (bz_ (beY HB.out)) : w.heap.size ≤ gb384)); clear HB; have HB := n0_; have BK384 := n1_; have GW384 := n2_; have GE384 := n3_; clear n0_ n1_ n2_ n3_ hb hbox hg; have hcz5_0 : w4.cell? ⟨gb384, 0, none⟩ = some (.int .i64 a0_0) := (bc_ BK384.out 0).trans rfl; have hcz5_1 : w4.cell? ⟨gb384, 1, none⟩ = some (.int .i64 a0_1) := (bc_ BK384.out 1).trans rfl; have hcz5_2 : w4.cell? ⟨gb384, 2, none⟩ = some (.int .i64 a0_2) := (bc_ BK384.out 2).trans rfl; have hcz5_3 : w4.cell? ⟨gb384, 3, none⟩ = some (.int .i64 a0_3) := (bc_ BK384.out 3).trans rfl; have hcz5_4 : w4.cell? ⟨gb384, 4, none⟩ = some (.int .i64 a0_4) := (bc_ BK384.out 4).trans rfl; have hcz5_5 : w4.cell? ⟨gb384, 5, none⟩ = some (.int .i64 a0_5) := (bc_ BK384.out 5).trans rfl; have hcz5_6 : w4.cell? ⟨gb384, 6, none⟩ = some (.int .i64 a0_6) := (bc_ BK384.out 6).trans rfl; have hcz5_7 : w4.cell? ⟨gb384, 7, none⟩ = some (.slice A0_7 l0_7.length c0_7) := (bc_ BK384.out 7).trans rfl; have hfz5_0 := bf_ BK384.out 0; have hfz5_1 := bf_ BK384.out 1; have hfz5_2 := bf_ BK384.out 2; have hfz5_3 := bf_ BK384.out 3; have hfz5_4 := bf_ BK384.out 4; have hfz5_5 := bf_ BK384.out 5; have hfz5_6 := bf_ BK384.out 6; have hfz5_7 := bf_ BK384.out 7) | ((with_reducible refine gc_ (f := 65) rfl ?_); refine gl_ (some 4) Try.func65 #[.agg #[.int .i64 a0_0, .int .i64 a0_1, .int .i64 a0_2, .int .i64 a0_3, .int .i64 a0_4, .int .i64 a0_5, .int .i64 a0_6, .slice A0_7 l0_7.length c0_7]] ?_; (with_reducible refine (impl_IsPacket.calls k a0_0 a0_1 a0_2 a0_3 a0_4 a0_5 a0_6 _ _ l0_7 true _ ?side1 ?side2 A2.out).mono ?_); (case side1 => exact cY ((Kd.C_below HR0_7.out HB.out))); (case side2 => exact HC0_7.out); rintro e w6 ⟨rfl, hb⟩; refine ⟨_, rfl, ?_⟩; have n0_ := A_.mk (bb_ (bY BK384.out) hb); have n1_ := A_.mk (bt_ (by repeat (first | (with_reducible first | exact HB.out | apply ba_ | apply bd_ | apply be_ | refine bs_ ?_ GE384.out) | exact HB.out)) hb); clear BK384 HB; have BK384 := n0_; have HB := n1_; clear n0_ n1_; (try clear hb); (try clear hb2); (try clear hk); (try clear hi); have hcz7_0 : w6.cell? ⟨gb384, 0, none⟩ = some (.int .i64 a0_0) := (bc_ BK384.out 0).trans rfl; have hcz7_1 : w6.cell? ⟨gb384, 1, none⟩ = some (.int .i64 a0_1) := (bc_ BK384.out 1).trans rfl; have hcz7_2 : w6.cell? ⟨gb384, 2, none⟩ = some (.int .i64 a0_2) := (bc_ BK384.out 2).trans rfl; have hcz7_3 : w6.cell? ⟨gb384, 3, none⟩ = some (.int .i64 a0_3) := (bc_ BK384.out 3).trans rfl; have hcz7_4 : w6.cell? ⟨gb384, 4, none⟩ = some (.int .i64 a0_4) := (bc_ BK384.out 4).trans rfl; have hcz7_5 : w6.cell? ⟨gb384, 5, none⟩ = some (.int .i64 a0_5) := (bc_ BK384.out 5).trans rfl; have hcz7_6 : w6.cell? ⟨gb384, 6, none⟩ = some (.int .i64 a0_6) := (bc_ BK384.out 6).trans rfl; have hcz7_7 : w6.cell? ⟨gb384, 7, none⟩ = some (.slice A0_7 l0_7.length c0_7) := (bc_ BK384.out 7).trans rfl; have hfz7_0 := bf_ BK384.out 0; have hfz7_1 := bf_ BK384.out 1; have hfz7_2 := bf_ BK384.out 2; have hfz7_3 := bf_ BK384.out 3; have hfz7_4 := bf_ BK384.out 4; have hfz7_5 := bf_ BK384.out 5; have hfz7_6 := bf_ BK384.out 6; have hfz7_7 := bf_ BK384.out 7))
 go_ret
 exact ⟨by first | rfl | (simp [errW_none, errW_some] <;> rfl) | (simp [*, errW_none, errW_some] <;> rfl), by repeat (first | (with_reducible first | exact HB.out | apply ba_ | apply bd_ | apply be_ | refine bs_ ?_ GE384.out) | exact HB.out)⟩
end Go.Proofs.Ytbdehpmfemgooaa.PFnQueues
