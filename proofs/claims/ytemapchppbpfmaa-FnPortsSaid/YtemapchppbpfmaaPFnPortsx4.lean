-- Written by a program of this session (wip/xp): not trusted, Lean checks it.
import Derived.Test.YtemapchppbpfmaaPFnPortsx0
import Derived.Test.YtemapchppbpfmaaPFnPortsx3
namespace Go.Proofs.Ytemapchppbpfmaa.PFnPorts
open Go.RowKit Go.Proofs.YtemapchppbpfmaaW.PrintWords Go.Proofs.YtemapchppbpfmaaW.PrintLast Go.Proofs.YtemapchppbpfmaaW.PrintMore
attribute [local go_sem] max2_int min2_int max_two min_two max_three min_three max_four min_four   -- for this text's walks alone
set_option linter.unusedVariables false
set_option linter.unusedSimpArgs false

/-! ### spec_PortRun: function 58 -/
def spec_PortRun.l0 : Nat → List Int → Int → Int → Int → Int → Int → Int → Int → Option (Int × Int × Int × Int × Int)
 | 0, _, _, _, _, _, _, _, _ => none
 | k + 1, x1, x2, x8, x9, x137000, x137001, x137002, x137003 => if x9 < (x1.length : Int) then (if 0 ≤ x9 then ((spec_PortStep.f k x137000 x137001 x137002 x137003 (rd x1 x9) x2).bind fun bt139 => (if bt139.2.2.2.2 = true then (spec_PortRun.l0 k x1 x2 (wrap64 (x8 + 1)) (wrap64 (x9 + 1)) bt139.1 bt139.2.1 bt139.2.2.1 bt139.2.2.2.1) else (spec_PortRun.l0 k x1 x2 x8 (wrap64 (x9 + 1)) bt139.1 bt139.2.1 bt139.2.2.1 bt139.2.2.2.1))) else (none)) else (some (x137000, x137001, x137002, x137003, x8))
def spec_PortRun.f (k : Nat) (a0_0 : Int) (a0_1 : Int) (a0_2 : Int) (a0_3 : Int) (l1 : List Int) (a2 : Int) : Option (Int × Int × Int × Int × Int) := spec_PortRun.l0 k l1 a2 0 0 a0_0 a0_1 a0_2 a0_3
theorem spec_PortRun.mono_l : ∀ k, (∀ y0 y1 y2 y3 y4 y5 y6 y7, LeO (spec_PortRun.l0 k y0 y1 y2 y3 y4 y5 y6 y7) (spec_PortRun.l0 (k + 1) y0 y1 y2 y3 y4 y5 y6 y7))
 | 0 => fun _ _ _ _ _ _ _ _ r h => by simp [spec_PortRun.l0] at h
 | k + 1 => by
  have ih0 := spec_PortRun.mono_l k
  ·intro y0 y1 y2 y3 y4 y5 y6 y7
   unfold spec_PortRun.l0
   repeat' first
   | (with_reducible exact ih0 _ _ _ _ _ _ _ _)
   | (with_reducible exact spec_PortStep.mono _ _ _ _ _ _ _)
   | (with_reducible exact LeO.refl _)
   | (with_reducible exact LeO.none _)
   | (with_reducible refine LeO.ite ?_ ?_)
   | (with_reducible refine LeO.bind ?_ (fun _ => ?_))
   | exact ih0 _ _ _ _ _ _ _ _
   | exact spec_PortStep.mono _ _ _ _ _ _ _
   | exact LeO.none _
   | refine LeO.ite ?_ ?_
   | refine LeO.bind ?_ (fun _ => ?_)
theorem spec_PortRun.mono : ∀ a0 a1 a2 a3 a4 a5 k, LeO (spec_PortRun.f k a0 a1 a2 a3 a4 a5) (spec_PortRun.f (k + 1) a0 a1 a2 a3 a4 a5) := by
 intro a0 a1 a2 a3 a4 a5 k
 have ih0 := spec_PortRun.mono_l k
 unfold spec_PortRun.f
 repeat' first
   | (with_reducible exact ih0 _ _ _ _ _ _ _ _)
   | (with_reducible exact spec_PortStep.mono _ _ _ _ _ _ _)
   | (with_reducible exact LeO.refl _)
   | (with_reducible exact LeO.none _)
   | (with_reducible refine LeO.ite ?_ ?_)
   | (with_reducible refine LeO.bind ?_ (fun _ => ?_))
   | exact ih0 _ _ _ _ _ _ _ _
   | exact spec_PortStep.mono _ _ _ _ _ _ _
   | exact LeO.none _
   | refine LeO.ite ?_ ?_
   | refine LeO.bind ?_ (fun _ => ?_)
def spec_PortRun.T5 : Bool × List (List Nat × List Nat) := (true, [([], []), ([], []), ([], []), ([1, 2], [1, 2]), ([3], [3]), ([], []), ([0, 4, 5], [0, 4, 5]), ([6], [6]), ([7], [7]), ([7], [7]), ([], []), ([10, 8, 6, 0, 1, 2, 3, 4, 5, 6, 7, 8, 10], [8, 10]), ([9, 11, 0, 1, 2, 3, 4, 5, 6, 7, 8, 9, 10, 11], [9])])
def spec_PortRun.B5 : List Nat := [0, 0, 0, 6, 14, 0, 63, 127, 255, 255, 0, 1535, 4095]
theorem spec_PortRun.tab5 : rtab .any (opsOf Try.f58 5) = spec_PortRun.T5 := by kernel_rfl
theorem spec_PortRun.bits5 : waitsOk spec_PortRun.T5.2 spec_PortRun.B5 = true := by kernel_rfl
set_option maxHeartbeats 8000000 in
set_option maxRecDepth 100000 in
theorem spec_PortRun.calls (k : Nat) (a0_0 : Int) (a0_1 : Int) (a0_2 : Int) (a0_3 : Int) (A1 : Option Addr) (c1 : Nat) (l1 : List Int) (a2 : Int) (r1 : Int) (r2 : Int) (r3 : Int) (r4 : Int) (r5 : Int) (w : World) (hr1 : Kd.C (Kd.int .i64) w A1 l1.length l1) (hc1 : l1.length ≤ c1) (h : spec_PortRun.f k a0_0 a0_1 a0_2 a0_3 l1 a2 = some (r1, r2, r3, r4, r5)) :
  Calls Try.prog 58 #[.agg #[.int .i64 a0_0, .int .i64 a0_1, .int .i64 a0_2, .int .i64 a0_3], .slice A1 l1.length c1, .int .i64 a2] w fun e w' => e = .returned (.tuple #[.agg #[.int .i64 r1, .int .i64 r2, .int .i64 r3, .int .i64 r4], .int .i64 r5]) ∧ Below w.heap.size w w' := by
 have hu46 := Try.underlying46
 have HR1 := Aside0.mk hr1
 have HC1 := Aside0.mk hc1
 clear hr1 hc1
 have HB := Aside0.mk (Below.refl w.heap.size w)
 have H : (spec_PortRun.l0 k l1 a2 0 0 a0_0 a0_1 a0_2 a0_3) = some (r1, r2, r3, r4, r5) := h
 clear h
 have H' := Aside0.mk H
 clear H
 go_enter Try.func58, Try.ntmps58
 go_wp2_with (first | ((with_reducible refine gate_dst (N := 3) rfl ?_); refine box_event ?hg (N := 3) ?hd (cs := #[.int .i64 a0_0, .int .i64 a0_1, .int .i64 a0_2, .int .i64 a0_3]) (t := 46) ?hr ?_; (case hd => rfl); (case hg => rfl); (case hr => first | (go_simp; done) | (go_simp; rfl)); intro gb136 hg w4 hbox hb; have n0_ := Aside0.mk (below_step (by repeat (first | (with_reducible first | exact HB.out | apply below_alloc | apply pw_below_drewN | apply below_drew1) | exact HB.out)) hb); have n1_ := Aside0.mk (hbox); have n2_ := Aside0.mk ((by rw [hg]; exact (below_size (by repeat (first | (with_reducible first | exact HB.out | apply below_alloc | apply pw_below_drewN | apply below_drew1) | exact HB.out))) : w.heap.size ≤ gb136)); have n3_ := Aside0.mk ((by rw [hg]; exact (below_size (by repeat (first | (with_reducible first | exact HB.out | apply below_alloc | apply pw_below_drewN | apply below_drew1) | exact HB.out))) : w.heap.size ≤ gb136)); clear HB; have HB := n0_; have BK136 := n1_; have GW136 := n2_; have GE136 := n3_; clear n0_ n1_ n2_ n3_; clear hb hbox hg) | ((with_reducible refine gate_dst (N := 6) rfl ?_); refine box_event ?hg (N := 6) ?hd (cs := #[.int .i64 0, .int .i64 0, .int .i64 0, .int .i64 0]) (t := 46) ?hr ?_; (case hd => rfl); (case hg => rfl); (case hr => first | (go_simp; done) | (go_simp; rfl)); intro gb137 hg w5 hbox hb; have n0_ := Aside0.mk (blk_below (bY BK136.out) hb); have n1_ := Aside0.mk (below_step (by repeat (first | (with_reducible first | exact HB.out | apply below_alloc | apply pw_below_drewN | apply below_drew1 | refine below_set ?_ GE136.out) | exact HB.out)) hb); have n2_ := Aside0.mk (hbox); have n3_ := Aside0.mk ((by rw [hg]; exact (below_size (by repeat (first | (with_reducible first | exact HB.out | apply below_alloc | apply pw_below_drewN | apply below_drew1 | refine below_set ?_ GE136.out) | exact HB.out))) : w.heap.size ≤ gb137)); have n4_ := Aside0.mk ((by rw [hg]; exact (below_size (by repeat (first | (with_reducible first | exact HB.out | apply below_alloc | apply pw_below_drewN | apply below_drew1 | refine below_set ?_ GE136.out) | exact HB.out))) : w.heap.size ≤ gb137)); have n5_ := Aside0.mk ((by rw [hg]; exact Nat.ne_of_lt (blk_lt (bY BK136.out)) : gb136 ≠ gb137)); have n6_ := Aside0.mk ((by rw [hg]; exact Nat.ne_of_gt (blk_lt (bY BK136.out)) : gb137 ≠ gb136)); clear BK136; clear HB; have BK136 := n0_; have HB := n1_; have BK137 := n2_; have GW137 := n3_; have GE137 := n4_; have NB136_137 := n5_; have NB137_136 := n6_; clear n0_ n1_ n2_ n3_ n4_ n5_ n6_; clear hb hbox hg))
 go_loopg [8, 9] k (fun kq v8 v9 w' => ∃ (x8_1 : Int) (x9_1 : Int) (x137000_1 : Int) (x137001_1 : Int) (x137002_1 : Int) (x137003_1 : Int), v8 = .int .i64 x8_1 ∧ v9 = .int .i64 x9_1 ∧ Aside0 (spec_PortRun.l0 kq l1 a2 x8_1 x9_1 x137000_1 x137001_1 x137002_1 x137003_1 = some (r1, r2, r3, r4, r5)) ∧ Aside0 (kq ≤ k) ∧ Aside0 (w'.heap[gb136]? = some (.cells #[.int .i64 x137000_1, .int .i64 x137001_1, .int .i64 x137002_1, .int .i64 x137003_1] 46 (0, 0))) ∧ Aside0 (w'.heap[gb137]? = some (.cells #[.int .i64 0, .int .i64 0, .int .i64 0, .int .i64 0] 46 (0, 0))) ∧ Aside0 (Below w.heap.size w w'))
 case atStart => exact ⟨(0), (0), (a0_0), (a0_1), (a0_2), (a0_3), (by first | rfl | (simp; done) | (simp [*]; done)), (by first | rfl | (simp; done) | (simp [*]; done)), H', ⟨Nat.le_refl _⟩, ⟨by (repeat apply bX); exact BK136.out⟩, ⟨by (repeat apply bX); exact BK137.out⟩, ⟨by repeat (first | (with_reducible first | exact HB.out | apply below_alloc | apply pw_below_drewN | apply below_drew1 | refine below_set ?_ GE136.out | refine below_set ?_ GE137.out) | exact HB.out)⟩⟩
 case round =>
  clear H'
  obtain ⟨x8_1, x9_1, x137000_1, x137001_1, x137002_1, x137003_1, rfl, rfl, HA, HK1, BK136, BK137, HB⟩ := hrel
  cases gk with
  | zero => exact absurd HA.out (by simp [spec_PortRun.l0])
  | succ k1 =>
   have H := HA.out
   clear HA
   simp only [spec_PortRun.l0] at H
   by_cases c6 : x9_1 < (l1.length : Int)
   ·rw [if_pos c6] at H
    have c6b0 : decide (x9_1 < (l1.length : Int)) = true := decide_eq_true c6
    clear c6
    by_cases c7 : 0 ≤ x9_1
    ·rw [if_pos c7] at H
     have c7b0 : decide (0 ≤ x9_1) = true := decide_eq_true c7
     clear c7
     replace H := Option.bind_eq_some_iff.mp H
     obtain ⟨⟨t139, t140, t141, t142, t143⟩, A80, H⟩ := H
     replace H : (if t143 = true then (spec_PortRun.l0 k1 l1 a2 (wrap64 (x8_1 + 1)) (wrap64 (x9_1 + 1)) t139 t140 t141 t142) else (spec_PortRun.l0 k1 l1 a2 x8_1 (wrap64 (x9_1 + 1)) t139 t140 t141 t142)) = some (r1, r2, r3, r4, r5) := H
     have A8 := Aside0.mk A80
     clear A80
     by_cases c9 : t143 = true
     ·subst c9
      have H1 : (spec_PortRun.l0 k1 l1 a2 (wrap64 (x8_1 + 1)) (wrap64 (x9_1 + 1)) t139 t140 t141 t142) = some (r1, r2, r3, r4, r5) := by rw [if_pos rfl] at H; exact H
      clear H
      have H := H1
      clear H1
      have H' := Aside0.mk H
      clear H
      try go_wp2
      have n0_ := Aside0.mk (blk_drew BK136.out)
      have n1_ := Aside0.mk (blk_drew BK137.out)
      have n2_ := Aside0.mk (below_drew1 HB.out)
      clear BK136
      clear BK137
      clear HB
      have BK136 := n0_
      have BK137 := n1_
      have HB := n2_
      clear n0_ n1_ n2_
      have p138 : 0 ≤ (x9_1 : Int) := of_decide_eq_true (by first | (with_reducible assumption) | assumption)
      have q138 : x9_1 < (l1.length : Int) := of_decide_eq_true (by first | (with_reducible assumption) | assumption)
      obtain ⟨ad138, e138, hx138_0⟩ := Kd.at_int HR1.out x9_1 p138 q138
      have hw138_0 := hx138_0
      cases e138
      replace hx138_0 := (HB.out.cell (World.block_lt_of_cell? w _ hx138_0)).trans hx138_0
      replace p138 := eq_true p138
      replace q138 := eq_true q138
      refine start_ (n := 13) (S := fun w' => w'.cell? ⟨gb136, 0, none⟩ = some (.int .i64 x137000_1) ∧ w'.cell? ⟨gb136, 1, none⟩ = some (.int .i64 x137001_1) ∧ w'.cell? ⟨gb136, 2, none⟩ = some (.int .i64 x137002_1) ∧ w'.cell? ⟨gb136, 3, none⟩ = some (.int .i64 x137003_1) ∧ w'.cell? (ad138.add (x9_1).toNat) = some (.int .i64 (rd l1 x9_1))) (ds := []) #[F, F, F, F, F, F, F, F, F, F, F, F, F] (by kernel_rfl) rfl rfl ⟨(blk_cell BK136.out 0).trans rfl, (blk_cell BK136.out 1).trans rfl, (blk_cell BK136.out 2).trans rfl, (blk_cell BK136.out 3).trans rfl, ((HB.out.cell (World.block_lt_of_cell? w _ hw138_0)).trans hw138_0)⟩ (fun hHeld => ?_); refine with_tabW spec_PortRun.tab5 spec_PortRun.bits5 (fun HT_ HW_ => ?_)
      generalize wr.drew = w10 at BK136 BK137 HB hx138_0 hHeld ⊢
      refine pure_ (i := 1) (N := some 20) (v := ?_) (a' := ?_) #[F, T, F, F, F, F, F, F, F, F, F, F, F] rfl rfl (any_of HT_.out (by kernel_rfl)) (fun _ _ _ h => h) (Or.inl ⟨by rfl, ?_⟩) ?_ ?_
      rotate_left
      ·intro w'
       go_simp
       with_reducible rfl
      rotate_left
      ·simp only [pS]
       rfl
      refine pure_ (i := 2) (N := some 21) (v := ?_) (a' := ?_) #[F, T, T, F, F, F, F, F, F, F, F, F, F] rfl rfl (any_of HT_.out (by kernel_rfl)) (fun _ _ _ h => h) (Or.inl ⟨by rfl, ?_⟩) ?_ ?_
      rotate_left
      ·intro w'
       go_simp
       with_reducible rfl
      rotate_left
      ·simp only [pS]
       rfl
      refine pure_ (i := 3) (N := some 22) (v := ?_) (a' := ?_) #[F, T, T, T, F, F, F, F, F, F, F, F, F] rfl rfl (any_of HT_.out (by kernel_rfl)) (fun _ _ _ h => h) (Or.inl ⟨by rfl, ?_⟩) ?_ ?_
      rotate_left
      ·intro w'
       go_simp
       with_reducible rfl
      rotate_left
      ·simp only [pS]
       rfl
      refine pure_ (i := 5) (N := some 24) (v := ?_) (a' := ?_) #[F, T, T, T, F, T, F, F, F, F, F, F, F] rfl rfl (any_of HT_.out (by kernel_rfl)) (fun _ _ _ h => h) (Or.inl ⟨by rfl, ?_⟩) ?_ ?_
      rotate_left
      ·intro w'
       go_simp
       with_reducible rfl
      rotate_left
      ·simp only [pS]
       rfl
      refine take_ (i := 0) (N := some 19) (v := ?_) (a' := ?_) #[T, T, T, T, F, T, F, F, F, F, F, F, F] rfl rfl (take_ofW HT_.out HW_.out (by kernel_rfl)) (fun _ _ _ h => h) (Or.inl ⟨by rfl, ?_⟩) hHeld ?_ ?_
      rotate_left
      ·rintro w' ⟨s0, s1, s2, s3, s4⟩
       go_simp
       with_reducible rfl
      rotate_left
      ·simp only [pS]
       rfl
      refine take_ (i := 4) (N := some 23) (v := ?_) (a' := ?_) #[T, T, T, T, T, T, F, F, F, F, F, F, F] rfl rfl (take_ofW HT_.out HW_.out (by kernel_rfl)) (fun _ _ _ h => h) (Or.inl ⟨by rfl, ?_⟩) hHeld ?_ ?_
      rotate_left
      ·rintro w' ⟨s0, s1, s2, s3, s4⟩
       go_simp
       with_reducible rfl
      rotate_left
      ·simp only [pS]
       rfl
      refine join_ (σ := Nat) 2 #[T, T, T, T, T, T, T, T, T, T, T, F, F] (fun s_ => [(25, .tuple #[.agg #[.int .i64 t139, .int .i64 t140, .int .i64 t141, .int .i64 t142], .bool true]), (10, .pointer (some ⟨s_, 0, none⟩)), (18, .tuple #[.agg #[.int .i64 t139, .int .i64 t140, .int .i64 t141, .int .i64 t142], .bool true]), (26, .agg #[.int .i64 t139, .int .i64 t140, .int .i64 t141, .int .i64 t142]), (27, .bool true)]) (fun s_ w' => (w'.cell? ⟨gb136, 0, none⟩ = some (.int .i64 x137000_1) ∧ w'.cell? ⟨gb136, 1, none⟩ = some (.int .i64 x137001_1) ∧ w'.cell? ⟨gb136, 2, none⟩ = some (.int .i64 x137002_1) ∧ w'.cell? ⟨gb136, 3, none⟩ = some (.int .i64 x137003_1) ∧ w'.cell? (ad138.add (x9_1).toNat) = some (.int .i64 (rd l1 x9_1))) ∧ (w'.heap[gb136]? = some (.cells #[.int .i64 x137000_1, .int .i64 x137001_1, .int .i64 x137002_1, .int .i64 x137003_1] 46 (0, 0))) ∧ (w'.heap[gb137]? = some (.cells #[.int .i64 0, .int .i64 0, .int .i64 0, .int .i64 0] 46 (0, 0))) ∧ (w'.heap[s_]? = some (.cells #[.int .i64 0, .int .i64 0, .int .i64 0, .int .i64 0] 46 (0, 0))) ∧ (w.heap.size ≤ s_) ∧ (w.heap.size ≤ s_) ∧ (gb136 ≠ s_) ∧ (s_ ≠ gb136) ∧ (gb137 ≠ s_) ∧ (s_ ≠ gb137) ∧ (Below w.heap.size w w')) ?_ ?_
      rotate_left
      ·intro hCont
       refine two_ (i := 6) (j := 10) (Ni := some 25) (Nj := some 10) #[T, T, T, T, T, T, T, F, F, F, F, F, F] #[T, T, T, T, T, T, F, F, F, F, T, F, F] rfl rfl rfl rfl (two_of HT_.out (by kernel_rfl)) (by decide) (by decide) (fun K hK => ?_) (fun K hK => ?_)
       ·skip
        refine goes_ Try.func66 (by kernel_rfl) rfl #[.agg #[.int .i64 x137000_1, .int .i64 x137001_1, .int .i64 x137002_1, .int .i64 x137003_1], .int .i64 (rd l1 x9_1), .int .i64 a2] (by rfl) rfl rfl (by (try simp only [List.map_toArray, List.map_cons, List.map_nil]); first | done | rfl) ?_
        with_reducible refine (spec_PortStep.calls k1 x137000_1 x137001_1 x137002_1 x137003_1 (rd l1 x9_1) a2 t139 t140 t141 t142 true _ A8.out).mono ?_
        rintro e w11 ⟨rfl, hb⟩
        refine ⟨_, rfl, ?_⟩
        have n0_ := Aside0.mk (blk_below (bY BK136.out) hb)
        have n1_ := Aside0.mk (blk_below (bY BK137.out) hb)
        have n2_ := Aside0.mk (below_step (by repeat (first | (with_reducible first | exact HB.out | apply below_alloc | apply pw_below_drewN | apply below_drew1 | refine below_set ?_ GE136.out | refine below_set ?_ GE137.out) | exact HB.out)) hb)
        clear BK136
        clear BK137
        clear HB
        have BK136 := n0_
        have BK137 := n1_
        have HB := n2_
        clear n0_ n1_ n2_
        refine hK.out _ _ ⟨(blk_cell BK136.out 0).trans rfl, (blk_cell BK136.out 1).trans rfl, (blk_cell BK136.out 2).trans rfl, (blk_cell BK136.out 3).trans rfl, ((HB.out.cell (World.block_lt_of_cell? w _ hw138_0)).trans hw138_0)⟩ (fun hHeld => ?_)
        clear hK K
        refine norm_ (a' := ?_) ?_ ?_
        rotate_left
        ·show Act.put _ (some 25) _ = _
         simp only [pS]
         rfl
        refine pure_ (i := 7) (N := some 18) (v := ?_) (a' := ?_) #[T, T, T, T, T, T, T, T, F, F, F, F, F] rfl rfl (any_of HT_.out (by kernel_rfl)) (fun _ _ _ h => h) (Or.inl ⟨by rfl, ?_⟩) ?_ ?_
        rotate_left
        ·intro w'
         go_simp
         with_reducible rfl
        rotate_left
        ·simp only [pS]
         rfl
        refine pure_ (i := 8) (N := some 26) (v := ?_) (a' := ?_) #[T, T, T, T, T, T, T, T, T, F, F, F, F] rfl rfl (any_of HT_.out (by kernel_rfl)) (fun _ _ _ h => h) (Or.inl ⟨by rfl, ?_⟩) ?_ ?_
        rotate_left
        ·intro w'
         go_simp
         with_reducible rfl
        rotate_left
        ·simp only [pS]
         rfl
        refine pure_ (i := 9) (N := some 27) (v := ?_) (a' := ?_) #[T, T, T, T, T, T, T, T, T, T, F, F, F] rfl rfl (any_of HT_.out (by kernel_rfl)) (fun _ _ _ h => h) (Or.inl ⟨by rfl, ?_⟩) ?_ ?_
        rotate_left
        ·intro w'
         go_simp
         with_reducible rfl
        rotate_left
        ·simp only [pS]
         rfl
        refine one_ (i := 10) (N := some 10) #[T, T, T, T, T, T, T, T, T, T, T, F, F] rfl rfl (one_of HT_.out (by kernel_rfl)) (by decide) (fun K hK => ?_)
        refine box_step ?hg (N := 10) ?hd (cs := #[.int .i64 0, .int .i64 0, .int .i64 0, .int .i64 0]) (t := 46) ?hr ?_; (case hd => rfl); (case hg => rfl); (case hr => first | (go_simp; done) | (go_simp; rfl))
        intro gb144 hg w12 hbox hb
        have n0_ := Aside0.mk (blk_below (bY BK136.out) hb)
        have n1_ := Aside0.mk (blk_below (bY BK137.out) hb)
        have n2_ := Aside0.mk (below_step (by repeat (first | (with_reducible first | exact HB.out | apply below_alloc | apply pw_below_drewN | apply below_drew1 | refine below_set ?_ GE136.out | refine below_set ?_ GE137.out) | exact HB.out)) hb)
        have n3_ := Aside0.mk (hbox)
        have n4_ := Aside0.mk ((by rw [hg]; exact (below_size (by repeat (first | (with_reducible first | exact HB.out | apply below_alloc | apply pw_below_drewN | apply below_drew1 | refine below_set ?_ GE136.out | refine below_set ?_ GE137.out) | exact HB.out))) : w.heap.size ≤ gb144))
        have n5_ := Aside0.mk ((by rw [hg]; exact (below_size (by repeat (first | (with_reducible first | exact HB.out | apply below_alloc | apply pw_below_drewN | apply below_drew1 | refine below_set ?_ GE136.out | refine below_set ?_ GE137.out) | exact HB.out))) : w.heap.size ≤ gb144))
        have n6_ := Aside0.mk ((by rw [hg]; exact Nat.ne_of_lt (blk_lt (bY BK136.out)) : gb136 ≠ gb144))
        have n7_ := Aside0.mk ((by rw [hg]; exact Nat.ne_of_gt (blk_lt (bY BK136.out)) : gb144 ≠ gb136))
        have n8_ := Aside0.mk ((by rw [hg]; exact Nat.ne_of_lt (blk_lt (bY BK137.out)) : gb137 ≠ gb144))
        have n9_ := Aside0.mk ((by rw [hg]; exact Nat.ne_of_gt (blk_lt (bY BK137.out)) : gb144 ≠ gb137))
        clear BK136
        clear BK137
        clear HB
        have BK136 := n0_
        have BK137 := n1_
        have HB := n2_
        have BK144 := n3_
        have GW144 := n4_
        have GE144 := n5_
        have NB136_144 := n6_
        have NB144_136 := n7_
        have NB137_144 := n8_
        have NB144_137 := n9_
        clear n0_ n1_ n2_ n3_ n4_ n5_ n6_ n7_ n8_ n9_
        clear hb hbox hg
        refine hK.out _ _ ⟨(blk_cell BK136.out 0).trans rfl, (blk_cell BK136.out 1).trans rfl, (blk_cell BK136.out 2).trans rfl, (blk_cell BK136.out 3).trans rfl, ((HB.out.cell (World.block_lt_of_cell? w _ hw138_0)).trans hw138_0)⟩ (fun hHeld => ?_)
        clear hK K
        refine norm_ (a' := ?_) ?_ ?_
        rotate_left
        ·show Act.put _ (some 10) _ = _
         simp only [pS]
         rfl
        exact norm_ (by simp only [putAll, Act.put, List.setIfInBounds_toArray, List.set_cons_zero, List.set_cons_succ]) (hCont (gb144) _ ⟨hHeld, (bY BK136.out), (bY BK137.out), (bY BK144.out), GW144.out, GE144.out, NB136_144.out, NB144_136.out, NB137_144.out, NB144_137.out, (by repeat (first | (with_reducible first | exact HB.out | apply below_alloc | apply pw_below_drewN | apply below_drew1 | refine below_set ?_ GE136.out | refine below_set ?_ GE137.out | refine below_set ?_ GE144.out) | exact HB.out))⟩)
       ·skip
        refine box_step ?hg (N := 10) ?hd (cs := #[.int .i64 0, .int .i64 0, .int .i64 0, .int .i64 0]) (t := 46) ?hr ?_; (case hd => rfl); (case hg => rfl); (case hr => first | (go_simp; done) | (go_simp; rfl))
        intro gb144 hg w11 hbox hb
        have n0_ := Aside0.mk (blk_below (bY BK136.out) hb)
        have n1_ := Aside0.mk (blk_below (bY BK137.out) hb)
        have n2_ := Aside0.mk (below_step (by repeat (first | (with_reducible first | exact HB.out | apply below_alloc | apply pw_below_drewN | apply below_drew1 | refine below_set ?_ GE136.out | refine below_set ?_ GE137.out) | exact HB.out)) hb)
        have n3_ := Aside0.mk (hbox)
        have n4_ := Aside0.mk ((by rw [hg]; exact (below_size (by repeat (first | (with_reducible first | exact HB.out | apply below_alloc | apply pw_below_drewN | apply below_drew1 | refine below_set ?_ GE136.out | refine below_set ?_ GE137.out) | exact HB.out))) : w.heap.size ≤ gb144))
        have n5_ := Aside0.mk ((by rw [hg]; exact (below_size (by repeat (first | (with_reducible first | exact HB.out | apply below_alloc | apply pw_below_drewN | apply below_drew1 | refine below_set ?_ GE136.out | refine below_set ?_ GE137.out) | exact HB.out))) : w.heap.size ≤ gb144))
        have n6_ := Aside0.mk ((by rw [hg]; exact Nat.ne_of_lt (blk_lt (bY BK136.out)) : gb136 ≠ gb144))
        have n7_ := Aside0.mk ((by rw [hg]; exact Nat.ne_of_gt (blk_lt (bY BK136.out)) : gb144 ≠ gb136))
        have n8_ := Aside0.mk ((by rw [hg]; exact Nat.ne_of_lt (blk_lt (bY BK137.out)) : gb137 ≠ gb144))
        have n9_ := Aside0.mk ((by rw [hg]; exact Nat.ne_of_gt (blk_lt (bY BK137.out)) : gb144 ≠ gb137))
        clear BK136
        clear BK137
        clear HB
        have BK136 := n0_
        have BK137 := n1_
        have HB := n2_
        have BK144 := n3_
        have GW144 := n4_
        have GE144 := n5_
        have NB136_144 := n6_
        have NB144_136 := n7_
        have NB137_144 := n8_
        have NB144_137 := n9_
        clear n0_ n1_ n2_ n3_ n4_ n5_ n6_ n7_ n8_ n9_
        clear hb hbox hg
        refine hK.out _ _ ⟨(blk_cell BK136.out 0).trans rfl, (blk_cell BK136.out 1).trans rfl, (blk_cell BK136.out 2).trans rfl, (blk_cell BK136.out 3).trans rfl, ((HB.out.cell (World.block_lt_of_cell? w _ hw138_0)).trans hw138_0)⟩ (fun hHeld => ?_)
        clear hK K
        refine norm_ (a' := ?_) ?_ ?_
        rotate_left
        ·show Act.put _ (some 10) _ = _
         simp only [pS]
         rfl
        refine one_ (i := 6) (N := some 25) #[T, T, T, T, T, T, T, F, F, F, T, F, F] rfl rfl (one_of HT_.out (by kernel_rfl)) (by decide) (fun K hK => ?_)
        refine goes_ Try.func66 (by kernel_rfl) rfl #[.agg #[.int .i64 x137000_1, .int .i64 x137001_1, .int .i64 x137002_1, .int .i64 x137003_1], .int .i64 (rd l1 x9_1), .int .i64 a2] (by rfl) rfl rfl (by (try simp only [List.map_toArray, List.map_cons, List.map_nil]); first | done | rfl) ?_
        with_reducible refine (spec_PortStep.calls k1 x137000_1 x137001_1 x137002_1 x137003_1 (rd l1 x9_1) a2 t139 t140 t141 t142 true _ A8.out).mono ?_
        rintro e w12 ⟨rfl, hb⟩
        refine ⟨_, rfl, ?_⟩
        have n0_ := Aside0.mk (blk_below (bY BK136.out) hb)
        have n1_ := Aside0.mk (blk_below (bY BK137.out) hb)
        have n2_ := Aside0.mk (blk_below (bY BK144.out) hb)
        have n3_ := Aside0.mk (below_step (by repeat (first | (with_reducible first | exact HB.out | apply below_alloc | apply pw_below_drewN | apply below_drew1 | refine below_set ?_ GE136.out | refine below_set ?_ GE137.out | refine below_set ?_ GE144.out) | exact HB.out)) hb)
        clear BK136
        clear BK137
        clear BK144
        clear HB
        have BK136 := n0_
        have BK137 := n1_
        have BK144 := n2_
        have HB := n3_
        clear n0_ n1_ n2_ n3_
        refine hK.out _ _ ⟨(blk_cell BK136.out 0).trans rfl, (blk_cell BK136.out 1).trans rfl, (blk_cell BK136.out 2).trans rfl, (blk_cell BK136.out 3).trans rfl, ((HB.out.cell (World.block_lt_of_cell? w _ hw138_0)).trans hw138_0)⟩ (fun hHeld => ?_)
        clear hK K
        refine norm_ (a' := ?_) ?_ ?_
        rotate_left
        ·show Act.put _ (some 25) _ = _
         simp only [pS]
         rfl
        refine pure_ (i := 7) (N := some 18) (v := ?_) (a' := ?_) #[T, T, T, T, T, T, T, T, F, F, T, F, F] rfl rfl (any_of HT_.out (by kernel_rfl)) (fun _ _ _ h => h) (Or.inl ⟨by rfl, ?_⟩) ?_ ?_
        rotate_left
        ·intro w'
         go_simp
         with_reducible rfl
        rotate_left
        ·simp only [pS]
         rfl
        refine pure_ (i := 8) (N := some 26) (v := ?_) (a' := ?_) #[T, T, T, T, T, T, T, T, T, F, T, F, F] rfl rfl (any_of HT_.out (by kernel_rfl)) (fun _ _ _ h => h) (Or.inl ⟨by rfl, ?_⟩) ?_ ?_
        rotate_left
        ·intro w'
         go_simp
         with_reducible rfl
        rotate_left
        ·simp only [pS]
         rfl
        refine pure_ (i := 9) (N := some 27) (v := ?_) (a' := ?_) #[T, T, T, T, T, T, T, T, T, T, T, F, F] rfl rfl (any_of HT_.out (by kernel_rfl)) (fun _ _ _ h => h) (Or.inl ⟨by rfl, ?_⟩) ?_ ?_
        rotate_left
        ·intro w'
         go_simp
         with_reducible rfl
        rotate_left
        ·simp only [pS]
         rfl
        exact norm_ (by simp only [putAll, Act.put, List.setIfInBounds_toArray, List.set_cons_zero, List.set_cons_succ]) (hCont (gb144) _ ⟨hHeld, (bY BK136.out), (bY BK137.out), (bY BK144.out), GW144.out, GE144.out, NB136_144.out, NB144_136.out, NB137_144.out, NB144_137.out, (by repeat (first | (with_reducible first | exact HB.out | apply below_alloc | apply pw_below_drewN | apply below_drew1 | refine below_set ?_ GE136.out | refine below_set ?_ GE137.out | refine below_set ?_ GE144.out) | exact HB.out))⟩)
      rintro gb144 w13 ⟨hS_, h0_, h1_, h2_, h3_, h4_, h5_, h6_, h7_, h8_, h9_⟩
      have n0_ : Aside0 (w13.heap[gb136]? = some (.cells #[.int .i64 x137000_1, .int .i64 x137001_1, .int .i64 x137002_1, .int .i64 x137003_1] 46 (0, 0))) := ⟨h0_⟩
      have n1_ : Aside0 (w13.heap[gb137]? = some (.cells #[.int .i64 0, .int .i64 0, .int .i64 0, .int .i64 0] 46 (0, 0))) := ⟨h1_⟩
      have n2_ : Aside0 (w13.heap[gb144]? = some (.cells #[.int .i64 0, .int .i64 0, .int .i64 0, .int .i64 0] 46 (0, 0))) := ⟨h2_⟩
      have n3_ : Aside0 (w.heap.size ≤ gb144) := ⟨h3_⟩
      have n4_ : Aside0 (w.heap.size ≤ gb144) := ⟨h4_⟩
      have n5_ : Aside0 (gb136 ≠ gb144) := ⟨h5_⟩
      have n6_ : Aside0 (gb144 ≠ gb136) := ⟨h6_⟩
      have n7_ : Aside0 (gb137 ≠ gb144) := ⟨h7_⟩
      have n8_ : Aside0 (gb144 ≠ gb137) := ⟨h8_⟩
      have n9_ : Aside0 (Below w.heap.size w w13) := ⟨h9_⟩
      clear BK136
      clear BK137
      clear HB
      clear h0_ h1_ h2_ h3_ h4_ h5_ h6_ h7_ h8_ h9_
      have BK136 := n0_
      have BK137 := n1_
      have BK144 := n2_
      have GW144 := n3_
      have GE144 := n4_
      have NB136_144 := n5_
      have NB144_136 := n6_
      have NB137_144 := n7_
      have NB144_137 := n8_
      have HB := n9_
      clear n0_ n1_ n2_ n3_ n4_ n5_ n6_ n7_ n8_ n9_
      have hHeld : w13.cell? ⟨gb136, 0, none⟩ = some (.int .i64 x137000_1) ∧ w13.cell? ⟨gb136, 1, none⟩ = some (.int .i64 x137001_1) ∧ w13.cell? ⟨gb136, 2, none⟩ = some (.int .i64 x137002_1) ∧ w13.cell? ⟨gb136, 3, none⟩ = some (.int .i64 x137003_1) ∧ w13.cell? (ad138.add (x9_1).toNat) = some (.int .i64 (rd l1 x9_1)) := hS_
      refine norm_ (a' := ?_) ?_ ?_
      rotate_left
      ·simp only [putAll, Act.put, List.setIfInBounds_toArray, List.set_cons_zero, List.set_cons_succ]
       rfl
      refine one_ (i := 11) (N := none) #[T, T, T, T, T, T, T, T, T, T, T, T, F] rfl rfl (one_of HT_.out (by kernel_rfl)) (by decide) (fun K hK => ?_)
      have hs14 : w13.cell? ⟨gb144, 0, none⟩ = some (.int .i64 0) := (blk_cell BK144.out 0).trans rfl
      have hfs14 := blk_frozen BK144.out 0
      have hns14_0 := NB136_144.out
      have hns14_1 := NB137_144.out
      have hms14_0 := NB144_136.out
      have hms14_1 := NB144_137.out
      have hs15 : w13.cell? ⟨gb144, 1, none⟩ = some (.int .i64 0) := (blk_cell BK144.out 1).trans rfl
      have hfs15 := blk_frozen BK144.out 1
      have hns15_0 := NB136_144.out
      have hns15_1 := NB137_144.out
      have hms15_0 := NB144_136.out
      have hms15_1 := NB144_137.out
      have hs16 : w13.cell? ⟨gb144, 2, none⟩ = some (.int .i64 0) := (blk_cell BK144.out 2).trans rfl
      have hfs16 := blk_frozen BK144.out 2
      have hns16_0 := NB136_144.out
      have hns16_1 := NB137_144.out
      have hms16_0 := NB144_136.out
      have hms16_1 := NB144_137.out
      have hs17 : w13.cell? ⟨gb144, 3, none⟩ = some (.int .i64 0) := (blk_cell BK144.out 3).trans rfl
      have hfs17 := blk_frozen BK144.out 3
      have hns17_0 := NB136_144.out
      have hns17_1 := NB137_144.out
      have hms17_0 := NB144_136.out
      have hms17_1 := NB144_137.out
      refine skip_ (w1 := ?_) (by rfl) rfl ?_ ?_
      rotate_left
      ·go_simp
       rfl
      refine hK.out _ _ ⟨((cell_far (p := ⟨gb144, _, none⟩) NB136_144.out _).trans (((cell_far (p := ⟨gb144, _, none⟩) NB136_144.out _).trans (((cell_far (p := ⟨gb144, _, none⟩) NB136_144.out _).trans (((cell_far (p := ⟨gb144, _, none⟩) NB136_144.out _).trans (hHeld.1)))))))), ((cell_far (p := ⟨gb144, _, none⟩) NB136_144.out _).trans (((cell_far (p := ⟨gb144, _, none⟩) NB136_144.out _).trans (((cell_far (p := ⟨gb144, _, none⟩) NB136_144.out _).trans (((cell_far (p := ⟨gb144, _, none⟩) NB136_144.out _).trans (hHeld.2.1)))))))), ((cell_far (p := ⟨gb144, _, none⟩) NB136_144.out _).trans (((cell_far (p := ⟨gb144, _, none⟩) NB136_144.out _).trans (((cell_far (p := ⟨gb144, _, none⟩) NB136_144.out _).trans (((cell_far (p := ⟨gb144, _, none⟩) NB136_144.out _).trans (hHeld.2.2.1)))))))), ((cell_far (p := ⟨gb144, _, none⟩) NB136_144.out _).trans (((cell_far (p := ⟨gb144, _, none⟩) NB136_144.out _).trans (((cell_far (p := ⟨gb144, _, none⟩) NB136_144.out _).trans (((cell_far (p := ⟨gb144, _, none⟩) NB136_144.out _).trans (hHeld.2.2.2.1)))))))), ((cell_far (p := ⟨gb144, _, none⟩) (by have e_ := Nat.ne_of_lt (Nat.lt_of_lt_of_le (by have := World.block_lt_of_cell? _ _ hw138_0; first | rwa [add_block] at this | exact this) GW144.out); first | exact e_ | (rw [add_block]; exact e_) | (dsimp only; exact e_)) _).trans (((cell_far (p := ⟨gb144, _, none⟩) (by have e_ := Nat.ne_of_lt (Nat.lt_of_lt_of_le (by have := World.block_lt_of_cell? _ _ hw138_0; first | rwa [add_block] at this | exact this) GW144.out); first | exact e_ | (rw [add_block]; exact e_) | (dsimp only; exact e_)) _).trans (((cell_far (p := ⟨gb144, _, none⟩) (by have e_ := Nat.ne_of_lt (Nat.lt_of_lt_of_le (by have := World.block_lt_of_cell? _ _ hw138_0; first | rwa [add_block] at this | exact this) GW144.out); first | exact e_ | (rw [add_block]; exact e_) | (dsimp only; exact e_)) _).trans (((cell_far (p := ⟨gb144, _, none⟩) (by have e_ := Nat.ne_of_lt (Nat.lt_of_lt_of_le (by have := World.block_lt_of_cell? _ _ hw138_0; first | rwa [add_block] at this | exact this) GW144.out); first | exact e_ | (rw [add_block]; exact e_) | (dsimp only; exact e_)) _).trans (hHeld.2.2.2.2))))))))⟩ (fun hHeld => ?_)
      clear hK K
      refine pure_ (i := 12) (N := some 11) (v := ?_) (a' := ?_) #[T, T, T, T, T, T, T, T, T, T, T, T, T] rfl rfl (any_of HT_.out (by kernel_rfl)) (fun _ _ _ h => h) (Or.inl ⟨by rfl, ?_⟩) ?_ ?_
      rotate_left
      ·intro w'
       go_simp
       with_reducible rfl
      rotate_left
      ·simp only [pS]
       rfl
      refine done_ (done_of HT_.out (by kernel_rfl)) ?_
      have hnb18 := NB144_136.out
      have hnc18 := NB136_144.out
      have hnb19 := NB144_137.out
      have hnc19 := NB137_144.out
      have hcz20_0 : w13.cell? ⟨gb144, 0, none⟩ = some (.int .i64 0) := (blk_cell BK144.out 0).trans rfl
      have hcz20_1 : w13.cell? ⟨gb144, 1, none⟩ = some (.int .i64 0) := (blk_cell BK144.out 1).trans rfl
      have hcz20_2 : w13.cell? ⟨gb144, 2, none⟩ = some (.int .i64 0) := (blk_cell BK144.out 2).trans rfl
      have hcz20_3 : w13.cell? ⟨gb144, 3, none⟩ = some (.int .i64 0) := (blk_cell BK144.out 3).trans rfl
      have hfz20_0 := blk_frozen BK144.out 0
      have hfz20_1 := blk_frozen BK144.out 1
      have hfz20_2 := blk_frozen BK144.out 2
      have hfz20_3 := blk_frozen BK144.out 3
      have hnb21 := NB136_137.out
      have hnc21 := NB137_136.out
      have hcz22_0 : w13.cell? ⟨gb136, 0, none⟩ = some (.int .i64 x137000_1) := (blk_cell BK136.out 0).trans rfl
      have hcz22_1 : w13.cell? ⟨gb136, 1, none⟩ = some (.int .i64 x137001_1) := (blk_cell BK136.out 1).trans rfl
      have hcz22_2 : w13.cell? ⟨gb136, 2, none⟩ = some (.int .i64 x137002_1) := (blk_cell BK136.out 2).trans rfl
      have hcz22_3 : w13.cell? ⟨gb136, 3, none⟩ = some (.int .i64 x137003_1) := (blk_cell BK136.out 3).trans rfl
      have hfz22_0 := blk_frozen BK136.out 0
      have hfz22_1 := blk_frozen BK136.out 1
      have hfz22_2 := blk_frozen BK136.out 2
      have hfz22_3 := blk_frozen BK136.out 3
      try go_wp2
      go_roundg k1
      case measure => have := HK1.out; omega
      case rel => exact ⟨(wrap64 (x8_1 + 1)), (wrap64 (x9_1 + 1)), (t139), (t140), (t141), (t142), (by first | rfl | (simp; done) | (simp [*]; done)), (by first | rfl | (simp; done) | (simp [*]; done)), H', ⟨by have := HK1.out; omega⟩, ⟨by (repeat apply bX); refine blk_put (cs := #[.int .i64 t139, .int .i64 t140, .int .i64 t141, .int .i64 x137003_1]) ?_ 3 _ rfl; (repeat apply bX); refine blk_put (cs := #[.int .i64 t139, .int .i64 t140, .int .i64 x137002_1, .int .i64 x137003_1]) ?_ 2 _ rfl; (repeat apply bX); refine blk_put (cs := #[.int .i64 t139, .int .i64 x137001_1, .int .i64 x137002_1, .int .i64 x137003_1]) ?_ 1 _ rfl; (repeat apply bX); refine blk_put (cs := #[.int .i64 x137000_1, .int .i64 x137001_1, .int .i64 x137002_1, .int .i64 x137003_1]) ?_ 0 _ rfl; (repeat apply bX); refine blk_far ?_ NB136_144.out _; (repeat apply bX); refine blk_far ?_ NB136_144.out _; (repeat apply bX); refine blk_far ?_ NB136_144.out _; (repeat apply bX); refine blk_far ?_ NB136_144.out _; (repeat apply bX); exact BK136.out⟩, ⟨by (repeat apply bX); refine blk_far ?_ NB137_136.out _; (repeat apply bX); refine blk_far ?_ NB137_136.out _; (repeat apply bX); refine blk_far ?_ NB137_136.out _; (repeat apply bX); refine blk_far ?_ NB137_136.out _; (repeat apply bX); refine blk_far ?_ NB137_144.out _; (repeat apply bX); refine blk_far ?_ NB137_144.out _; (repeat apply bX); refine blk_far ?_ NB137_144.out _; (repeat apply bX); refine blk_far ?_ NB137_144.out _; (repeat apply bX); exact BK137.out⟩, ⟨by repeat (first | (with_reducible first | exact HB.out | apply below_alloc | apply pw_below_drewN | apply below_drew1 | refine below_set ?_ GE136.out | refine below_set ?_ GE137.out | refine below_set ?_ GE144.out) | exact HB.out)⟩⟩
     ·replace c9 := Bool.eq_false_iff.mpr c9
      subst c9
      have H1 : (spec_PortRun.l0 k1 l1 a2 x8_1 (wrap64 (x9_1 + 1)) t139 t140 t141 t142) = some (r1, r2, r3, r4, r5) := by rw [if_neg (show ¬ (false = true) by decide)] at H; exact H
      clear H
      have H := H1
      clear H1
      have H' := Aside0.mk H
      clear H
      try go_wp2
      have n0_ := Aside0.mk (blk_drew BK136.out)
      have n1_ := Aside0.mk (blk_drew BK137.out)
      have n2_ := Aside0.mk (below_drew1 HB.out)
      clear BK136
      clear BK137
      clear HB
      have BK136 := n0_
      have BK137 := n1_
      have HB := n2_
      clear n0_ n1_ n2_
      have p138 : 0 ≤ (x9_1 : Int) := of_decide_eq_true (by first | (with_reducible assumption) | assumption)
      have q138 : x9_1 < (l1.length : Int) := of_decide_eq_true (by first | (with_reducible assumption) | assumption)
      obtain ⟨ad138, e138, hx138_0⟩ := Kd.at_int HR1.out x9_1 p138 q138
      have hw138_0 := hx138_0
      cases e138
      replace hx138_0 := (HB.out.cell (World.block_lt_of_cell? w _ hx138_0)).trans hx138_0
      replace p138 := eq_true p138
      replace q138 := eq_true q138
      refine start_ (n := 13) (S := fun w' => w'.cell? ⟨gb136, 0, none⟩ = some (.int .i64 x137000_1) ∧ w'.cell? ⟨gb136, 1, none⟩ = some (.int .i64 x137001_1) ∧ w'.cell? ⟨gb136, 2, none⟩ = some (.int .i64 x137002_1) ∧ w'.cell? ⟨gb136, 3, none⟩ = some (.int .i64 x137003_1) ∧ w'.cell? (ad138.add (x9_1).toNat) = some (.int .i64 (rd l1 x9_1))) (ds := []) #[F, F, F, F, F, F, F, F, F, F, F, F, F] (by kernel_rfl) rfl rfl ⟨(blk_cell BK136.out 0).trans rfl, (blk_cell BK136.out 1).trans rfl, (blk_cell BK136.out 2).trans rfl, (blk_cell BK136.out 3).trans rfl, ((HB.out.cell (World.block_lt_of_cell? w _ hw138_0)).trans hw138_0)⟩ (fun hHeld => ?_); refine with_tabW spec_PortRun.tab5 spec_PortRun.bits5 (fun HT_ HW_ => ?_)
      generalize wr.drew = w23 at BK136 BK137 HB hx138_0 hHeld ⊢
      refine pure_ (i := 1) (N := some 20) (v := ?_) (a' := ?_) #[F, T, F, F, F, F, F, F, F, F, F, F, F] rfl rfl (any_of HT_.out (by kernel_rfl)) (fun _ _ _ h => h) (Or.inl ⟨by rfl, ?_⟩) ?_ ?_
      rotate_left
      ·intro w'
       go_simp
       with_reducible rfl
      rotate_left
      ·simp only [pS]
       rfl
      refine pure_ (i := 2) (N := some 21) (v := ?_) (a' := ?_) #[F, T, T, F, F, F, F, F, F, F, F, F, F] rfl rfl (any_of HT_.out (by kernel_rfl)) (fun _ _ _ h => h) (Or.inl ⟨by rfl, ?_⟩) ?_ ?_
      rotate_left
      ·intro w'
       go_simp
       with_reducible rfl
      rotate_left
      ·simp only [pS]
       rfl
      refine pure_ (i := 3) (N := some 22) (v := ?_) (a' := ?_) #[F, T, T, T, F, F, F, F, F, F, F, F, F] rfl rfl (any_of HT_.out (by kernel_rfl)) (fun _ _ _ h => h) (Or.inl ⟨by rfl, ?_⟩) ?_ ?_
      rotate_left
      ·intro w'
       go_simp
       with_reducible rfl
      rotate_left
      ·simp only [pS]
       rfl
      refine pure_ (i := 5) (N := some 24) (v := ?_) (a' := ?_) #[F, T, T, T, F, T, F, F, F, F, F, F, F] rfl rfl (any_of HT_.out (by kernel_rfl)) (fun _ _ _ h => h) (Or.inl ⟨by rfl, ?_⟩) ?_ ?_
      rotate_left
      ·intro w'
       go_simp
       with_reducible rfl
      rotate_left
      ·simp only [pS]
       rfl
      refine take_ (i := 0) (N := some 19) (v := ?_) (a' := ?_) #[T, T, T, T, F, T, F, F, F, F, F, F, F] rfl rfl (take_ofW HT_.out HW_.out (by kernel_rfl)) (fun _ _ _ h => h) (Or.inl ⟨by rfl, ?_⟩) hHeld ?_ ?_
      rotate_left
      ·rintro w' ⟨s0, s1, s2, s3, s4⟩
       go_simp
       with_reducible rfl
      rotate_left
      ·simp only [pS]
       rfl
      refine take_ (i := 4) (N := some 23) (v := ?_) (a' := ?_) #[T, T, T, T, T, T, F, F, F, F, F, F, F] rfl rfl (take_ofW HT_.out HW_.out (by kernel_rfl)) (fun _ _ _ h => h) (Or.inl ⟨by rfl, ?_⟩) hHeld ?_ ?_
      rotate_left
      ·rintro w' ⟨s0, s1, s2, s3, s4⟩
       go_simp
       with_reducible rfl
      rotate_left
      ·simp only [pS]
       rfl
      refine join_ (σ := Nat) 2 #[T, T, T, T, T, T, T, T, T, T, T, F, F] (fun s_ => [(25, .tuple #[.agg #[.int .i64 t139, .int .i64 t140, .int .i64 t141, .int .i64 t142], .bool false]), (10, .pointer (some ⟨s_, 0, none⟩)), (18, .tuple #[.agg #[.int .i64 t139, .int .i64 t140, .int .i64 t141, .int .i64 t142], .bool false]), (26, .agg #[.int .i64 t139, .int .i64 t140, .int .i64 t141, .int .i64 t142]), (27, .bool false)]) (fun s_ w' => (w'.cell? ⟨gb136, 0, none⟩ = some (.int .i64 x137000_1) ∧ w'.cell? ⟨gb136, 1, none⟩ = some (.int .i64 x137001_1) ∧ w'.cell? ⟨gb136, 2, none⟩ = some (.int .i64 x137002_1) ∧ w'.cell? ⟨gb136, 3, none⟩ = some (.int .i64 x137003_1) ∧ w'.cell? (ad138.add (x9_1).toNat) = some (.int .i64 (rd l1 x9_1))) ∧ (w'.heap[gb136]? = some (.cells #[.int .i64 x137000_1, .int .i64 x137001_1, .int .i64 x137002_1, .int .i64 x137003_1] 46 (0, 0))) ∧ (w'.heap[gb137]? = some (.cells #[.int .i64 0, .int .i64 0, .int .i64 0, .int .i64 0] 46 (0, 0))) ∧ (w'.heap[s_]? = some (.cells #[.int .i64 0, .int .i64 0, .int .i64 0, .int .i64 0] 46 (0, 0))) ∧ (w.heap.size ≤ s_) ∧ (w.heap.size ≤ s_) ∧ (gb136 ≠ s_) ∧ (s_ ≠ gb136) ∧ (gb137 ≠ s_) ∧ (s_ ≠ gb137) ∧ (Below w.heap.size w w')) ?_ ?_
      rotate_left
      ·intro hCont
       refine two_ (i := 6) (j := 10) (Ni := some 25) (Nj := some 10) #[T, T, T, T, T, T, T, F, F, F, F, F, F] #[T, T, T, T, T, T, F, F, F, F, T, F, F] rfl rfl rfl rfl (two_of HT_.out (by kernel_rfl)) (by decide) (by decide) (fun K hK => ?_) (fun K hK => ?_)
       ·skip
        refine goes_ Try.func66 (by kernel_rfl) rfl #[.agg #[.int .i64 x137000_1, .int .i64 x137001_1, .int .i64 x137002_1, .int .i64 x137003_1], .int .i64 (rd l1 x9_1), .int .i64 a2] (by rfl) rfl rfl (by (try simp only [List.map_toArray, List.map_cons, List.map_nil]); first | done | rfl) ?_
        with_reducible refine (spec_PortStep.calls k1 x137000_1 x137001_1 x137002_1 x137003_1 (rd l1 x9_1) a2 t139 t140 t141 t142 false _ A8.out).mono ?_
        rintro e w24 ⟨rfl, hb⟩
        refine ⟨_, rfl, ?_⟩
        have n0_ := Aside0.mk (blk_below (bY BK136.out) hb)
        have n1_ := Aside0.mk (blk_below (bY BK137.out) hb)
        have n2_ := Aside0.mk (below_step (by repeat (first | (with_reducible first | exact HB.out | apply below_alloc | apply pw_below_drewN | apply below_drew1 | refine below_set ?_ GE136.out | refine below_set ?_ GE137.out) | exact HB.out)) hb)
        clear BK136
        clear BK137
        clear HB
        have BK136 := n0_
        have BK137 := n1_
        have HB := n2_
        clear n0_ n1_ n2_
        refine hK.out _ _ ⟨(blk_cell BK136.out 0).trans rfl, (blk_cell BK136.out 1).trans rfl, (blk_cell BK136.out 2).trans rfl, (blk_cell BK136.out 3).trans rfl, ((HB.out.cell (World.block_lt_of_cell? w _ hw138_0)).trans hw138_0)⟩ (fun hHeld => ?_)
        clear hK K
        refine norm_ (a' := ?_) ?_ ?_
        rotate_left
        ·show Act.put _ (some 25) _ = _
         simp only [pS]
         rfl
        refine pure_ (i := 7) (N := some 18) (v := ?_) (a' := ?_) #[T, T, T, T, T, T, T, T, F, F, F, F, F] rfl rfl (any_of HT_.out (by kernel_rfl)) (fun _ _ _ h => h) (Or.inl ⟨by rfl, ?_⟩) ?_ ?_
        rotate_left
        ·intro w'
         go_simp
         with_reducible rfl
        rotate_left
        ·simp only [pS]
         rfl
        refine pure_ (i := 8) (N := some 26) (v := ?_) (a' := ?_) #[T, T, T, T, T, T, T, T, T, F, F, F, F] rfl rfl (any_of HT_.out (by kernel_rfl)) (fun _ _ _ h => h) (Or.inl ⟨by rfl, ?_⟩) ?_ ?_
        rotate_left
        ·intro w'
         go_simp
         with_reducible rfl
        rotate_left
        ·simp only [pS]
         rfl
        refine pure_ (i := 9) (N := some 27) (v := ?_) (a' := ?_) #[T, T, T, T, T, T, T, T, T, T, F, F, F] rfl rfl (any_of HT_.out (by kernel_rfl)) (fun _ _ _ h => h) (Or.inl ⟨by rfl, ?_⟩) ?_ ?_
        rotate_left
        ·intro w'
         go_simp
         with_reducible rfl
        rotate_left
        ·simp only [pS]
         rfl
        refine one_ (i := 10) (N := some 10) #[T, T, T, T, T, T, T, T, T, T, T, F, F] rfl rfl (one_of HT_.out (by kernel_rfl)) (by decide) (fun K hK => ?_)
        refine box_step ?hg (N := 10) ?hd (cs := #[.int .i64 0, .int .i64 0, .int .i64 0, .int .i64 0]) (t := 46) ?hr ?_; (case hd => rfl); (case hg => rfl); (case hr => first | (go_simp; done) | (go_simp; rfl))
        intro gb144 hg w25 hbox hb
        have n0_ := Aside0.mk (blk_below (bY BK136.out) hb)
        have n1_ := Aside0.mk (blk_below (bY BK137.out) hb)
        have n2_ := Aside0.mk (below_step (by repeat (first | (with_reducible first | exact HB.out | apply below_alloc | apply pw_below_drewN | apply below_drew1 | refine below_set ?_ GE136.out | refine below_set ?_ GE137.out) | exact HB.out)) hb)
        have n3_ := Aside0.mk (hbox)
        have n4_ := Aside0.mk ((by rw [hg]; exact (below_size (by repeat (first | (with_reducible first | exact HB.out | apply below_alloc | apply pw_below_drewN | apply below_drew1 | refine below_set ?_ GE136.out | refine below_set ?_ GE137.out) | exact HB.out))) : w.heap.size ≤ gb144))
        have n5_ := Aside0.mk ((by rw [hg]; exact (below_size (by repeat (first | (with_reducible first | exact HB.out | apply below_alloc | apply pw_below_drewN | apply below_drew1 | refine below_set ?_ GE136.out | refine below_set ?_ GE137.out) | exact HB.out))) : w.heap.size ≤ gb144))
        have n6_ := Aside0.mk ((by rw [hg]; exact Nat.ne_of_lt (blk_lt (bY BK136.out)) : gb136 ≠ gb144))
        have n7_ := Aside0.mk ((by rw [hg]; exact Nat.ne_of_gt (blk_lt (bY BK136.out)) : gb144 ≠ gb136))
        have n8_ := Aside0.mk ((by rw [hg]; exact Nat.ne_of_lt (blk_lt (bY BK137.out)) : gb137 ≠ gb144))
        have n9_ := Aside0.mk ((by rw [hg]; exact Nat.ne_of_gt (blk_lt (bY BK137.out)) : gb144 ≠ gb137))
        clear BK136
        clear BK137
        clear HB
        have BK136 := n0_
        have BK137 := n1_
        have HB := n2_
        have BK144 := n3_
        have GW144 := n4_
        have GE144 := n5_
        have NB136_144 := n6_
        have NB144_136 := n7_
        have NB137_144 := n8_
        have NB144_137 := n9_
        clear n0_ n1_ n2_ n3_ n4_ n5_ n6_ n7_ n8_ n9_
        clear hb hbox hg
        refine hK.out _ _ ⟨(blk_cell BK136.out 0).trans rfl, (blk_cell BK136.out 1).trans rfl, (blk_cell BK136.out 2).trans rfl, (blk_cell BK136.out 3).trans rfl, ((HB.out.cell (World.block_lt_of_cell? w _ hw138_0)).trans hw138_0)⟩ (fun hHeld => ?_)
        clear hK K
        refine norm_ (a' := ?_) ?_ ?_
        rotate_left
        ·show Act.put _ (some 10) _ = _
         simp only [pS]
         rfl
        exact norm_ (by simp only [putAll, Act.put, List.setIfInBounds_toArray, List.set_cons_zero, List.set_cons_succ]) (hCont (gb144) _ ⟨hHeld, (bY BK136.out), (bY BK137.out), (bY BK144.out), GW144.out, GE144.out, NB136_144.out, NB144_136.out, NB137_144.out, NB144_137.out, (by repeat (first | (with_reducible first | exact HB.out | apply below_alloc | apply pw_below_drewN | apply below_drew1 | refine below_set ?_ GE136.out | refine below_set ?_ GE137.out | refine below_set ?_ GE144.out) | exact HB.out))⟩)
       ·skip
        refine box_step ?hg (N := 10) ?hd (cs := #[.int .i64 0, .int .i64 0, .int .i64 0, .int .i64 0]) (t := 46) ?hr ?_; (case hd => rfl); (case hg => rfl); (case hr => first | (go_simp; done) | (go_simp; rfl))
        intro gb144 hg w24 hbox hb
        have n0_ := Aside0.mk (blk_below (bY BK136.out) hb)
        have n1_ := Aside0.mk (blk_below (bY BK137.out) hb)
        have n2_ := Aside0.mk (below_step (by repeat (first | (with_reducible first | exact HB.out | apply below_alloc | apply pw_below_drewN | apply below_drew1 | refine below_set ?_ GE136.out | refine below_set ?_ GE137.out) | exact HB.out)) hb)
        have n3_ := Aside0.mk (hbox)
        have n4_ := Aside0.mk ((by rw [hg]; exact (below_size (by repeat (first | (with_reducible first | exact HB.out | apply below_alloc | apply pw_below_drewN | apply below_drew1 | refine below_set ?_ GE136.out | refine below_set ?_ GE137.out) | exact HB.out))) : w.heap.size ≤ gb144))
        have n5_ := Aside0.mk ((by rw [hg]; exact (below_size (by repeat (first | (with_reducible first | exact HB.out | apply below_alloc | apply pw_below_drewN | apply below_drew1 | refine below_set ?_ GE136.out | refine below_set ?_ GE137.out) | exact HB.out))) : w.heap.size ≤ gb144))
        have n6_ := Aside0.mk ((by rw [hg]; exact Nat.ne_of_lt (blk_lt (bY BK136.out)) : gb136 ≠ gb144))
        have n7_ := Aside0.mk ((by rw [hg]; exact Nat.ne_of_gt (blk_lt (bY BK136.out)) : gb144 ≠ gb136))
        have n8_ := Aside0.mk ((by rw [hg]; exact Nat.ne_of_lt (blk_lt (bY BK137.out)) : gb137 ≠ gb144))
        have n9_ := Aside0.mk ((by rw [hg]; exact Nat.ne_of_gt (blk_lt (bY BK137.out)) : gb144 ≠ gb137))
        clear BK136
        clear BK137
        clear HB
        have BK136 := n0_
        have BK137 := n1_
        have HB := n2_
        have BK144 := n3_
        have GW144 := n4_
        have GE144 := n5_
        have NB136_144 := n6_
        have NB144_136 := n7_
        have NB137_144 := n8_
        have NB144_137 := n9_
        clear n0_ n1_ n2_ n3_ n4_ n5_ n6_ n7_ n8_ n9_
        clear hb hbox hg
        refine hK.out _ _ ⟨(blk_cell BK136.out 0).trans rfl, (blk_cell BK136.out 1).trans rfl, (blk_cell BK136.out 2).trans rfl, (blk_cell BK136.out 3).trans rfl, ((HB.out.cell (World.block_lt_of_cell? w _ hw138_0)).trans hw138_0)⟩ (fun hHeld => ?_)
        clear hK K
        refine norm_ (a' := ?_) ?_ ?_
        rotate_left
        ·show Act.put _ (some 10) _ = _
         simp only [pS]
         rfl
        refine one_ (i := 6) (N := some 25) #[T, T, T, T, T, T, T, F, F, F, T, F, F] rfl rfl (one_of HT_.out (by kernel_rfl)) (by decide) (fun K hK => ?_)
        refine goes_ Try.func66 (by kernel_rfl) rfl #[.agg #[.int .i64 x137000_1, .int .i64 x137001_1, .int .i64 x137002_1, .int .i64 x137003_1], .int .i64 (rd l1 x9_1), .int .i64 a2] (by rfl) rfl rfl (by (try simp only [List.map_toArray, List.map_cons, List.map_nil]); first | done | rfl) ?_
        with_reducible refine (spec_PortStep.calls k1 x137000_1 x137001_1 x137002_1 x137003_1 (rd l1 x9_1) a2 t139 t140 t141 t142 false _ A8.out).mono ?_
        rintro e w25 ⟨rfl, hb⟩
        refine ⟨_, rfl, ?_⟩
        have n0_ := Aside0.mk (blk_below (bY BK136.out) hb)
        have n1_ := Aside0.mk (blk_below (bY BK137.out) hb)
        have n2_ := Aside0.mk (blk_below (bY BK144.out) hb)
        have n3_ := Aside0.mk (below_step (by repeat (first | (with_reducible first | exact HB.out | apply below_alloc | apply pw_below_drewN | apply below_drew1 | refine below_set ?_ GE136.out | refine below_set ?_ GE137.out | refine below_set ?_ GE144.out) | exact HB.out)) hb)
        clear BK136
        clear BK137
        clear BK144
        clear HB
        have BK136 := n0_
        have BK137 := n1_
        have BK144 := n2_
        have HB := n3_
        clear n0_ n1_ n2_ n3_
        refine hK.out _ _ ⟨(blk_cell BK136.out 0).trans rfl, (blk_cell BK136.out 1).trans rfl, (blk_cell BK136.out 2).trans rfl, (blk_cell BK136.out 3).trans rfl, ((HB.out.cell (World.block_lt_of_cell? w _ hw138_0)).trans hw138_0)⟩ (fun hHeld => ?_)
        clear hK K
        refine norm_ (a' := ?_) ?_ ?_
        rotate_left
        ·show Act.put _ (some 25) _ = _
         simp only [pS]
         rfl
        refine pure_ (i := 7) (N := some 18) (v := ?_) (a' := ?_) #[T, T, T, T, T, T, T, T, F, F, T, F, F] rfl rfl (any_of HT_.out (by kernel_rfl)) (fun _ _ _ h => h) (Or.inl ⟨by rfl, ?_⟩) ?_ ?_
        rotate_left
        ·intro w'
         go_simp
         with_reducible rfl
        rotate_left
        ·simp only [pS]
         rfl
        refine pure_ (i := 8) (N := some 26) (v := ?_) (a' := ?_) #[T, T, T, T, T, T, T, T, T, F, T, F, F] rfl rfl (any_of HT_.out (by kernel_rfl)) (fun _ _ _ h => h) (Or.inl ⟨by rfl, ?_⟩) ?_ ?_
        rotate_left
        ·intro w'
         go_simp
         with_reducible rfl
        rotate_left
        ·simp only [pS]
         rfl
        refine pure_ (i := 9) (N := some 27) (v := ?_) (a' := ?_) #[T, T, T, T, T, T, T, T, T, T, T, F, F] rfl rfl (any_of HT_.out (by kernel_rfl)) (fun _ _ _ h => h) (Or.inl ⟨by rfl, ?_⟩) ?_ ?_
        rotate_left
        ·intro w'
         go_simp
         with_reducible rfl
        rotate_left
        ·simp only [pS]
         rfl
        exact norm_ (by simp only [putAll, Act.put, List.setIfInBounds_toArray, List.set_cons_zero, List.set_cons_succ]) (hCont (gb144) _ ⟨hHeld, (bY BK136.out), (bY BK137.out), (bY BK144.out), GW144.out, GE144.out, NB136_144.out, NB144_136.out, NB137_144.out, NB144_137.out, (by repeat (first | (with_reducible first | exact HB.out | apply below_alloc | apply pw_below_drewN | apply below_drew1 | refine below_set ?_ GE136.out | refine below_set ?_ GE137.out | refine below_set ?_ GE144.out) | exact HB.out))⟩)
      rintro gb144 w26 ⟨hS_, h0_, h1_, h2_, h3_, h4_, h5_, h6_, h7_, h8_, h9_⟩
      have n0_ : Aside0 (w26.heap[gb136]? = some (.cells #[.int .i64 x137000_1, .int .i64 x137001_1, .int .i64 x137002_1, .int .i64 x137003_1] 46 (0, 0))) := ⟨h0_⟩
      have n1_ : Aside0 (w26.heap[gb137]? = some (.cells #[.int .i64 0, .int .i64 0, .int .i64 0, .int .i64 0] 46 (0, 0))) := ⟨h1_⟩
      have n2_ : Aside0 (w26.heap[gb144]? = some (.cells #[.int .i64 0, .int .i64 0, .int .i64 0, .int .i64 0] 46 (0, 0))) := ⟨h2_⟩
      have n3_ : Aside0 (w.heap.size ≤ gb144) := ⟨h3_⟩
      have n4_ : Aside0 (w.heap.size ≤ gb144) := ⟨h4_⟩
      have n5_ : Aside0 (gb136 ≠ gb144) := ⟨h5_⟩
      have n6_ : Aside0 (gb144 ≠ gb136) := ⟨h6_⟩
      have n7_ : Aside0 (gb137 ≠ gb144) := ⟨h7_⟩
      have n8_ : Aside0 (gb144 ≠ gb137) := ⟨h8_⟩
      have n9_ : Aside0 (Below w.heap.size w w26) := ⟨h9_⟩
      clear BK136
      clear BK137
      clear HB
      clear h0_ h1_ h2_ h3_ h4_ h5_ h6_ h7_ h8_ h9_
      have BK136 := n0_
      have BK137 := n1_
      have BK144 := n2_
      have GW144 := n3_
      have GE144 := n4_
      have NB136_144 := n5_
      have NB144_136 := n6_
      have NB137_144 := n7_
      have NB144_137 := n8_
      have HB := n9_
      clear n0_ n1_ n2_ n3_ n4_ n5_ n6_ n7_ n8_ n9_
      have hHeld : w26.cell? ⟨gb136, 0, none⟩ = some (.int .i64 x137000_1) ∧ w26.cell? ⟨gb136, 1, none⟩ = some (.int .i64 x137001_1) ∧ w26.cell? ⟨gb136, 2, none⟩ = some (.int .i64 x137002_1) ∧ w26.cell? ⟨gb136, 3, none⟩ = some (.int .i64 x137003_1) ∧ w26.cell? (ad138.add (x9_1).toNat) = some (.int .i64 (rd l1 x9_1)) := hS_
      refine norm_ (a' := ?_) ?_ ?_
      rotate_left
      ·simp only [putAll, Act.put, List.setIfInBounds_toArray, List.set_cons_zero, List.set_cons_succ]
       rfl
      refine one_ (i := 11) (N := none) #[T, T, T, T, T, T, T, T, T, T, T, T, F] rfl rfl (one_of HT_.out (by kernel_rfl)) (by decide) (fun K hK => ?_)
      have hs27 : w26.cell? ⟨gb144, 0, none⟩ = some (.int .i64 0) := (blk_cell BK144.out 0).trans rfl
      have hfs27 := blk_frozen BK144.out 0
      have hns27_0 := NB136_144.out
      have hns27_1 := NB137_144.out
      have hms27_0 := NB144_136.out
      have hms27_1 := NB144_137.out
      have hs28 : w26.cell? ⟨gb144, 1, none⟩ = some (.int .i64 0) := (blk_cell BK144.out 1).trans rfl
      have hfs28 := blk_frozen BK144.out 1
      have hns28_0 := NB136_144.out
      have hns28_1 := NB137_144.out
      have hms28_0 := NB144_136.out
      have hms28_1 := NB144_137.out
      have hs29 : w26.cell? ⟨gb144, 2, none⟩ = some (.int .i64 0) := (blk_cell BK144.out 2).trans rfl
      have hfs29 := blk_frozen BK144.out 2
      have hns29_0 := NB136_144.out
      have hns29_1 := NB137_144.out
      have hms29_0 := NB144_136.out
      have hms29_1 := NB144_137.out
      have hs30 : w26.cell? ⟨gb144, 3, none⟩ = some (.int .i64 0) := (blk_cell BK144.out 3).trans rfl
      have hfs30 := blk_frozen BK144.out 3
      have hns30_0 := NB136_144.out
      have hns30_1 := NB137_144.out
      have hms30_0 := NB144_136.out
      have hms30_1 := NB144_137.out
      refine skip_ (w1 := ?_) (by rfl) rfl ?_ ?_
      rotate_left
      ·go_simp
       rfl
      refine hK.out _ _ ⟨((cell_far (p := ⟨gb144, _, none⟩) NB136_144.out _).trans (((cell_far (p := ⟨gb144, _, none⟩) NB136_144.out _).trans (((cell_far (p := ⟨gb144, _, none⟩) NB136_144.out _).trans (((cell_far (p := ⟨gb144, _, none⟩) NB136_144.out _).trans (hHeld.1)))))))), ((cell_far (p := ⟨gb144, _, none⟩) NB136_144.out _).trans (((cell_far (p := ⟨gb144, _, none⟩) NB136_144.out _).trans (((cell_far (p := ⟨gb144, _, none⟩) NB136_144.out _).trans (((cell_far (p := ⟨gb144, _, none⟩) NB136_144.out _).trans (hHeld.2.1)))))))), ((cell_far (p := ⟨gb144, _, none⟩) NB136_144.out _).trans (((cell_far (p := ⟨gb144, _, none⟩) NB136_144.out _).trans (((cell_far (p := ⟨gb144, _, none⟩) NB136_144.out _).trans (((cell_far (p := ⟨gb144, _, none⟩) NB136_144.out _).trans (hHeld.2.2.1)))))))), ((cell_far (p := ⟨gb144, _, none⟩) NB136_144.out _).trans (((cell_far (p := ⟨gb144, _, none⟩) NB136_144.out _).trans (((cell_far (p := ⟨gb144, _, none⟩) NB136_144.out _).trans (((cell_far (p := ⟨gb144, _, none⟩) NB136_144.out _).trans (hHeld.2.2.2.1)))))))), ((cell_far (p := ⟨gb144, _, none⟩) (by have e_ := Nat.ne_of_lt (Nat.lt_of_lt_of_le (by have := World.block_lt_of_cell? _ _ hw138_0; first | rwa [add_block] at this | exact this) GW144.out); first | exact e_ | (rw [add_block]; exact e_) | (dsimp only; exact e_)) _).trans (((cell_far (p := ⟨gb144, _, none⟩) (by have e_ := Nat.ne_of_lt (Nat.lt_of_lt_of_le (by have := World.block_lt_of_cell? _ _ hw138_0; first | rwa [add_block] at this | exact this) GW144.out); first | exact e_ | (rw [add_block]; exact e_) | (dsimp only; exact e_)) _).trans (((cell_far (p := ⟨gb144, _, none⟩) (by have e_ := Nat.ne_of_lt (Nat.lt_of_lt_of_le (by have := World.block_lt_of_cell? _ _ hw138_0; first | rwa [add_block] at this | exact this) GW144.out); first | exact e_ | (rw [add_block]; exact e_) | (dsimp only; exact e_)) _).trans (((cell_far (p := ⟨gb144, _, none⟩) (by have e_ := Nat.ne_of_lt (Nat.lt_of_lt_of_le (by have := World.block_lt_of_cell? _ _ hw138_0; first | rwa [add_block] at this | exact this) GW144.out); first | exact e_ | (rw [add_block]; exact e_) | (dsimp only; exact e_)) _).trans (hHeld.2.2.2.2))))))))⟩ (fun hHeld => ?_)
      clear hK K
      refine pure_ (i := 12) (N := some 11) (v := ?_) (a' := ?_) #[T, T, T, T, T, T, T, T, T, T, T, T, T] rfl rfl (any_of HT_.out (by kernel_rfl)) (fun _ _ _ h => h) (Or.inl ⟨by rfl, ?_⟩) ?_ ?_
      rotate_left
      ·intro w'
       go_simp
       with_reducible rfl
      rotate_left
      ·simp only [pS]
       rfl
      refine done_ (done_of HT_.out (by kernel_rfl)) ?_
      have hnb31 := NB144_136.out
      have hnc31 := NB136_144.out
      have hnb32 := NB144_137.out
      have hnc32 := NB137_144.out
      have hcz33_0 : w26.cell? ⟨gb144, 0, none⟩ = some (.int .i64 0) := (blk_cell BK144.out 0).trans rfl
      have hcz33_1 : w26.cell? ⟨gb144, 1, none⟩ = some (.int .i64 0) := (blk_cell BK144.out 1).trans rfl
      have hcz33_2 : w26.cell? ⟨gb144, 2, none⟩ = some (.int .i64 0) := (blk_cell BK144.out 2).trans rfl
      have hcz33_3 : w26.cell? ⟨gb144, 3, none⟩ = some (.int .i64 0) := (blk_cell BK144.out 3).trans rfl
      have hfz33_0 := blk_frozen BK144.out 0
      have hfz33_1 := blk_frozen BK144.out 1
      have hfz33_2 := blk_frozen BK144.out 2
      have hfz33_3 := blk_frozen BK144.out 3
      have hnb34 := NB136_137.out
      have hnc34 := NB137_136.out
      have hcz35_0 : w26.cell? ⟨gb136, 0, none⟩ = some (.int .i64 x137000_1) := (blk_cell BK136.out 0).trans rfl
      have hcz35_1 : w26.cell? ⟨gb136, 1, none⟩ = some (.int .i64 x137001_1) := (blk_cell BK136.out 1).trans rfl
      have hcz35_2 : w26.cell? ⟨gb136, 2, none⟩ = some (.int .i64 x137002_1) := (blk_cell BK136.out 2).trans rfl
      have hcz35_3 : w26.cell? ⟨gb136, 3, none⟩ = some (.int .i64 x137003_1) := (blk_cell BK136.out 3).trans rfl
      have hfz35_0 := blk_frozen BK136.out 0
      have hfz35_1 := blk_frozen BK136.out 1
      have hfz35_2 := blk_frozen BK136.out 2
      have hfz35_3 := blk_frozen BK136.out 3
      try go_wp2
      go_roundg k1
      case measure => have := HK1.out; omega
      case rel => exact ⟨(x8_1), (wrap64 (x9_1 + 1)), (t139), (t140), (t141), (t142), (by first | rfl | (simp; done) | (simp [*]; done)), (by first | rfl | (simp; done) | (simp [*]; done)), H', ⟨by have := HK1.out; omega⟩, ⟨by (repeat apply bX); refine blk_put (cs := #[.int .i64 t139, .int .i64 t140, .int .i64 t141, .int .i64 x137003_1]) ?_ 3 _ rfl; (repeat apply bX); refine blk_put (cs := #[.int .i64 t139, .int .i64 t140, .int .i64 x137002_1, .int .i64 x137003_1]) ?_ 2 _ rfl; (repeat apply bX); refine blk_put (cs := #[.int .i64 t139, .int .i64 x137001_1, .int .i64 x137002_1, .int .i64 x137003_1]) ?_ 1 _ rfl; (repeat apply bX); refine blk_put (cs := #[.int .i64 x137000_1, .int .i64 x137001_1, .int .i64 x137002_1, .int .i64 x137003_1]) ?_ 0 _ rfl; (repeat apply bX); refine blk_far ?_ NB136_144.out _; (repeat apply bX); refine blk_far ?_ NB136_144.out _; (repeat apply bX); refine blk_far ?_ NB136_144.out _; (repeat apply bX); refine blk_far ?_ NB136_144.out _; (repeat apply bX); exact BK136.out⟩, ⟨by (repeat apply bX); refine blk_far ?_ NB137_136.out _; (repeat apply bX); refine blk_far ?_ NB137_136.out _; (repeat apply bX); refine blk_far ?_ NB137_136.out _; (repeat apply bX); refine blk_far ?_ NB137_136.out _; (repeat apply bX); refine blk_far ?_ NB137_144.out _; (repeat apply bX); refine blk_far ?_ NB137_144.out _; (repeat apply bX); refine blk_far ?_ NB137_144.out _; (repeat apply bX); refine blk_far ?_ NB137_144.out _; (repeat apply bX); exact BK137.out⟩, ⟨by repeat (first | (with_reducible first | exact HB.out | apply below_alloc | apply pw_below_drewN | apply below_drew1 | refine below_set ?_ GE136.out | refine below_set ?_ GE137.out | refine below_set ?_ GE144.out) | exact HB.out)⟩⟩
    ·rw [if_neg c7] at H
     exact absurd H (by simp)
   ·rw [if_neg c6] at H
    have c6b0 : decide (x9_1 < (l1.length : Int)) = false := decide_eq_false c6
    clear c6
    simp only [Option.some.injEq, Prod.mk.injEq] at H
    obtain ⟨rfl, rfl, rfl, rfl, rfl⟩ := H
    have hnb36 := NB136_137.out
    have hnc36 := NB137_136.out
    have hcz37_0 : wr.cell? ⟨gb136, 0, none⟩ = some (.int .i64 x137000_1) := (blk_cell BK136.out 0).trans rfl
    have hcz37_1 : wr.cell? ⟨gb136, 1, none⟩ = some (.int .i64 x137001_1) := (blk_cell BK136.out 1).trans rfl
    have hcz37_2 : wr.cell? ⟨gb136, 2, none⟩ = some (.int .i64 x137002_1) := (blk_cell BK136.out 2).trans rfl
    have hcz37_3 : wr.cell? ⟨gb136, 3, none⟩ = some (.int .i64 x137003_1) := (blk_cell BK136.out 3).trans rfl
    have hfz37_0 := blk_frozen BK136.out 0
    have hfz37_1 := blk_frozen BK136.out 1
    have hfz37_2 := blk_frozen BK136.out 2
    have hfz37_3 := blk_frozen BK136.out 3
    have hcz38_0 : wr.cell? ⟨gb137, 0, none⟩ = some (.int .i64 0) := (blk_cell BK137.out 0).trans rfl
    have hcz38_1 : wr.cell? ⟨gb137, 1, none⟩ = some (.int .i64 0) := (blk_cell BK137.out 1).trans rfl
    have hcz38_2 : wr.cell? ⟨gb137, 2, none⟩ = some (.int .i64 0) := (blk_cell BK137.out 2).trans rfl
    have hcz38_3 : wr.cell? ⟨gb137, 3, none⟩ = some (.int .i64 0) := (blk_cell BK137.out 3).trans rfl
    have hfz38_0 := blk_frozen BK137.out 0
    have hfz38_1 := blk_frozen BK137.out 1
    have hfz38_2 := blk_frozen BK137.out 2
    have hfz38_3 := blk_frozen BK137.out 3
    go_wp2
    refine bodyPost_ret (results_ct rfl _ _ gb137 46 #[.int .i64 x137000_1, .int .i64 x137001_1, .int .i64 x137002_1, .int .i64 x137003_1] (0, 0) _ rfl (by (repeat apply bX); refine blk_put (cs := #[.int .i64 x137000_1, .int .i64 x137001_1, .int .i64 x137002_1, .int .i64 0]) ?_ 3 _ rfl; (repeat apply bX); refine blk_put (cs := #[.int .i64 x137000_1, .int .i64 x137001_1, .int .i64 0, .int .i64 0]) ?_ 2 _ rfl; (repeat apply bX); refine blk_put (cs := #[.int .i64 x137000_1, .int .i64 0, .int .i64 0, .int .i64 0]) ?_ 1 _ rfl; (repeat apply bX); refine blk_put (cs := #[.int .i64 0, .int .i64 0, .int .i64 0, .int .i64 0]) ?_ 0 _ rfl; (repeat apply bX); exact BK137.out) Try.underlying46 rfl (by kernel_rfl)) rfl ?_
    exact ⟨by first | rfl | (simp [errW_none, errW_some] <;> rfl) | (simp [*, errW_none, errW_some] <;> rfl), by repeat (first | (with_reducible first | exact HB.out | apply below_alloc | apply pw_below_drewN | apply below_drew1 | refine below_set ?_ GE136.out | refine below_set ?_ GE137.out) | exact HB.out)⟩

end Go.Proofs.Ytemapchppbpfmaa.PFnPorts
