-- Written by a program of this session (wip/xp): not trusted, Lean checks it.
import Derived.Test.YtkapncihoabnmaaPFnExactReturnCreditsy12
namespace Go.Proofs.Ytkapncihoabnmaa.PFnExactReturnCredits
open Go.RowKit Go.Proofs.YtkapncihoabnmaaW.PrintWords Go.Proofs.YtkapncihoabnmaaW.PrintLast Go.Proofs.YtkapncihoabnmaaW.PrintMore
attribute [local go_sem] max2_int min2_int max_two min_two max_three min_three max_four min_four   -- for this text's walks alone
set_option linter.unusedVariables false
set_option linter.unusedSimpArgs false

set_option maxHeartbeats 8000000 in
set_option maxRecDepth 100000 in
theorem laws_FnExactReturnCredits.calls (k : Nat) (A0_0 : Option Addr) (c0_0 : Nat) (l0_0 : List Int) (A0_1 : Option Addr) (c0_1 : Nat) (l0_1 : List Int) (a1_0 : Int) (a1_1 : Int) (a1_2 : Int) (a1_3 : Int) (a1_4 : Int) (a1_5 : Int) (a1_6 : Int) (A1_7 : Option Addr) (c1_7 : Nat) (l1_7 : List Int) (r : Bool) (w : World) (hr0_0 : Kd.C (Kd.int .i64) w A0_0 l0_0.length l0_0) (hc0_0 : l0_0.length ≤ c0_0) (hr0_1 : Kd.C (Kd.int .i64) w A0_1 l0_1.length l0_1) (hc0_1 : l0_1.length ≤ c0_1) (hr1_7 : Kd.C (Kd.int .i64) w A1_7 l1_7.length l1_7) (hc1_7 : l1_7.length ≤ c1_7) (hrt : Aside0 (r = true)) (h : laws_FnExactReturnCredits.f k l0_0 l0_1 a1_0 a1_1 a1_2 a1_3 a1_4 a1_5 a1_6 l1_7 = some r) :
  Calls Try.prog 12 #[.agg #[.slice A0_0 l0_0.length c0_0, .slice A0_1 l0_1.length c0_1], .agg #[.int .i64 a1_0, .int .i64 a1_1, .int .i64 a1_2, .int .i64 a1_3, .int .i64 a1_4, .int .i64 a1_5, .int .i64 a1_6, .slice A1_7 l1_7.length c1_7]] w fun e w' => e = .returned (.bool r) ∧ Below w.heap.size w w' := by
 have hu24 := Try.underlying24
 have hu32 := Try.underlying32
 have hu27 := Try.underlying27
 have hu35 := Try.underlying35
 have HR0_0 := Aside0.mk hr0_0
 have HC0_0 := Aside0.mk hc0_0
 clear hr0_0 hc0_0
 have HR0_1 := Aside0.mk hr0_1
 have HC0_1 := Aside0.mk hc0_1
 clear hr0_1 hc0_1
 have HR1_7 := Aside0.mk hr1_7
 have HC1_7 := Aside0.mk hc1_7
 clear hr1_7 hc1_7
 have HB := Aside0.mk (Below.refl w.heap.size w)
 have H : ((laws_szCredits.f l0_0 l0_1 1048576).bind fun t303 => (if t303 < 0 then (some true) else ((laws_szPacket.f a1_0 a1_1 a1_2 a1_3 a1_4 a1_5 a1_6 l1_7 t303).bind fun t304 => (if t304 < 0 then (some true) else ((laws_toCredits.f k l0_0 l0_1).bind fun bt305 => ((laws_toPacket.f k a1_0 a1_1 a1_2 a1_3 a1_4 a1_5 a1_6 l1_7).bind fun bt311 => ((spec_ReturnCredits.f k bt305.1 bt305.2 bt311.1 bt311.2.1 bt311.2.2.1 bt311.2.2.2.1 bt311.2.2.2.2.1 bt311.2.2.2.2.2.1 bt311.2.2.2.2.2.2.1 bt311.2.2.2.2.2.2.2).bind fun bt321 => ((laws_toCredits.f k l0_0 l0_1).bind fun bt329 => ((laws_toPacket.f k a1_0 a1_1 a1_2 a1_3 a1_4 a1_5 a1_6 l1_7).bind fun bt336 => ((impl_ReturnCredits.f k bt329.1 bt329.2 bt336.1 bt336.2.1 bt336.2.2.1 bt336.2.2.2.1 bt336.2.2.2.2.1 bt336.2.2.2.2.2.1 bt336.2.2.2.2.2.2.1 bt336.2.2.2.2.2.2.2).bind fun bt347 => ((laws_eqCredits.f k bt347.1 bt347.2.1 bt321.1 bt321.2.1).bind fun t355 => (if t355 = true then (laws_FnExactReturnCredits.j0 k bt321.2.2 bt347.2.2 (bt347.2.2 != bt321.2.2) l0_0 l0_1 a1_0 a1_1 a1_2 a1_3 a1_4 a1_5 a1_6 l1_7 bt321.1 bt321.2.1 bt329.1 bt329.2 bt336.1 bt336.2.1 bt336.2.2.1 bt336.2.2.2.1 bt336.2.2.2.2.1 bt336.2.2.2.2.2.1 bt336.2.2.2.2.2.2.1 bt336.2.2.2.2.2.2.2 bt347.1 bt347.2.1) else (laws_FnExactReturnCredits.j0 k bt321.2.2 bt347.2.2 true l0_0 l0_1 a1_0 a1_1 a1_2 a1_3 a1_4 a1_5 a1_6 l1_7 bt321.1 bt321.2.1 bt329.1 bt329.2 bt336.1 bt336.2.1 bt336.2.2.1 bt336.2.2.2.1 bt336.2.2.2.2.1 bt336.2.2.2.2.2.1 bt336.2.2.2.2.2.2.1 bt336.2.2.2.2.2.2.2 bt347.1 bt347.2.1))))))))))))) = some r := h
 clear h
 replace H := Option.bind_eq_some_iff.mp H
 obtain ⟨t303, A30, H⟩ := H
 have A3 := Aside0.mk A30
 clear A30
 by_cases c4 : t303 < 0
 ·rw [if_pos c4] at H
  have c4b0 : decide (t303 < 0) = true := decide_eq_true c4
  clear c4
  obtain rfl := Option.some.inj H
  go_enter Try.func12, Try.ntmps12
  go_wp2_with (first | ((with_reducible refine gate_dst (N := 2) rfl ?_); refine box_event ?hg (N := 2) ?hd (cs := #[.slice A0_0 l0_0.length c0_0, .slice A0_1 l0_1.length c0_1]) (t := 24) ?hr ?_; (case hd => rfl); (case hg => rfl); (case hr => first | (go_simp; done) | (go_simp; rfl)); intro gb301 hg w5 hbox hb; have n0_ := Aside0.mk (below_step (beY HB.out) hb); have n1_ := Aside0.mk (hbox); have n2_ := Aside0.mk ((by rw [hg]; exact (below_size (beY HB.out)) : w.heap.size ≤ gb301)); have n3_ := Aside0.mk ((by rw [hg]; exact (below_size (beY HB.out)) : w.heap.size ≤ gb301)); clear HB; have HB := n0_; have BK301 := n1_; have GW301 := n2_; have GE301 := n3_; clear n0_ n1_ n2_ n3_; clear hb hbox hg) | ((with_reducible refine gate_dst (N := 3) rfl ?_); refine box_event ?hg (N := 3) ?hd (cs := #[.int .i64 a1_0, .int .i64 a1_1, .int .i64 a1_2, .int .i64 a1_3, .int .i64 a1_4, .int .i64 a1_5, .int .i64 a1_6, .slice A1_7 l1_7.length c1_7]) (t := 32) ?hr ?_; (case hd => rfl); (case hg => rfl); (case hr => first | (go_simp; done) | (go_simp; rfl)); intro gb302 hg w6 hbox hb; have n0_ := Aside0.mk (blk_below (bY BK301.out) hb); have n1_ := Aside0.mk (below_step (by repeat (first | (with_reducible first | exact HB.out | apply below_alloc | apply pw_below_drewN | apply below_drew1 | refine below_set ?_ GE301.out) | exact HB.out)) hb); have n2_ := Aside0.mk (hbox); have n3_ := Aside0.mk ((by rw [hg]; exact (below_size (by repeat (first | (with_reducible first | exact HB.out | apply below_alloc | apply pw_below_drewN | apply below_drew1 | refine below_set ?_ GE301.out) | exact HB.out))) : w.heap.size ≤ gb302)); have n4_ := Aside0.mk ((by rw [hg]; exact (below_size (by repeat (first | (with_reducible first | exact HB.out | apply below_alloc | apply pw_below_drewN | apply below_drew1 | refine below_set ?_ GE301.out) | exact HB.out))) : w.heap.size ≤ gb302)); have n5_ := Aside0.mk ((by rw [hg]; exact Nat.ne_of_lt (blk_lt (bY BK301.out)) : gb301 ≠ gb302)); have n6_ := Aside0.mk ((by rw [hg]; exact Nat.ne_of_gt (blk_lt (bY BK301.out)) : gb302 ≠ gb301)); clear BK301; clear HB; have BK301 := n0_; have HB := n1_; have BK302 := n2_; have GW302 := n3_; have GE302 := n4_; have NB301_302 := n5_; have NB302_301 := n6_; clear n0_ n1_ n2_ n3_ n4_ n5_ n6_; clear hb hbox hg; have hnb7 := NB301_302.out; have hnc7 := NB302_301.out; have hcz8_0 : w6.cell? ⟨gb301, 0, none⟩ = some (.slice A0_0 l0_0.length c0_0) := (blk_cell BK301.out 0).trans rfl; have hcz8_1 : w6.cell? ⟨gb301, 1, none⟩ = some (.slice A0_1 l0_1.length c0_1) := (blk_cell BK301.out 1).trans rfl; have hfz8_0 := blk_frozen BK301.out 0; have hfz8_1 := blk_frozen BK301.out 1) | ((with_reducible refine gate_callee (f := 15) rfl ?_); refine goesL_ (some 19) rfl rfl Try.func15 (by kernel_rfl) rfl #[.agg #[.slice A0_0 l0_0.length c0_0, .slice A0_1 l0_1.length c0_1], .int .i64 1048576] rfl (by (try simp only [List.map_toArray, List.map_cons, List.map_nil]); first | done | rfl) ?_; (with_reducible refine (laws_szCredits.calls _ _ l0_0 _ _ l0_1 1048576 t303 _ ?side1 ?side2 ?side3 ?side4 A3.out).mono ?_); (case side1 => exact cY ((Kd.C_below HR0_0.out HB.out))); (case side2 => exact HC0_0.out); (case side3 => exact cY ((Kd.C_below HR0_1.out HB.out))); (case side4 => exact HC0_1.out); rintro e w9 ⟨rfl, hb⟩; refine ⟨_, rfl, ?_⟩; have n0_ := Aside0.mk (blk_below (bY BK301.out) hb); have n1_ := Aside0.mk (blk_below (bY BK302.out) hb); have n2_ := Aside0.mk (below_step (by repeat (first | (with_reducible first | exact HB.out | apply below_alloc | apply pw_below_drewN | apply below_drew1 | refine below_set ?_ GE301.out | refine below_set ?_ GE302.out) | exact HB.out)) hb); clear BK301; clear BK302; clear HB; have BK301 := n0_; have BK302 := n1_; have HB := n2_; clear n0_ n1_ n2_; (try clear hb); (try clear hb2); (try clear hk); (try clear hi)))
  go_ret
  exact ⟨by first | rfl | (simp [errW_none, errW_some] <;> rfl) | (simp [*, errW_none, errW_some] <;> rfl), by repeat (first | (with_reducible first | exact HB.out | apply below_alloc | apply pw_below_drewN | apply below_drew1 | refine below_set ?_ GE301.out | refine below_set ?_ GE302.out) | exact HB.out)⟩
 rw [if_neg c4] at H
 have c4b0 : decide (t303 < 0) = false := decide_eq_false c4
 clear c4
 replace H := Option.bind_eq_some_iff.mp H
 obtain ⟨t304, A100, H⟩ := H
 have A10 := Aside0.mk A100
 clear A100
 by_cases c11 : t304 < 0
 ·rw [if_pos c11] at H
  have c11b0 : decide (t304 < 0) = true := decide_eq_true c11
  clear c11
  obtain rfl := Option.some.inj H
  go_enter Try.func12, Try.ntmps12
  go_wp2_with (first | ((with_reducible refine gate_dst (N := 2) rfl ?_); refine box_event ?hg (N := 2) ?hd (cs := #[.slice A0_0 l0_0.length c0_0, .slice A0_1 l0_1.length c0_1]) (t := 24) ?hr ?_; (case hd => rfl); (case hg => rfl); (case hr => first | (go_simp; done) | (go_simp; rfl)); intro gb301 hg w12 hbox hb; have n0_ := Aside0.mk (below_step (beY HB.out) hb); have n1_ := Aside0.mk (hbox); have n2_ := Aside0.mk ((by rw [hg]; exact (below_size (beY HB.out)) : w.heap.size ≤ gb301)); have n3_ := Aside0.mk ((by rw [hg]; exact (below_size (beY HB.out)) : w.heap.size ≤ gb301)); clear HB; have HB := n0_; have BK301 := n1_; have GW301 := n2_; have GE301 := n3_; clear n0_ n1_ n2_ n3_; clear hb hbox hg) | ((with_reducible refine gate_dst (N := 3) rfl ?_); refine box_event ?hg (N := 3) ?hd (cs := #[.int .i64 a1_0, .int .i64 a1_1, .int .i64 a1_2, .int .i64 a1_3, .int .i64 a1_4, .int .i64 a1_5, .int .i64 a1_6, .slice A1_7 l1_7.length c1_7]) (t := 32) ?hr ?_; (case hd => rfl); (case hg => rfl); (case hr => first | (go_simp; done) | (go_simp; rfl)); intro gb302 hg w13 hbox hb; have n0_ := Aside0.mk (blk_below (bY BK301.out) hb); have n1_ := Aside0.mk (below_step (by repeat (first | (with_reducible first | exact HB.out | apply below_alloc | apply pw_below_drewN | apply below_drew1 | refine below_set ?_ GE301.out) | exact HB.out)) hb); have n2_ := Aside0.mk (hbox); have n3_ := Aside0.mk ((by rw [hg]; exact (below_size (by repeat (first | (with_reducible first | exact HB.out | apply below_alloc | apply pw_below_drewN | apply below_drew1 | refine below_set ?_ GE301.out) | exact HB.out))) : w.heap.size ≤ gb302)); have n4_ := Aside0.mk ((by rw [hg]; exact (below_size (by repeat (first | (with_reducible first | exact HB.out | apply below_alloc | apply pw_below_drewN | apply below_drew1 | refine below_set ?_ GE301.out) | exact HB.out))) : w.heap.size ≤ gb302)); have n5_ := Aside0.mk ((by rw [hg]; exact Nat.ne_of_lt (blk_lt (bY BK301.out)) : gb301 ≠ gb302)); have n6_ := Aside0.mk ((by rw [hg]; exact Nat.ne_of_gt (blk_lt (bY BK301.out)) : gb302 ≠ gb301)); clear BK301; clear HB; have BK301 := n0_; have HB := n1_; have BK302 := n2_; have GW302 := n3_; have GE302 := n4_; have NB301_302 := n5_; have NB302_301 := n6_; clear n0_ n1_ n2_ n3_ n4_ n5_ n6_; clear hb hbox hg; have hnb14 := NB301_302.out; have hnc14 := NB302_301.out; have hcz15_0 : w13.cell? ⟨gb301, 0, none⟩ = some (.slice A0_0 l0_0.length c0_0) := (blk_cell BK301.out 0).trans rfl; have hcz15_1 : w13.cell? ⟨gb301, 1, none⟩ = some (.slice A0_1 l0_1.length c0_1) := (blk_cell BK301.out 1).trans rfl; have hfz15_0 := blk_frozen BK301.out 0; have hfz15_1 := blk_frozen BK301.out 1) | ((with_reducible refine gate_callee (f := 15) rfl ?_); refine goesL_ (some 19) rfl rfl Try.func15 (by kernel_rfl) rfl #[.agg #[.slice A0_0 l0_0.length c0_0, .slice A0_1 l0_1.length c0_1], .int .i64 1048576] rfl (by (try simp only [List.map_toArray, List.map_cons, List.map_nil]); first | done | rfl) ?_; (with_reducible refine (laws_szCredits.calls _ _ l0_0 _ _ l0_1 1048576 t303 _ ?side1 ?side2 ?side3 ?side4 A3.out).mono ?_); (case side1 => exact cY ((Kd.C_below HR0_0.out HB.out))); (case side2 => exact HC0_0.out); (case side3 => exact cY ((Kd.C_below HR0_1.out HB.out))); (case side4 => exact HC0_1.out); rintro e w16 ⟨rfl, hb⟩; refine ⟨_, rfl, ?_⟩; have n0_ := Aside0.mk (blk_below (bY BK301.out) hb); have n1_ := Aside0.mk (blk_below (bY BK302.out) hb); have n2_ := Aside0.mk (below_step (by repeat (first | (with_reducible first | exact HB.out | apply below_alloc | apply pw_below_drewN | apply below_drew1 | refine below_set ?_ GE301.out | refine below_set ?_ GE302.out) | exact HB.out)) hb); clear BK301; clear BK302; clear HB; have BK301 := n0_; have BK302 := n1_; have HB := n2_; clear n0_ n1_ n2_; (try clear hb); (try clear hb2); (try clear hk); (try clear hi); have hcz17_0 : w16.cell? ⟨gb302, 0, none⟩ = some (.int .i64 a1_0) := (blk_cell BK302.out 0).trans rfl; have hcz17_1 : w16.cell? ⟨gb302, 1, none⟩ = some (.int .i64 a1_1) := (blk_cell BK302.out 1).trans rfl; have hcz17_2 : w16.cell? ⟨gb302, 2, none⟩ = some (.int .i64 a1_2) := (blk_cell BK302.out 2).trans rfl; have hcz17_3 : w16.cell? ⟨gb302, 3, none⟩ = some (.int .i64 a1_3) := (blk_cell BK302.out 3).trans rfl; have hcz17_4 : w16.cell? ⟨gb302, 4, none⟩ = some (.int .i64 a1_4) := (blk_cell BK302.out 4).trans rfl; have hcz17_5 : w16.cell? ⟨gb302, 5, none⟩ = some (.int .i64 a1_5) := (blk_cell BK302.out 5).trans rfl; have hcz17_6 : w16.cell? ⟨gb302, 6, none⟩ = some (.int .i64 a1_6) := (blk_cell BK302.out 6).trans rfl; have hcz17_7 : w16.cell? ⟨gb302, 7, none⟩ = some (.slice A1_7 l1_7.length c1_7) := (blk_cell BK302.out 7).trans rfl; have hfz17_0 := blk_frozen BK302.out 0; have hfz17_1 := blk_frozen BK302.out 1; have hfz17_2 := blk_frozen BK302.out 2; have hfz17_3 := blk_frozen BK302.out 3; have hfz17_4 := blk_frozen BK302.out 4; have hfz17_5 := blk_frozen BK302.out 5; have hfz17_6 := blk_frozen BK302.out 6; have hfz17_7 := blk_frozen BK302.out 7) | ((with_reducible refine gate_callee (f := 20) rfl ?_); refine goesL_ (some 24) rfl rfl Try.func20 (by kernel_rfl) rfl #[.agg #[.int .i64 a1_0, .int .i64 a1_1, .int .i64 a1_2, .int .i64 a1_3, .int .i64 a1_4, .int .i64 a1_5, .int .i64 a1_6, .slice A1_7 l1_7.length c1_7], .int .i64 t303] rfl (by (try simp only [List.map_toArray, List.map_cons, List.map_nil]); first | done | rfl) ?_; (with_reducible refine (laws_szPacket.calls a1_0 a1_1 a1_2 a1_3 a1_4 a1_5 a1_6 _ _ l1_7 t303 t304 _ ?side1 ?side2 A10.out).mono ?_); (case side1 => exact cY ((Kd.C_below HR1_7.out HB.out))); (case side2 => exact HC1_7.out); rintro e w18 ⟨rfl, hb⟩; refine ⟨_, rfl, ?_⟩; have n0_ := Aside0.mk (blk_below (bY BK301.out) hb); have n1_ := Aside0.mk (blk_below (bY BK302.out) hb); have n2_ := Aside0.mk (below_step (by repeat (first | (with_reducible first | exact HB.out | apply below_alloc | apply pw_below_drewN | apply below_drew1 | refine below_set ?_ GE301.out | refine below_set ?_ GE302.out) | exact HB.out)) hb); clear BK301; clear BK302; clear HB; have BK301 := n0_; have BK302 := n1_; have HB := n2_; clear n0_ n1_ n2_; (try clear hb); (try clear hb2); (try clear hk); (try clear hi)))
  go_ret
  exact ⟨by first | rfl | (simp [errW_none, errW_some] <;> rfl) | (simp [*, errW_none, errW_some] <;> rfl), by repeat (first | (with_reducible first | exact HB.out | apply below_alloc | apply pw_below_drewN | apply below_drew1 | refine below_set ?_ GE301.out | refine below_set ?_ GE302.out) | exact HB.out)⟩
 rw [if_neg c11] at H
 have c11b0 : decide (t304 < 0) = false := decide_eq_false c11
 clear c11
 replace H := Option.bind_eq_some_iff.mp H
 obtain ⟨⟨t305, t308⟩, A190, H⟩ := H
 replace H : ((laws_toPacket.f k a1_0 a1_1 a1_2 a1_3 a1_4 a1_5 a1_6 l1_7).bind fun bt311 => ((spec_ReturnCredits.f k t305 t308 bt311.1 bt311.2.1 bt311.2.2.1 bt311.2.2.2.1 bt311.2.2.2.2.1 bt311.2.2.2.2.2.1 bt311.2.2.2.2.2.2.1 bt311.2.2.2.2.2.2.2).bind fun bt321 => ((laws_toCredits.f k l0_0 l0_1).bind fun bt329 => ((laws_toPacket.f k a1_0 a1_1 a1_2 a1_3 a1_4 a1_5 a1_6 l1_7).bind fun bt336 => ((impl_ReturnCredits.f k bt329.1 bt329.2 bt336.1 bt336.2.1 bt336.2.2.1 bt336.2.2.2.1 bt336.2.2.2.2.1 bt336.2.2.2.2.2.1 bt336.2.2.2.2.2.2.1 bt336.2.2.2.2.2.2.2).bind fun bt347 => ((laws_eqCredits.f k bt347.1 bt347.2.1 bt321.1 bt321.2.1).bind fun t355 => (if t355 = true then (laws_FnExactReturnCredits.j0 k bt321.2.2 bt347.2.2 (bt347.2.2 != bt321.2.2) l0_0 l0_1 a1_0 a1_1 a1_2 a1_3 a1_4 a1_5 a1_6 l1_7 bt321.1 bt321.2.1 bt329.1 bt329.2 bt336.1 bt336.2.1 bt336.2.2.1 bt336.2.2.2.1 bt336.2.2.2.2.1 bt336.2.2.2.2.2.1 bt336.2.2.2.2.2.2.1 bt336.2.2.2.2.2.2.2 bt347.1 bt347.2.1) else (laws_FnExactReturnCredits.j0 k bt321.2.2 bt347.2.2 true l0_0 l0_1 a1_0 a1_1 a1_2 a1_3 a1_4 a1_5 a1_6 l1_7 bt321.1 bt321.2.1 bt329.1 bt329.2 bt336.1 bt336.2.1 bt336.2.2.1 bt336.2.2.2.1 bt336.2.2.2.2.1 bt336.2.2.2.2.2.1 bt336.2.2.2.2.2.2.1 bt336.2.2.2.2.2.2.2 bt347.1 bt347.2.1)))))))) = some r := H
 have A19 := Aside0.mk A190
 clear A190
 replace H := Option.bind_eq_some_iff.mp H
 obtain ⟨⟨t311, t312, t313, t314, t315, t316, t317, t318⟩, A200, H⟩ := H
 replace H : ((spec_ReturnCredits.f k t305 t308 t311 t312 t313 t314 t315 t316 t317 t318).bind fun bt321 => ((laws_toCredits.f k l0_0 l0_1).bind fun bt329 => ((laws_toPacket.f k a1_0 a1_1 a1_2 a1_3 a1_4 a1_5 a1_6 l1_7).bind fun bt336 => ((impl_ReturnCredits.f k bt329.1 bt329.2 bt336.1 bt336.2.1 bt336.2.2.1 bt336.2.2.2.1 bt336.2.2.2.2.1 bt336.2.2.2.2.2.1 bt336.2.2.2.2.2.2.1 bt336.2.2.2.2.2.2.2).bind fun bt347 => ((laws_eqCredits.f k bt347.1 bt347.2.1 bt321.1 bt321.2.1).bind fun t355 => (if t355 = true then (laws_FnExactReturnCredits.j0 k bt321.2.2 bt347.2.2 (bt347.2.2 != bt321.2.2) l0_0 l0_1 a1_0 a1_1 a1_2 a1_3 a1_4 a1_5 a1_6 l1_7 bt321.1 bt321.2.1 bt329.1 bt329.2 bt336.1 bt336.2.1 bt336.2.2.1 bt336.2.2.2.1 bt336.2.2.2.2.1 bt336.2.2.2.2.2.1 bt336.2.2.2.2.2.2.1 bt336.2.2.2.2.2.2.2 bt347.1 bt347.2.1) else (laws_FnExactReturnCredits.j0 k bt321.2.2 bt347.2.2 true l0_0 l0_1 a1_0 a1_1 a1_2 a1_3 a1_4 a1_5 a1_6 l1_7 bt321.1 bt321.2.1 bt329.1 bt329.2 bt336.1 bt336.2.1 bt336.2.2.1 bt336.2.2.2.1 bt336.2.2.2.2.1 bt336.2.2.2.2.2.1 bt336.2.2.2.2.2.2.1 bt336.2.2.2.2.2.2.2 bt347.1 bt347.2.1))))))) = some r := H
 have A20 := Aside0.mk A200
 clear A200
 replace H := Option.bind_eq_some_iff.mp H
 obtain ⟨⟨t321, t324, t327⟩, A210, H⟩ := H
 replace H : ((laws_toCredits.f k l0_0 l0_1).bind fun bt329 => ((laws_toPacket.f k a1_0 a1_1 a1_2 a1_3 a1_4 a1_5 a1_6 l1_7).bind fun bt336 => ((impl_ReturnCredits.f k bt329.1 bt329.2 bt336.1 bt336.2.1 bt336.2.2.1 bt336.2.2.2.1 bt336.2.2.2.2.1 bt336.2.2.2.2.2.1 bt336.2.2.2.2.2.2.1 bt336.2.2.2.2.2.2.2).bind fun bt347 => ((laws_eqCredits.f k bt347.1 bt347.2.1 t321 t324).bind fun t355 => (if t355 = true then (laws_FnExactReturnCredits.j0 k t327 bt347.2.2 (bt347.2.2 != t327) l0_0 l0_1 a1_0 a1_1 a1_2 a1_3 a1_4 a1_5 a1_6 l1_7 t321 t324 bt329.1 bt329.2 bt336.1 bt336.2.1 bt336.2.2.1 bt336.2.2.2.1 bt336.2.2.2.2.1 bt336.2.2.2.2.2.1 bt336.2.2.2.2.2.2.1 bt336.2.2.2.2.2.2.2 bt347.1 bt347.2.1) else (laws_FnExactReturnCredits.j0 k t327 bt347.2.2 true l0_0 l0_1 a1_0 a1_1 a1_2 a1_3 a1_4 a1_5 a1_6 l1_7 t321 t324 bt329.1 bt329.2 bt336.1 bt336.2.1 bt336.2.2.1 bt336.2.2.2.1 bt336.2.2.2.2.1 bt336.2.2.2.2.2.1 bt336.2.2.2.2.2.2.1 bt336.2.2.2.2.2.2.2 bt347.1 bt347.2.1)))))) = some r := H
 have A21 := Aside0.mk A210
 clear A210
 replace H := Option.bind_eq_some_iff.mp H
 obtain ⟨⟨t329, t332⟩, A220, H⟩ := H
 replace H : ((laws_toPacket.f k a1_0 a1_1 a1_2 a1_3 a1_4 a1_5 a1_6 l1_7).bind fun bt336 => ((impl_ReturnCredits.f k t329 t332 bt336.1 bt336.2.1 bt336.2.2.1 bt336.2.2.2.1 bt336.2.2.2.2.1 bt336.2.2.2.2.2.1 bt336.2.2.2.2.2.2.1 bt336.2.2.2.2.2.2.2).bind fun bt347 => ((laws_eqCredits.f k bt347.1 bt347.2.1 t321 t324).bind fun t355 => (if t355 = true then (laws_FnExactReturnCredits.j0 k t327 bt347.2.2 (bt347.2.2 != t327) l0_0 l0_1 a1_0 a1_1 a1_2 a1_3 a1_4 a1_5 a1_6 l1_7 t321 t324 t329 t332 bt336.1 bt336.2.1 bt336.2.2.1 bt336.2.2.2.1 bt336.2.2.2.2.1 bt336.2.2.2.2.2.1 bt336.2.2.2.2.2.2.1 bt336.2.2.2.2.2.2.2 bt347.1 bt347.2.1) else (laws_FnExactReturnCredits.j0 k t327 bt347.2.2 true l0_0 l0_1 a1_0 a1_1 a1_2 a1_3 a1_4 a1_5 a1_6 l1_7 t321 t324 t329 t332 bt336.1 bt336.2.1 bt336.2.2.1 bt336.2.2.2.1 bt336.2.2.2.2.1 bt336.2.2.2.2.2.1 bt336.2.2.2.2.2.2.1 bt336.2.2.2.2.2.2.2 bt347.1 bt347.2.1))))) = some r := H
 have A22 := Aside0.mk A220
 clear A220
 replace H := Option.bind_eq_some_iff.mp H
 obtain ⟨⟨t336, t337, t338, t339, t340, t341, t342, t343⟩, A230, H⟩ := H
 replace H : ((impl_ReturnCredits.f k t329 t332 t336 t337 t338 t339 t340 t341 t342 t343).bind fun bt347 => ((laws_eqCredits.f k bt347.1 bt347.2.1 t321 t324).bind fun t355 => (if t355 = true then (laws_FnExactReturnCredits.j0 k t327 bt347.2.2 (bt347.2.2 != t327) l0_0 l0_1 a1_0 a1_1 a1_2 a1_3 a1_4 a1_5 a1_6 l1_7 t321 t324 t329 t332 t336 t337 t338 t339 t340 t341 t342 t343 bt347.1 bt347.2.1) else (laws_FnExactReturnCredits.j0 k t327 bt347.2.2 true l0_0 l0_1 a1_0 a1_1 a1_2 a1_3 a1_4 a1_5 a1_6 l1_7 t321 t324 t329 t332 t336 t337 t338 t339 t340 t341 t342 t343 bt347.1 bt347.2.1)))) = some r := H
 have A23 := Aside0.mk A230
 clear A230
 replace H := Option.bind_eq_some_iff.mp H
 obtain ⟨⟨t347, t350, t353⟩, A240, H⟩ := H
 replace H : ((laws_eqCredits.f k t347 t350 t321 t324).bind fun t355 => (if t355 = true then (laws_FnExactReturnCredits.j0 k t327 t353 (t353 != t327) l0_0 l0_1 a1_0 a1_1 a1_2 a1_3 a1_4 a1_5 a1_6 l1_7 t321 t324 t329 t332 t336 t337 t338 t339 t340 t341 t342 t343 t347 t350) else (laws_FnExactReturnCredits.j0 k t327 t353 true l0_0 l0_1 a1_0 a1_1 a1_2 a1_3 a1_4 a1_5 a1_6 l1_7 t321 t324 t329 t332 t336 t337 t338 t339 t340 t341 t342 t343 t347 t350))) = some r := H
 have A24 := Aside0.mk A240
 clear A240
 have HC25 := Aside0.mk H
 clear H
 go_enter Try.func12, Try.ntmps12
 try go_wp2_with (first | ((with_reducible refine gate_dst (N := 2) rfl ?_); refine box_event ?hg (N := 2) ?hd (cs := #[.slice A0_0 l0_0.length c0_0, .slice A0_1 l0_1.length c0_1]) (t := 24) ?hr ?_; (case hd => rfl); (case hg => rfl); (case hr => first | (go_simp; done) | (go_simp; rfl)); intro gb301 hg w26 hbox hb; have n0_ := Aside0.mk (below_step (beY HB.out) hb); have n1_ := Aside0.mk (hbox); have n2_ := Aside0.mk ((by rw [hg]; exact (below_size (beY HB.out)) : w.heap.size ≤ gb301)); have n3_ := Aside0.mk ((by rw [hg]; exact (below_size (beY HB.out)) : w.heap.size ≤ gb301)); clear HB; have HB := n0_; have BK301 := n1_; have GW301 := n2_; have GE301 := n3_; clear n0_ n1_ n2_ n3_; clear hb hbox hg) | ((with_reducible refine gate_dst (N := 3) rfl ?_); refine box_event ?hg (N := 3) ?hd (cs := #[.int .i64 a1_0, .int .i64 a1_1, .int .i64 a1_2, .int .i64 a1_3, .int .i64 a1_4, .int .i64 a1_5, .int .i64 a1_6, .slice A1_7 l1_7.length c1_7]) (t := 32) ?hr ?_; (case hd => rfl); (case hg => rfl); (case hr => first | (go_simp; done) | (go_simp; rfl)); intro gb302 hg w27 hbox hb; have n0_ := Aside0.mk (blk_below (bY BK301.out) hb); have n1_ := Aside0.mk (below_step (by repeat (first | (with_reducible first | exact HB.out | apply below_alloc | apply pw_below_drewN | apply below_drew1 | refine below_set ?_ GE301.out) | exact HB.out)) hb); have n2_ := Aside0.mk (hbox); have n3_ := Aside0.mk ((by rw [hg]; exact (below_size (by repeat (first | (with_reducible first | exact HB.out | apply below_alloc | apply pw_below_drewN | apply below_drew1 | refine below_set ?_ GE301.out) | exact HB.out))) : w.heap.size ≤ gb302)); have n4_ := Aside0.mk ((by rw [hg]; exact (below_size (by repeat (first | (with_reducible first | exact HB.out | apply below_alloc | apply pw_below_drewN | apply below_drew1 | refine below_set ?_ GE301.out) | exact HB.out))) : w.heap.size ≤ gb302)); have n5_ := Aside0.mk ((by rw [hg]; exact Nat.ne_of_lt (blk_lt (bY BK301.out)) : gb301 ≠ gb302)); have n6_ := Aside0.mk ((by rw [hg]; exact Nat.ne_of_gt (blk_lt (bY BK301.out)) : gb302 ≠ gb301)); clear BK301; clear HB; have BK301 := n0_; have HB := n1_; have BK302 := n2_; have GW302 := n3_; have GE302 := n4_; have NB301_302 := n5_; have NB302_301 := n6_; clear n0_ n1_ n2_ n3_ n4_ n5_ n6_; clear hb hbox hg; have hnb28 := NB301_302.out; have hnc28 := NB302_301.out; have hcz29_0 : w27.cell? ⟨gb301, 0, none⟩ = some (.slice A0_0 l0_0.length c0_0) := (blk_cell BK301.out 0).trans rfl; have hcz29_1 : w27.cell? ⟨gb301, 1, none⟩ = some (.slice A0_1 l0_1.length c0_1) := (blk_cell BK301.out 1).trans rfl; have hfz29_0 := blk_frozen BK301.out 0; have hfz29_1 := blk_frozen BK301.out 1) | ((with_reducible refine gate_callee (f := 15) rfl ?_); refine goesL_ (some 19) rfl rfl Try.func15 (by kernel_rfl) rfl #[.agg #[.slice A0_0 l0_0.length c0_0, .slice A0_1 l0_1.length c0_1], .int .i64 1048576] rfl (by (try simp only [List.map_toArray, List.map_cons, List.map_nil]); first | done | rfl) ?_; (with_reducible refine (laws_szCredits.calls _ _ l0_0 _ _ l0_1 1048576 t303 _ ?side1 ?side2 ?side3 ?side4 A3.out).mono ?_); (case side1 => exact cY ((Kd.C_below HR0_0.out HB.out))); (case side2 => exact HC0_0.out); (case side3 => exact cY ((Kd.C_below HR0_1.out HB.out))); (case side4 => exact HC0_1.out); rintro e w30 ⟨rfl, hb⟩; refine ⟨_, rfl, ?_⟩; have n0_ := Aside0.mk (blk_below (bY BK301.out) hb); have n1_ := Aside0.mk (blk_below (bY BK302.out) hb); have n2_ := Aside0.mk (below_step (by repeat (first | (with_reducible first | exact HB.out | apply below_alloc | apply pw_below_drewN | apply below_drew1 | refine below_set ?_ GE301.out | refine below_set ?_ GE302.out) | exact HB.out)) hb); clear BK301; clear BK302; clear HB; have BK301 := n0_; have BK302 := n1_; have HB := n2_; clear n0_ n1_ n2_; (try clear hb); (try clear hb2); (try clear hk); (try clear hi); have hcz31_0 : w30.cell? ⟨gb302, 0, none⟩ = some (.int .i64 a1_0) := (blk_cell BK302.out 0).trans rfl; have hcz31_1 : w30.cell? ⟨gb302, 1, none⟩ = some (.int .i64 a1_1) := (blk_cell BK302.out 1).trans rfl; have hcz31_2 : w30.cell? ⟨gb302, 2, none⟩ = some (.int .i64 a1_2) := (blk_cell BK302.out 2).trans rfl; have hcz31_3 : w30.cell? ⟨gb302, 3, none⟩ = some (.int .i64 a1_3) := (blk_cell BK302.out 3).trans rfl; have hcz31_4 : w30.cell? ⟨gb302, 4, none⟩ = some (.int .i64 a1_4) := (blk_cell BK302.out 4).trans rfl; have hcz31_5 : w30.cell? ⟨gb302, 5, none⟩ = some (.int .i64 a1_5) := (blk_cell BK302.out 5).trans rfl; have hcz31_6 : w30.cell? ⟨gb302, 6, none⟩ = some (.int .i64 a1_6) := (blk_cell BK302.out 6).trans rfl; have hcz31_7 : w30.cell? ⟨gb302, 7, none⟩ = some (.slice A1_7 l1_7.length c1_7) := (blk_cell BK302.out 7).trans rfl; have hfz31_0 := blk_frozen BK302.out 0; have hfz31_1 := blk_frozen BK302.out 1; have hfz31_2 := blk_frozen BK302.out 2; have hfz31_3 := blk_frozen BK302.out 3; have hfz31_4 := blk_frozen BK302.out 4; have hfz31_5 := blk_frozen BK302.out 5; have hfz31_6 := blk_frozen BK302.out 6; have hfz31_7 := blk_frozen BK302.out 7) | ((with_reducible refine gate_callee (f := 20) rfl ?_); refine goesL_ (some 24) rfl rfl Try.func20 (by kernel_rfl) rfl #[.agg #[.int .i64 a1_0, .int .i64 a1_1, .int .i64 a1_2, .int .i64 a1_3, .int .i64 a1_4, .int .i64 a1_5, .int .i64 a1_6, .slice A1_7 l1_7.length c1_7], .int .i64 t303] rfl (by (try simp only [List.map_toArray, List.map_cons, List.map_nil]); first | done | rfl) ?_; (with_reducible refine (laws_szPacket.calls a1_0 a1_1 a1_2 a1_3 a1_4 a1_5 a1_6 _ _ l1_7 t303 t304 _ ?side1 ?side2 A10.out).mono ?_); (case side1 => exact cY ((Kd.C_below HR1_7.out HB.out))); (case side2 => exact HC1_7.out); rintro e w32 ⟨rfl, hb⟩; refine ⟨_, rfl, ?_⟩; have n0_ := Aside0.mk (blk_below (bY BK301.out) hb); have n1_ := Aside0.mk (blk_below (bY BK302.out) hb); have n2_ := Aside0.mk (below_step (by repeat (first | (with_reducible first | exact HB.out | apply below_alloc | apply pw_below_drewN | apply below_drew1 | refine below_set ?_ GE301.out | refine below_set ?_ GE302.out) | exact HB.out)) hb); clear BK301; clear BK302; clear HB; have BK301 := n0_; have BK302 := n1_; have HB := n2_; clear n0_ n1_ n2_; (try clear hb); (try clear hb2); (try clear hk); (try clear hi)))
 have n0_ := Aside0.mk (blk_drew BK301.out)
 have n1_ := Aside0.mk (blk_drew BK302.out)
 have n2_ := Aside0.mk (below_drew1 HB.out)
 clear BK301
 clear BK302
 clear HB
 have BK301 := n0_
 have BK302 := n1_
 have HB := n2_
 clear n0_ n1_ n2_
 refine start_ (n := 11) (S := fun w' => w'.cell? ⟨gb301, 0, none⟩ = some (.slice A0_0 l0_0.length c0_0) ∧ w'.cell? ⟨gb301, 1, none⟩ = some (.slice A0_1 l0_1.length c0_1) ∧ w'.cell? ⟨gb302, 0, none⟩ = some (.int .i64 a1_0) ∧ w'.cell? ⟨gb302, 1, none⟩ = some (.int .i64 a1_1) ∧ w'.cell? ⟨gb302, 2, none⟩ = some (.int .i64 a1_2) ∧ w'.cell? ⟨gb302, 3, none⟩ = some (.int .i64 a1_3) ∧ w'.cell? ⟨gb302, 4, none⟩ = some (.int .i64 a1_4) ∧ w'.cell? ⟨gb302, 5, none⟩ = some (.int .i64 a1_5) ∧ w'.cell? ⟨gb302, 6, none⟩ = some (.int .i64 a1_6) ∧ w'.cell? ⟨gb302, 7, none⟩ = some (.slice A1_7 l1_7.length c1_7)) (ds := []) #[F, F, F, F, F, F, F, F, F, F, F] (by kernel_rfl) rfl rfl ⟨(blk_cell BK301.out 0).trans rfl, (blk_cell BK301.out 1).trans rfl, (blk_cell BK302.out 0).trans rfl, (blk_cell BK302.out 1).trans rfl, (blk_cell BK302.out 2).trans rfl, (blk_cell BK302.out 3).trans rfl, (blk_cell BK302.out 4).trans rfl, (blk_cell BK302.out 5).trans rfl, (blk_cell BK302.out 6).trans rfl, (blk_cell BK302.out 7).trans rfl⟩ (fun hHeld => ?_); refine with_tabW laws_FnExactReturnCredits.tab8 laws_FnExactReturnCredits.bits8 (fun HT_ HW_ => ?_)
 generalize w32.drew = w33 at BK301 BK302 HB hHeld ⊢
 refine take_ (i := 0) (N := some 28) (v := ?_) (a' := ?_) #[T, F, F, F, F, F, F, F, F, F, F] rfl rfl (take_ofW HT_.out HW_.out (by kernel_rfl)) (fun _ _ _ h => h) (Or.inl ⟨by rfl, ?_⟩) hHeld ?_ ?_
 rotate_left
 ·rintro w' ⟨s0, s1, s2, s3, s4, s5, s6, s7, s8, s9⟩
  go_simp
  with_reducible rfl
 rotate_left
 ·simp only [pS]
  rfl
 refine take_ (i := 2) (N := some 30) (v := ?_) (a' := ?_) #[T, F, T, F, F, F, F, F, F, F, F] rfl rfl (take_ofW HT_.out HW_.out (by kernel_rfl)) (fun _ _ _ h => h) (Or.inl ⟨by rfl, ?_⟩) hHeld ?_ ?_
 rotate_left
 ·rintro w' ⟨s0, s1, s2, s3, s4, s5, s6, s7, s8, s9⟩
  go_simp
  with_reducible rfl
 rotate_left
 ·simp only [pS]
  rfl
 refine join_ (σ := Value × Value × Value × Value × Value × Nat) 2 #[T, T, T, T, T, T, T, T, T, F, F] (fun s_ => [(29, .agg #[s_.1, s_.2.1]), (31, .agg #[.int .i64 t311, .int .i64 t312, .int .i64 t313, .int .i64 t314, .int .i64 t315, .int .i64 t316, .int .i64 t317, s_.2.2.1]), (32, .tuple #[.agg #[s_.2.2.2.1, s_.2.2.2.2.1], .bool t327]), (6, .pointer (some ⟨s_.2.2.2.2.2, 0, none⟩)), (27, .tuple #[.agg #[s_.2.2.2.1, s_.2.2.2.2.1], .bool t327]), (33, .agg #[s_.2.2.2.1, s_.2.2.2.2.1]), (34, .bool t327)]) (fun s_ w' => (w'.cell? ⟨gb301, 0, none⟩ = some (.slice A0_0 l0_0.length c0_0) ∧ w'.cell? ⟨gb301, 1, none⟩ = some (.slice A0_1 l0_1.length c0_1) ∧ w'.cell? ⟨gb302, 0, none⟩ = some (.int .i64 a1_0) ∧ w'.cell? ⟨gb302, 1, none⟩ = some (.int .i64 a1_1) ∧ w'.cell? ⟨gb302, 2, none⟩ = some (.int .i64 a1_2) ∧ w'.cell? ⟨gb302, 3, none⟩ = some (.int .i64 a1_3) ∧ w'.cell? ⟨gb302, 4, none⟩ = some (.int .i64 a1_4) ∧ w'.cell? ⟨gb302, 5, none⟩ = some (.int .i64 a1_5) ∧ w'.cell? ⟨gb302, 6, none⟩ = some (.int .i64 a1_6) ∧ w'.cell? ⟨gb302, 7, none⟩ = some (.slice A1_7 l1_7.length c1_7)) ∧ (Kd.R (Kd.int .i64) 3 w' w.heap.size (fun k_ => some k_ ≠ (s_.2.1 : Value).ownBlock ∧ some k_ ≠ (s_.2.2.1 : Value).ownBlock ∧ some k_ ≠ (s_.2.2.2.1 : Value).ownBlock ∧ some k_ ≠ (s_.2.2.2.2.1 : Value).ownBlock) s_.1 t305) ∧ (Kd.R (Kd.int .i64) 3 w' w.heap.size (fun k_ => some k_ ≠ (s_.1 : Value).ownBlock ∧ some k_ ≠ (s_.2.2.1 : Value).ownBlock ∧ some k_ ≠ (s_.2.2.2.1 : Value).ownBlock ∧ some k_ ≠ (s_.2.2.2.2.1 : Value).ownBlock) s_.2.1 t308) ∧ (Kd.R (Kd.int .i64) 3 w' w.heap.size (fun k_ => some k_ ≠ (s_.1 : Value).ownBlock ∧ some k_ ≠ (s_.2.1 : Value).ownBlock ∧ some k_ ≠ (s_.2.2.2.1 : Value).ownBlock ∧ some k_ ≠ (s_.2.2.2.2.1 : Value).ownBlock) s_.2.2.1 t318) ∧ (Kd.R (Kd.int .i64) 3 w' w.heap.size (fun k_ => some k_ ≠ (s_.1 : Value).ownBlock ∧ some k_ ≠ (s_.2.1 : Value).ownBlock ∧ some k_ ≠ (s_.2.2.1 : Value).ownBlock ∧ some k_ ≠ (s_.2.2.2.2.1 : Value).ownBlock) s_.2.2.2.1 t321) ∧ (Kd.R (Kd.int .i64) 3 w' w.heap.size (fun k_ => some k_ ≠ (s_.1 : Value).ownBlock ∧ some k_ ≠ (s_.2.1 : Value).ownBlock ∧ some k_ ≠ (s_.2.2.1 : Value).ownBlock ∧ some k_ ≠ (s_.2.2.2.1 : Value).ownBlock) s_.2.2.2.2.1 t324) ∧ (w'.heap[gb301]? = some (.cells #[.slice A0_0 l0_0.length c0_0, .slice A0_1 l0_1.length c0_1] 24 (0, 0))) ∧ (w'.heap[gb302]? = some (.cells #[.int .i64 a1_0, .int .i64 a1_1, .int .i64 a1_2, .int .i64 a1_3, .int .i64 a1_4, .int .i64 a1_5, .int .i64 a1_6, .slice A1_7 l1_7.length c1_7] 32 (0, 0))) ∧ (w'.heap[s_.2.2.2.2.2]? = some (.cells #[.slice none 0 0, .slice none 0 0] 27 (0, 0))) ∧ (w.heap.size ≤ s_.2.2.2.2.2) ∧ (w.heap.size ≤ s_.2.2.2.2.2) ∧ (gb301 ≠ s_.2.2.2.2.2) ∧ (s_.2.2.2.2.2 ≠ gb301) ∧ (gb302 ≠ s_.2.2.2.2.2) ∧ (s_.2.2.2.2.2 ≠ gb302) ∧ (Below w.heap.size w w')) ?_ ?_
 rotate_left
 ·intro hCont
  refine two_ (i := 1) (j := 8) (Ni := some 29) (Nj := some 6) #[T, T, T, F, F, F, F, F, F, F, F] #[T, F, T, F, F, F, F, F, T, F, F] rfl rfl rfl rfl (two_of HT_.out (by kernel_rfl)) (by decide) (by decide) (fun K hK => ?_) (fun K hK => ?_)
  ·skip
   refine goes_ Try.func17 (by kernel_rfl) rfl #[.agg #[.slice A0_0 l0_0.length c0_0, .slice A0_1 l0_1.length c0_1]] (by rfl) rfl rfl (by (try simp only [List.map_toArray, List.map_cons, List.map_nil]); first | done | rfl) ?_
   with_reducible refine (laws_toCredits.calls k _ _ l0_0 _ _ l0_1 t305 t308 _ ?side1 ?side2 ?side3 ?side4 A19.out).mono ?_
   (case side1 => exact cY ((Kd.C_below HR0_0.out HB.out)))
   (case side2 => exact HC0_0.out)
   (case side3 => exact cY ((Kd.C_below HR0_1.out HB.out)))
   (case side4 => exact HC0_1.out)
   rintro e w34 ⟨v306, v309, rfl, ho0, ho1, hb⟩
   refine ⟨_, rfl, ?_⟩
   have n0_ := Aside0.mk (Kd.R_lower ho0 (below_size (by repeat (first | (with_reducible first | exact HB.out | apply below_alloc | apply pw_below_drewN | apply below_drew1 | refine below_set ?_ GE301.out | refine below_set ?_ GE302.out) | exact HB.out))))
   have n1_ := Aside0.mk (Kd.R_lower ho1 (below_size (by repeat (first | (with_reducible first | exact HB.out | apply below_alloc | apply pw_below_drewN | apply below_drew1 | refine below_set ?_ GE301.out | refine below_set ?_ GE302.out) | exact HB.out))))
   have n2_ := Aside0.mk (blk_below (bY BK301.out) hb)
   have n3_ := Aside0.mk (blk_below (bY BK302.out) hb)
   have n4_ := Aside0.mk (below_step (by repeat (first | (with_reducible first | exact HB.out | apply below_alloc | apply pw_below_drewN | apply below_drew1 | refine below_set ?_ GE301.out | refine below_set ?_ GE302.out) | exact HB.out)) hb)
   clear BK301
   clear BK302
   clear HB
   have HO307 := n0_
   have HO310 := n1_
   have BK301 := n2_
   have BK302 := n3_
   have HB := n4_
   clear n0_ n1_ n2_ n3_ n4_
   refine hK.out _ _ ⟨(blk_cell BK301.out 0).trans rfl, (blk_cell BK301.out 1).trans rfl, (blk_cell BK302.out 0).trans rfl, (blk_cell BK302.out 1).trans rfl, (blk_cell BK302.out 2).trans rfl, (blk_cell BK302.out 3).trans rfl, (blk_cell BK302.out 4).trans rfl, (blk_cell BK302.out 5).trans rfl, (blk_cell BK302.out 6).trans rfl, (blk_cell BK302.out 7).trans rfl⟩ (fun hHeld => ?_)
   clear hK K
   refine norm_ (a' := ?_) ?_ ?_
   rotate_left
   ·show Act.put _ (some 29) _ = _
    simp only [pS]
    rfl
   refine two_ (i := 3) (j := 8) (Ni := some 31) (Nj := some 6) #[T, T, T, T, F, F, F, F, F, F, F] #[T, T, T, F, F, F, F, F, T, F, F] rfl rfl rfl rfl (two_of HT_.out (by kernel_rfl)) (by decide) (by decide) (fun K hK => ?_) (fun K hK => ?_)
   ·skip
    refine goes_ Try.func22 (by kernel_rfl) rfl #[.agg #[.int .i64 a1_0, .int .i64 a1_1, .int .i64 a1_2, .int .i64 a1_3, .int .i64 a1_4, .int .i64 a1_5, .int .i64 a1_6, .slice A1_7 l1_7.length c1_7]] (by rfl) rfl rfl (by (try simp only [List.map_toArray, List.map_cons, List.map_nil]); first | done | rfl) ?_
    with_reducible refine (laws_toPacket.calls k a1_0 a1_1 a1_2 a1_3 a1_4 a1_5 a1_6 _ _ l1_7 t311 t312 t313 t314 t315 t316 t317 t318 _ ?side1 ?side2 A20.out).mono ?_
    (case side1 => exact cY ((Kd.C_below HR1_7.out HB.out)))
    (case side2 => exact HC1_7.out)
    rintro e w35 ⟨v319, rfl, ho0, hb⟩
    refine ⟨_, rfl, ?_⟩
    have n0_ := Aside0.mk (Kd.R_elder' (rY HO307.out) (Kd.R_base ho0) hb)
    have n1_ := Aside0.mk (Kd.R_elder' (rY HO310.out) (Kd.R_base ho0) hb)
    have n2_ := Aside0.mk (Kd.R_lower (Kd.R_new' (Kd.R_new' ho0 (Kd.R_lt (rY HO307.out))) (Kd.R_lt (rY HO310.out))) (below_size (by repeat (first | (with_reducible first | exact HB.out | apply below_alloc | apply pw_below_drewN | apply below_drew1 | refine below_set ?_ GE301.out | refine below_set ?_ GE302.out) | exact HB.out))))
    have n3_ := Aside0.mk (blk_below (bY BK301.out) hb)
    have n4_ := Aside0.mk (blk_below (bY BK302.out) hb)
    have n5_ := Aside0.mk (below_step (by repeat (first | (with_reducible first | exact HB.out | apply below_alloc | apply pw_below_drewN | apply below_drew1 | refine below_set ?_ GE301.out | refine below_set ?_ GE302.out) | exact HB.out)) hb)
    clear HO307
    clear HO310
    clear BK301
    clear BK302
    clear HB
    have HO307 := n0_
    have HO310 := n1_
    have HO320 := n2_
    have BK301 := n3_
    have BK302 := n4_
    have HB := n5_
    clear n0_ n1_ n2_ n3_ n4_ n5_
    obtain ⟨Ao36, co36, eo36⟩ := Kd.R_slice HO307.out
    (first | subst eo36 | (injection eo36 with f1_ f2_ f3_; have f4_ := f1_.symm; have f5_ := f3_.symm; clear f1_ f2_ f3_; subst f4_; subst f5_))
    obtain ⟨Ao37, co37, eo37⟩ := Kd.R_slice HO310.out
    (first | subst eo37 | (injection eo37 with f1_ f2_ f3_; have f4_ := f1_.symm; have f5_ := f3_.symm; clear f1_ f2_ f3_; subst f4_; subst f5_))
    obtain ⟨Ao38, co38, eo38⟩ := Kd.R_slice HO320.out
    (first | subst eo38 | (injection eo38 with f1_ f2_ f3_; have f4_ := f1_.symm; have f5_ := f3_.symm; clear f1_ f2_ f3_; subst f4_; subst f5_))
    refine hK.out _ _ ⟨(blk_cell BK301.out 0).trans rfl, (blk_cell BK301.out 1).trans rfl, (blk_cell BK302.out 0).trans rfl, (blk_cell BK302.out 1).trans rfl, (blk_cell BK302.out 2).trans rfl, (blk_cell BK302.out 3).trans rfl, (blk_cell BK302.out 4).trans rfl, (blk_cell BK302.out 5).trans rfl, (blk_cell BK302.out 6).trans rfl, (blk_cell BK302.out 7).trans rfl⟩ (fun hHeld => ?_)
    clear hK K
    refine norm_ (a' := ?_) ?_ ?_
    rotate_left
    ·show Act.put _ (some 31) _ = _
     simp only [pS]
     rfl
    refine two_ (i := 4) (j := 8) (Ni := some 32) (Nj := some 6) #[T, T, T, T, T, F, F, F, F, F, F] #[T, T, T, T, F, F, F, F, T, F, F] rfl rfl rfl rfl (two_of HT_.out (by kernel_rfl)) (by decide) (by decide) (fun K hK => ?_) (fun K hK => ?_)
    ·skip
     refine goes_ Try.func56 (by kernel_rfl) rfl #[.agg #[.slice Ao36 t305.length co36, .slice Ao37 t308.length co37], .agg #[.int .i64 t311, .int .i64 t312, .int .i64 t313, .int .i64 t314, .int .i64 t315, .int .i64 t316, .int .i64 t317, .slice Ao38 t318.length co38]] (by rfl) rfl rfl (by (try simp only [List.map_toArray, List.map_cons, List.map_nil]); first | done | rfl) ?_
     with_reducible refine (spec_ReturnCredits.calls k _ _ t305 _ _ t308 t311 t312 t313 t314 t315 t316 t317 _ _ t318 t321 t324 t327 _ ?side1 ?side2 ?side3 ?side4 ?side5 ?side6 A21.out).mono ?_
     (case side1 => exact cY ((Kd.R_reads' HO307.out).2.2))
     (case side2 => exact (Kd.R_reads' HO307.out).2.1)
     (case side3 => exact cY ((Kd.R_reads' HO310.out).2.2))
     (case side4 => exact (Kd.R_reads' HO310.out).2.1)
     (case side5 => exact cY ((Kd.R_reads' HO320.out).2.2))
     (case side6 => exact (Kd.R_reads' HO320.out).2.1)
     rintro e w39 ⟨v322, v325, rfl, ho0, ho1, hb⟩
     refine ⟨_, rfl, ?_⟩
     have n0_ := Aside0.mk (Kd.R_mono (Kd.R_told (Kd.R_told (Kd.R_old (rY HO307.out) hb) (Kd.R_base ho0)) (Kd.R_base ho1)) (fun _ h_ => h_.1))
     have n1_ := Aside0.mk (Kd.R_mono (Kd.R_told (Kd.R_told (Kd.R_old (rY HO310.out) hb) (Kd.R_base ho0)) (Kd.R_base ho1)) (fun _ h_ => h_.1))
     have n2_ := Aside0.mk (Kd.R_mono (Kd.R_told (Kd.R_told (Kd.R_old (rY HO320.out) hb) (Kd.R_base ho0)) (Kd.R_base ho1)) (fun _ h_ => h_.1))
     have n3_ := Aside0.mk (Kd.R_lower (Kd.R_new' (Kd.R_new' (Kd.R_new' ho0 (Kd.R_lt (rY HO307.out))) (Kd.R_lt (rY HO310.out))) (Kd.R_lt (rY HO320.out))) (below_size (by repeat (first | (with_reducible first | exact HB.out | apply below_alloc | apply pw_below_drewN | apply below_drew1 | refine below_set ?_ GE301.out | refine below_set ?_ GE302.out) | exact HB.out))))
     have n4_ := Aside0.mk (Kd.R_lower (Kd.R_new' (Kd.R_new' (Kd.R_new' ho1 (Kd.R_lt (rY HO307.out))) (Kd.R_lt (rY HO310.out))) (Kd.R_lt (rY HO320.out))) (below_size (by repeat (first | (with_reducible first | exact HB.out | apply below_alloc | apply pw_below_drewN | apply below_drew1 | refine below_set ?_ GE301.out | refine below_set ?_ GE302.out) | exact HB.out))))
     have n5_ := Aside0.mk (blk_below (bY BK301.out) hb)
     have n6_ := Aside0.mk (blk_below (bY BK302.out) hb)
     have n7_ := Aside0.mk (below_step (by repeat (first | (with_reducible first | exact HB.out | apply below_alloc | apply pw_below_drewN | apply below_drew1 | refine below_set ?_ GE301.out | refine below_set ?_ GE302.out) | exact HB.out)) hb)
     clear HO307
     clear HO310
     clear HO320
     clear BK301
     clear BK302
     clear HB
     have HO307 := n0_
     have HO310 := n1_
     have HO320 := n2_
     have HO323 := n3_
     have HO326 := n4_
     have BK301 := n5_
     have BK302 := n6_
     have HB := n7_
     clear n0_ n1_ n2_ n3_ n4_ n5_ n6_ n7_
     refine hK.out _ _ ⟨(blk_cell BK301.out 0).trans rfl, (blk_cell BK301.out 1).trans rfl, (blk_cell BK302.out 0).trans rfl, (blk_cell BK302.out 1).trans rfl, (blk_cell BK302.out 2).trans rfl, (blk_cell BK302.out 3).trans rfl, (blk_cell BK302.out 4).trans rfl, (blk_cell BK302.out 5).trans rfl, (blk_cell BK302.out 6).trans rfl, (blk_cell BK302.out 7).trans rfl⟩ (fun hHeld => ?_)
     clear hK K
     refine norm_ (a' := ?_) ?_ ?_
     rotate_left
     ·show Act.put _ (some 32) _ = _
      simp only [pS]
      rfl
     refine pure_ (i := 5) (N := some 27) (v := ?_) (a' := ?_) #[T, T, T, T, T, T, F, F, F, F, F] rfl rfl (any_of HT_.out (by kernel_rfl)) (fun _ _ _ h => h) (Or.inl ⟨by rfl, ?_⟩) ?_ ?_
     rotate_left
     ·intro w'
      go_simp
      with_reducible rfl
     rotate_left
     ·simp only [pS]
      rfl
     refine pure_ (i := 6) (N := some 33) (v := ?_) (a' := ?_) #[T, T, T, T, T, T, T, F, F, F, F] rfl rfl (any_of HT_.out (by kernel_rfl)) (fun _ _ _ h => h) (Or.inl ⟨by rfl, ?_⟩) ?_ ?_
     rotate_left
     ·intro w'
      go_simp
      with_reducible rfl
     rotate_left
     ·simp only [pS]
      rfl
     refine pure_ (i := 7) (N := some 34) (v := ?_) (a' := ?_) #[T, T, T, T, T, T, T, T, F, F, F] rfl rfl (any_of HT_.out (by kernel_rfl)) (fun _ _ _ h => h) (Or.inl ⟨by rfl, ?_⟩) ?_ ?_
     rotate_left
     ·intro w'
      go_simp
      with_reducible rfl
     rotate_left
     ·simp only [pS]
      rfl
     refine one_ (i := 8) (N := some 6) #[T, T, T, T, T, T, T, T, T, F, F] rfl rfl (one_of HT_.out (by kernel_rfl)) (by decide) (fun K hK => ?_)
     refine box_step ?hg (N := 6) ?hd (cs := #[.slice none 0 0, .slice none 0 0]) (t := 27) ?hr ?_; (case hd => rfl); (case hg => rfl); (case hr => first | (go_simp; done) | (go_simp; rfl))
     intro gb328 hg w40 hbox hb
     have n0_ := Aside0.mk (Kd.R_below (rY HO307.out) hb)
     have n1_ := Aside0.mk (Kd.R_below (rY HO310.out) hb)
     have n2_ := Aside0.mk (Kd.R_below (rY HO320.out) hb)
     have n3_ := Aside0.mk (Kd.R_below (rY HO323.out) hb)
     have n4_ := Aside0.mk (Kd.R_below (rY HO326.out) hb)
     have n5_ := Aside0.mk (blk_below (bY BK301.out) hb)
     have n6_ := Aside0.mk (blk_below (bY BK302.out) hb)
     have n7_ := Aside0.mk (below_step (by repeat (first | (with_reducible first | exact HB.out | apply below_alloc | apply pw_below_drewN | apply below_drew1 | refine below_set ?_ GE301.out | refine below_set ?_ GE302.out) | exact HB.out)) hb)
     have n8_ := Aside0.mk (hbox)
     have n9_ := Aside0.mk ((by rw [hg]; exact (below_size (by repeat (first | (with_reducible first | exact HB.out | apply below_alloc | apply pw_below_drewN | apply below_drew1 | refine below_set ?_ GE301.out | refine below_set ?_ GE302.out) | exact HB.out))) : w.heap.size ≤ gb328))
     have n10_ := Aside0.mk ((by rw [hg]; exact (below_size (by repeat (first | (with_reducible first | exact HB.out | apply below_alloc | apply pw_below_drewN | apply below_drew1 | refine below_set ?_ GE301.out | refine below_set ?_ GE302.out) | exact HB.out))) : w.heap.size ≤ gb328))
     have n11_ := Aside0.mk ((by rw [hg]; exact Nat.ne_of_lt (blk_lt (bY BK301.out)) : gb301 ≠ gb328))
     have n12_ := Aside0.mk ((by rw [hg]; exact Nat.ne_of_gt (blk_lt (bY BK301.out)) : gb328 ≠ gb301))
     have n13_ := Aside0.mk ((by rw [hg]; exact Nat.ne_of_lt (blk_lt (bY BK302.out)) : gb302 ≠ gb328))
     have n14_ := Aside0.mk ((by rw [hg]; exact Nat.ne_of_gt (blk_lt (bY BK302.out)) : gb328 ≠ gb302))
     clear HO307
     clear HO310
     clear HO320
     clear HO323
     clear HO326
     clear BK301
     clear BK302
     clear HB
     have HO307 := n0_
     have HO310 := n1_
     have HO320 := n2_
     have HO323 := n3_
     have HO326 := n4_
     have BK301 := n5_
     have BK302 := n6_
     have HB := n7_
     have BK328 := n8_
     have GW328 := n9_
     have GE328 := n10_
     have NB301_328 := n11_
     have NB328_301 := n12_
     have NB302_328 := n13_
     have NB328_302 := n14_
     clear n0_ n1_ n2_ n3_ n4_ n5_ n6_ n7_ n8_ n9_ n10_ n11_ n12_ n13_ n14_
     clear hb hbox hg
     refine hK.out _ _ ⟨(blk_cell BK301.out 0).trans rfl, (blk_cell BK301.out 1).trans rfl, (blk_cell BK302.out 0).trans rfl, (blk_cell BK302.out 1).trans rfl, (blk_cell BK302.out 2).trans rfl, (blk_cell BK302.out 3).trans rfl, (blk_cell BK302.out 4).trans rfl, (blk_cell BK302.out 5).trans rfl, (blk_cell BK302.out 6).trans rfl, (blk_cell BK302.out 7).trans rfl⟩ (fun hHeld => ?_)
     clear hK K
     refine norm_ (a' := ?_) ?_ ?_
     rotate_left
     ·show Act.put _ (some 6) _ = _
      simp only [pS]
      rfl
     exact norm_ (by simp only [putAll, Act.put, List.setIfInBounds_toArray, List.set_cons_zero, List.set_cons_succ]) (hCont (.slice Ao36 t305.length co36, .slice Ao37 t308.length co37, .slice Ao38 t318.length co38, v322, v325, gb328) _ ⟨hHeld, (by (repeat apply rX); exact Kd.R_mono HO307.out (fun _ hk => ⟨hk.1.1.1, ⟨hk.1.1.2, ⟨hk.1.2, hk.2⟩⟩⟩)), (by (repeat apply rX); exact Kd.R_mono HO310.out (fun _ hk => ⟨hk.1.1.1, ⟨hk.1.1.2, ⟨hk.1.2, hk.2⟩⟩⟩)), (by (repeat apply rX); exact Kd.R_mono HO320.out (fun _ hk => ⟨hk.1.1.1.2, ⟨hk.1.1.2, ⟨hk.1.2, hk.2⟩⟩⟩)), (by (repeat apply rX); exact Kd.R_mono HO323.out (fun _ hk => ⟨hk.1.1.2, ⟨hk.1.2, ⟨hk.2, hk.1.1.1⟩⟩⟩)), (by (repeat apply rX); exact Kd.R_mono HO326.out (fun _ hk => ⟨hk.1.1.2, ⟨hk.1.2, ⟨hk.2, hk.1.1.1⟩⟩⟩)), (bY BK301.out), (bY BK302.out), (bY BK328.out), GW328.out, GE328.out, NB301_328.out, NB328_301.out, NB302_328.out, NB328_302.out, (by repeat (first | (with_reducible first | exact HB.out | apply below_alloc | apply pw_below_drewN | apply below_drew1 | refine below_set ?_ GE301.out | refine below_set ?_ GE302.out | refine below_set ?_ GE328.out) | exact HB.out))⟩)
    ·skip
     refine box_step ?hg (N := 6) ?hd (cs := #[.slice none 0 0, .slice none 0 0]) (t := 27) ?hr ?_; (case hd => rfl); (case hg => rfl); (case hr => first | (go_simp; done) | (go_simp; rfl))
     intro gb328 hg w36 hbox hb
     have n0_ := Aside0.mk (Kd.R_below (rY HO307.out) hb)
     have n1_ := Aside0.mk (Kd.R_below (rY HO310.out) hb)
     have n2_ := Aside0.mk (Kd.R_below (rY HO320.out) hb)
     have n3_ := Aside0.mk (blk_below (bY BK301.out) hb)
     have n4_ := Aside0.mk (blk_below (bY BK302.out) hb)
     have n5_ := Aside0.mk (below_step (by repeat (first | (with_reducible first | exact HB.out | apply below_alloc | apply pw_below_drewN | apply below_drew1 | refine below_set ?_ GE301.out | refine below_set ?_ GE302.out) | exact HB.out)) hb)
     have n6_ := Aside0.mk (hbox)
     have n7_ := Aside0.mk ((by rw [hg]; exact (below_size (by repeat (first | (with_reducible first | exact HB.out | apply below_alloc | apply pw_below_drewN | apply below_drew1 | refine below_set ?_ GE301.out | refine below_set ?_ GE302.out) | exact HB.out))) : w.heap.size ≤ gb328))
     have n8_ := Aside0.mk ((by rw [hg]; exact (below_size (by repeat (first | (with_reducible first | exact HB.out | apply below_alloc | apply pw_below_drewN | apply below_drew1 | refine below_set ?_ GE301.out | refine below_set ?_ GE302.out) | exact HB.out))) : w.heap.size ≤ gb328))
     have n9_ := Aside0.mk ((by rw [hg]; exact Nat.ne_of_lt (blk_lt (bY BK301.out)) : gb301 ≠ gb328))
     have n10_ := Aside0.mk ((by rw [hg]; exact Nat.ne_of_gt (blk_lt (bY BK301.out)) : gb328 ≠ gb301))
     have n11_ := Aside0.mk ((by rw [hg]; exact Nat.ne_of_lt (blk_lt (bY BK302.out)) : gb302 ≠ gb328))
     have n12_ := Aside0.mk ((by rw [hg]; exact Nat.ne_of_gt (blk_lt (bY BK302.out)) : gb328 ≠ gb302))
     clear HO307
     clear HO310
     clear HO320
     clear BK301
     clear BK302
     clear HB
     have HO307 := n0_
     have HO310 := n1_
     have HO320 := n2_
     have BK301 := n3_
     have BK302 := n4_
     have HB := n5_
     have BK328 := n6_
     have GW328 := n7_
     have GE328 := n8_
     have NB301_328 := n9_
     have NB328_301 := n10_
     have NB302_328 := n11_
     have NB328_302 := n12_
     clear n0_ n1_ n2_ n3_ n4_ n5_ n6_ n7_ n8_ n9_ n10_ n11_ n12_
     clear hb hbox hg
     obtain ⟨Ao37, co37, eo37⟩ := Kd.R_slice HO307.out
     (first | subst eo37 | (injection eo37 with f1_ f2_ f3_; have f4_ := f1_.symm; have f5_ := f3_.symm; clear f1_ f2_ f3_; subst f4_; subst f5_))
     obtain ⟨Ao38, co38, eo38⟩ := Kd.R_slice HO310.out
     (first | subst eo38 | (injection eo38 with f1_ f2_ f3_; have f4_ := f1_.symm; have f5_ := f3_.symm; clear f1_ f2_ f3_; subst f4_; subst f5_))
     obtain ⟨Ao39, co39, eo39⟩ := Kd.R_slice HO320.out
     (first | subst eo39 | (injection eo39 with f1_ f2_ f3_; have f4_ := f1_.symm; have f5_ := f3_.symm; clear f1_ f2_ f3_; subst f4_; subst f5_))
     refine hK.out _ _ ⟨(blk_cell BK301.out 0).trans rfl, (blk_cell BK301.out 1).trans rfl, (blk_cell BK302.out 0).trans rfl, (blk_cell BK302.out 1).trans rfl, (blk_cell BK302.out 2).trans rfl, (blk_cell BK302.out 3).trans rfl, (blk_cell BK302.out 4).trans rfl, (blk_cell BK302.out 5).trans rfl, (blk_cell BK302.out 6).trans rfl, (blk_cell BK302.out 7).trans rfl⟩ (fun hHeld => ?_)
     clear hK K
     refine norm_ (a' := ?_) ?_ ?_
     rotate_left
     ·show Act.put _ (some 6) _ = _
      simp only [pS]
      rfl
     refine one_ (i := 4) (N := some 32) #[T, T, T, T, T, F, F, F, T, F, F] rfl rfl (one_of HT_.out (by kernel_rfl)) (by decide) (fun K hK => ?_)
     refine goes_ Try.func56 (by kernel_rfl) rfl #[.agg #[.slice Ao37 t305.length co37, .slice Ao38 t308.length co38], .agg #[.int .i64 t311, .int .i64 t312, .int .i64 t313, .int .i64 t314, .int .i64 t315, .int .i64 t316, .int .i64 t317, .slice Ao39 t318.length co39]] (by rfl) rfl rfl (by (try simp only [List.map_toArray, List.map_cons, List.map_nil]); first | done | rfl) ?_
     with_reducible refine (spec_ReturnCredits.calls k _ _ t305 _ _ t308 t311 t312 t313 t314 t315 t316 t317 _ _ t318 t321 t324 t327 _ ?side1 ?side2 ?side3 ?side4 ?side5 ?side6 A21.out).mono ?_
     (case side1 => exact cY ((Kd.R_reads' HO307.out).2.2))
     (case side2 => exact (Kd.R_reads' HO307.out).2.1)
     (case side3 => exact cY ((Kd.R_reads' HO310.out).2.2))
     (case side4 => exact (Kd.R_reads' HO310.out).2.1)
     (case side5 => exact cY ((Kd.R_reads' HO320.out).2.2))
     (case side6 => exact (Kd.R_reads' HO320.out).2.1)
     rintro e w40 ⟨v322, v325, rfl, ho0, ho1, hb⟩
     refine ⟨_, rfl, ?_⟩
     have n0_ := Aside0.mk (Kd.R_mono (Kd.R_told (Kd.R_told (Kd.R_old (rY HO307.out) hb) (Kd.R_base ho0)) (Kd.R_base ho1)) (fun _ h_ => h_.1))
     have n1_ := Aside0.mk (Kd.R_mono (Kd.R_told (Kd.R_told (Kd.R_old (rY HO310.out) hb) (Kd.R_base ho0)) (Kd.R_base ho1)) (fun _ h_ => h_.1))
     have n2_ := Aside0.mk (Kd.R_mono (Kd.R_told (Kd.R_told (Kd.R_old (rY HO320.out) hb) (Kd.R_base ho0)) (Kd.R_base ho1)) (fun _ h_ => h_.1))
     have n3_ := Aside0.mk (Kd.R_lower (Kd.R_new' (Kd.R_new' (Kd.R_new' ho0 (Kd.R_lt (rY HO307.out))) (Kd.R_lt (rY HO310.out))) (Kd.R_lt (rY HO320.out))) (below_size (by repeat (first | (with_reducible first | exact HB.out | apply below_alloc | apply pw_below_drewN | apply below_drew1 | refine below_set ?_ GE301.out | refine below_set ?_ GE302.out | refine below_set ?_ GE328.out) | exact HB.out))))
     have n4_ := Aside0.mk (Kd.R_lower (Kd.R_new' (Kd.R_new' (Kd.R_new' ho1 (Kd.R_lt (rY HO307.out))) (Kd.R_lt (rY HO310.out))) (Kd.R_lt (rY HO320.out))) (below_size (by repeat (first | (with_reducible first | exact HB.out | apply below_alloc | apply pw_below_drewN | apply below_drew1 | refine below_set ?_ GE301.out | refine below_set ?_ GE302.out | refine below_set ?_ GE328.out) | exact HB.out))))
     have n5_ := Aside0.mk (blk_below (bY BK301.out) hb)
     have n6_ := Aside0.mk (blk_below (bY BK302.out) hb)
     have n7_ := Aside0.mk (blk_below (bY BK328.out) hb)
     have n8_ := Aside0.mk (below_step (by repeat (first | (with_reducible first | exact HB.out | apply below_alloc | apply pw_below_drewN | apply below_drew1 | refine below_set ?_ GE301.out | refine below_set ?_ GE302.out | refine below_set ?_ GE328.out) | exact HB.out)) hb)
     clear HO307
     clear HO310
     clear HO320
     clear BK301
     clear BK302
     clear BK328
     clear HB
     have HO307 := n0_
     have HO310 := n1_
     have HO320 := n2_
     have HO323 := n3_
     have HO326 := n4_
     have BK301 := n5_
     have BK302 := n6_
     have BK328 := n7_
     have HB := n8_
     clear n0_ n1_ n2_ n3_ n4_ n5_ n6_ n7_ n8_
     refine hK.out _ _ ⟨(blk_cell BK301.out 0).trans rfl, (blk_cell BK301.out 1).trans rfl, (blk_cell BK302.out 0).trans rfl, (blk_cell BK302.out 1).trans rfl, (blk_cell BK302.out 2).trans rfl, (blk_cell BK302.out 3).trans rfl, (blk_cell BK302.out 4).trans rfl, (blk_cell BK302.out 5).trans rfl, (blk_cell BK302.out 6).trans rfl, (blk_cell BK302.out 7).trans rfl⟩ (fun hHeld => ?_)
     clear hK K
     refine norm_ (a' := ?_) ?_ ?_
     rotate_left
     ·show Act.put _ (some 32) _ = _
      simp only [pS]
      rfl
     refine pure_ (i := 5) (N := some 27) (v := ?_) (a' := ?_) #[T, T, T, T, T, T, F, F, T, F, F] rfl rfl (any_of HT_.out (by kernel_rfl)) (fun _ _ _ h => h) (Or.inl ⟨by rfl, ?_⟩) ?_ ?_
     rotate_left
     ·intro w'
      go_simp
      with_reducible rfl
     rotate_left
     ·simp only [pS]
      rfl
     refine pure_ (i := 6) (N := some 33) (v := ?_) (a' := ?_) #[T, T, T, T, T, T, T, F, T, F, F] rfl rfl (any_of HT_.out (by kernel_rfl)) (fun _ _ _ h => h) (Or.inl ⟨by rfl, ?_⟩) ?_ ?_
     rotate_left
     ·intro w'
      go_simp
      with_reducible rfl
     rotate_left
     ·simp only [pS]
      rfl
     refine pure_ (i := 7) (N := some 34) (v := ?_) (a' := ?_) #[T, T, T, T, T, T, T, T, T, F, F] rfl rfl (any_of HT_.out (by kernel_rfl)) (fun _ _ _ h => h) (Or.inl ⟨by rfl, ?_⟩) ?_ ?_
     rotate_left
     ·intro w'
      go_simp
      with_reducible rfl
     rotate_left
     ·simp only [pS]
      rfl
     exact norm_ (by simp only [putAll, Act.put, List.setIfInBounds_toArray, List.set_cons_zero, List.set_cons_succ]) (hCont (.slice Ao37 t305.length co37, .slice Ao38 t308.length co38, .slice Ao39 t318.length co39, v322, v325, gb328) _ ⟨hHeld, (by (repeat apply rX); exact Kd.R_mono HO307.out (fun _ hk => ⟨hk.1.1.1, ⟨hk.1.1.2, ⟨hk.1.2, hk.2⟩⟩⟩)), (by (repeat apply rX); exact Kd.R_mono HO310.out (fun _ hk => ⟨hk.1.1.1, ⟨hk.1.1.2, ⟨hk.1.2, hk.2⟩⟩⟩)), (by (repeat apply rX); exact Kd.R_mono HO320.out (fun _ hk => ⟨hk.1.1.1.2, ⟨hk.1.1.2, ⟨hk.1.2, hk.2⟩⟩⟩)), (by (repeat apply rX); exact Kd.R_mono HO323.out (fun _ hk => ⟨hk.1.1.2, ⟨hk.1.2, ⟨hk.2, hk.1.1.1⟩⟩⟩)), (by (repeat apply rX); exact Kd.R_mono HO326.out (fun _ hk => ⟨hk.1.1.2, ⟨hk.1.2, ⟨hk.2, hk.1.1.1⟩⟩⟩)), (bY BK301.out), (bY BK302.out), (bY BK328.out), GW328.out, GE328.out, NB301_328.out, NB328_301.out, NB302_328.out, NB328_302.out, (by repeat (first | (with_reducible first | exact HB.out | apply below_alloc | apply pw_below_drewN | apply below_drew1 | refine below_set ?_ GE301.out | refine below_set ?_ GE302.out | refine below_set ?_ GE328.out) | exact HB.out))⟩)
   ·skip
    refine box_step ?hg (N := 6) ?hd (cs := #[.slice none 0 0, .slice none 0 0]) (t := 27) ?hr ?_; (case hd => rfl); (case hg => rfl); (case hr => first | (go_simp; done) | (go_simp; rfl))
    intro gb328 hg w35 hbox hb
    have n0_ := Aside0.mk (Kd.R_below (rY HO307.out) hb)
    have n1_ := Aside0.mk (Kd.R_below (rY HO310.out) hb)
    have n2_ := Aside0.mk (blk_below (bY BK301.out) hb)
    have n3_ := Aside0.mk (blk_below (bY BK302.out) hb)
    have n4_ := Aside0.mk (below_step (by repeat (first | (with_reducible first | exact HB.out | apply below_alloc | apply pw_below_drewN | apply below_drew1 | refine below_set ?_ GE301.out | refine below_set ?_ GE302.out) | exact HB.out)) hb)
    have n5_ := Aside0.mk (hbox)
    have n6_ := Aside0.mk ((by rw [hg]; exact (below_size (by repeat (first | (with_reducible first | exact HB.out | apply below_alloc | apply pw_below_drewN | apply below_drew1 | refine below_set ?_ GE301.out | refine below_set ?_ GE302.out) | exact HB.out))) : w.heap.size ≤ gb328))
    have n7_ := Aside0.mk ((by rw [hg]; exact (below_size (by repeat (first | (with_reducible first | exact HB.out | apply below_alloc | apply pw_below_drewN | apply below_drew1 | refine below_set ?_ GE301.out | refine below_set ?_ GE302.out) | exact HB.out))) : w.heap.size ≤ gb328))
    have n8_ := Aside0.mk ((by rw [hg]; exact Nat.ne_of_lt (blk_lt (bY BK301.out)) : gb301 ≠ gb328))
    have n9_ := Aside0.mk ((by rw [hg]; exact Nat.ne_of_gt (blk_lt (bY BK301.out)) : gb328 ≠ gb301))
    have n10_ := Aside0.mk ((by rw [hg]; exact Nat.ne_of_lt (blk_lt (bY BK302.out)) : gb302 ≠ gb328))
    have n11_ := Aside0.mk ((by rw [hg]; exact Nat.ne_of_gt (blk_lt (bY BK302.out)) : gb328 ≠ gb302))
    clear HO307
    clear HO310
    clear BK301
    clear BK302
    clear HB
    have HO307 := n0_
    have HO310 := n1_
    have BK301 := n2_
    have BK302 := n3_
    have HB := n4_
    have BK328 := n5_
    have GW328 := n6_
    have GE328 := n7_
    have NB301_328 := n8_
    have NB328_301 := n9_
    have NB302_328 := n10_
    have NB328_302 := n11_
    clear n0_ n1_ n2_ n3_ n4_ n5_ n6_ n7_ n8_ n9_ n10_ n11_
    clear hb hbox hg
    refine hK.out _ _ ⟨(blk_cell BK301.out 0).trans rfl, (blk_cell BK301.out 1).trans rfl, (blk_cell BK302.out 0).trans rfl, (blk_cell BK302.out 1).trans rfl, (blk_cell BK302.out 2).trans rfl, (blk_cell BK302.out 3).trans rfl, (blk_cell BK302.out 4).trans rfl, (blk_cell BK302.out 5).trans rfl, (blk_cell BK302.out 6).trans rfl, (blk_cell BK302.out 7).trans rfl⟩ (fun hHeld => ?_)
    clear hK K
    refine norm_ (a' := ?_) ?_ ?_
    rotate_left
    ·show Act.put _ (some 6) _ = _
     simp only [pS]
     rfl
    refine one_ (i := 3) (N := some 31) #[T, T, T, T, F, F, F, F, T, F, F] rfl rfl (one_of HT_.out (by kernel_rfl)) (by decide) (fun K hK => ?_)
    refine goes_ Try.func22 (by kernel_rfl) rfl #[.agg #[.int .i64 a1_0, .int .i64 a1_1, .int .i64 a1_2, .int .i64 a1_3, .int .i64 a1_4, .int .i64 a1_5, .int .i64 a1_6, .slice A1_7 l1_7.length c1_7]] (by rfl) rfl rfl (by (try simp only [List.map_toArray, List.map_cons, List.map_nil]); first | done | rfl) ?_
    with_reducible refine (laws_toPacket.calls k a1_0 a1_1 a1_2 a1_3 a1_4 a1_5 a1_6 _ _ l1_7 t311 t312 t313 t314 t315 t316 t317 t318 _ ?side1 ?side2 A20.out).mono ?_
    (case side1 => exact cY ((Kd.C_below HR1_7.out HB.out)))
    (case side2 => exact HC1_7.out)
    rintro e w36 ⟨v319, rfl, ho0, hb⟩
    refine ⟨_, rfl, ?_⟩
    have n0_ := Aside0.mk (Kd.R_elder' (rY HO307.out) (Kd.R_base ho0) hb)
    have n1_ := Aside0.mk (Kd.R_elder' (rY HO310.out) (Kd.R_base ho0) hb)
    have n2_ := Aside0.mk (Kd.R_lower (Kd.R_new' (Kd.R_new' ho0 (Kd.R_lt (rY HO307.out))) (Kd.R_lt (rY HO310.out))) (below_size (by repeat (first | (with_reducible first | exact HB.out | apply below_alloc | apply pw_below_drewN | apply below_drew1 | refine below_set ?_ GE301.out | refine below_set ?_ GE302.out | refine below_set ?_ GE328.out) | exact HB.out))))
    have n3_ := Aside0.mk (blk_below (bY BK301.out) hb)
    have n4_ := Aside0.mk (blk_below (bY BK302.out) hb)
    have n5_ := Aside0.mk (blk_below (bY BK328.out) hb)
    have n6_ := Aside0.mk (below_step (by repeat (first | (with_reducible first | exact HB.out | apply below_alloc | apply pw_below_drewN | apply below_drew1 | refine below_set ?_ GE301.out | refine below_set ?_ GE302.out | refine below_set ?_ GE328.out) | exact HB.out)) hb)
    clear HO307
    clear HO310
    clear BK301
    clear BK302
    clear BK328
    clear HB
    have HO307 := n0_
    have HO310 := n1_
    have HO320 := n2_
    have BK301 := n3_
    have BK302 := n4_
    have BK328 := n5_
    have HB := n6_
    clear n0_ n1_ n2_ n3_ n4_ n5_ n6_
    obtain ⟨Ao37, co37, eo37⟩ := Kd.R_slice HO307.out
    (first | subst eo37 | (injection eo37 with f1_ f2_ f3_; have f4_ := f1_.symm; have f5_ := f3_.symm; clear f1_ f2_ f3_; subst f4_; subst f5_))
    obtain ⟨Ao38, co38, eo38⟩ := Kd.R_slice HO310.out
    (first | subst eo38 | (injection eo38 with f1_ f2_ f3_; have f4_ := f1_.symm; have f5_ := f3_.symm; clear f1_ f2_ f3_; subst f4_; subst f5_))
    obtain ⟨Ao39, co39, eo39⟩ := Kd.R_slice HO320.out
    (first | subst eo39 | (injection eo39 with f1_ f2_ f3_; have f4_ := f1_.symm; have f5_ := f3_.symm; clear f1_ f2_ f3_; subst f4_; subst f5_))
    refine hK.out _ _ ⟨(blk_cell BK301.out 0).trans rfl, (blk_cell BK301.out 1).trans rfl, (blk_cell BK302.out 0).trans rfl, (blk_cell BK302.out 1).trans rfl, (blk_cell BK302.out 2).trans rfl, (blk_cell BK302.out 3).trans rfl, (blk_cell BK302.out 4).trans rfl, (blk_cell BK302.out 5).trans rfl, (blk_cell BK302.out 6).trans rfl, (blk_cell BK302.out 7).trans rfl⟩ (fun hHeld => ?_)
    clear hK K
    refine norm_ (a' := ?_) ?_ ?_
    rotate_left
    ·show Act.put _ (some 31) _ = _
     simp only [pS]
     rfl
    refine one_ (i := 4) (N := some 32) #[T, T, T, T, T, F, F, F, T, F, F] rfl rfl (one_of HT_.out (by kernel_rfl)) (by decide) (fun K hK => ?_)
    refine goes_ Try.func56 (by kernel_rfl) rfl #[.agg #[.slice Ao37 t305.length co37, .slice Ao38 t308.length co38], .agg #[.int .i64 t311, .int .i64 t312, .int .i64 t313, .int .i64 t314, .int .i64 t315, .int .i64 t316, .int .i64 t317, .slice Ao39 t318.length co39]] (by rfl) rfl rfl (by (try simp only [List.map_toArray, List.map_cons, List.map_nil]); first | done | rfl) ?_
    with_reducible refine (spec_ReturnCredits.calls k _ _ t305 _ _ t308 t311 t312 t313 t314 t315 t316 t317 _ _ t318 t321 t324 t327 _ ?side1 ?side2 ?side3 ?side4 ?side5 ?side6 A21.out).mono ?_
    (case side1 => exact cY ((Kd.R_reads' HO307.out).2.2))
    (case side2 => exact (Kd.R_reads' HO307.out).2.1)
    (case side3 => exact cY ((Kd.R_reads' HO310.out).2.2))
    (case side4 => exact (Kd.R_reads' HO310.out).2.1)
    (case side5 => exact cY ((Kd.R_reads' HO320.out).2.2))
    (case side6 => exact (Kd.R_reads' HO320.out).2.1)
    rintro e w40 ⟨v322, v325, rfl, ho0, ho1, hb⟩
    refine ⟨_, rfl, ?_⟩
    have n0_ := Aside0.mk (Kd.R_mono (Kd.R_told (Kd.R_told (Kd.R_old (rY HO307.out) hb) (Kd.R_base ho0)) (Kd.R_base ho1)) (fun _ h_ => h_.1))
    have n1_ := Aside0.mk (Kd.R_mono (Kd.R_told (Kd.R_told (Kd.R_old (rY HO310.out) hb) (Kd.R_base ho0)) (Kd.R_base ho1)) (fun _ h_ => h_.1))
    have n2_ := Aside0.mk (Kd.R_mono (Kd.R_told (Kd.R_told (Kd.R_old (rY HO320.out) hb) (Kd.R_base ho0)) (Kd.R_base ho1)) (fun _ h_ => h_.1))
    have n3_ := Aside0.mk (Kd.R_lower (Kd.R_new' (Kd.R_new' (Kd.R_new' ho0 (Kd.R_lt (rY HO307.out))) (Kd.R_lt (rY HO310.out))) (Kd.R_lt (rY HO320.out))) (below_size (by repeat (first | (with_reducible first | exact HB.out | apply below_alloc | apply pw_below_drewN | apply below_drew1 | refine below_set ?_ GE301.out | refine below_set ?_ GE302.out | refine below_set ?_ GE328.out) | exact HB.out))))
    have n4_ := Aside0.mk (Kd.R_lower (Kd.R_new' (Kd.R_new' (Kd.R_new' ho1 (Kd.R_lt (rY HO307.out))) (Kd.R_lt (rY HO310.out))) (Kd.R_lt (rY HO320.out))) (below_size (by repeat (first | (with_reducible first | exact HB.out | apply below_alloc | apply pw_below_drewN | apply below_drew1 | refine below_set ?_ GE301.out | refine below_set ?_ GE302.out | refine below_set ?_ GE328.out) | exact HB.out))))
    have n5_ := Aside0.mk (blk_below (bY BK301.out) hb)
    have n6_ := Aside0.mk (blk_below (bY BK302.out) hb)
    have n7_ := Aside0.mk (blk_below (bY BK328.out) hb)
    have n8_ := Aside0.mk (below_step (by repeat (first | (with_reducible first | exact HB.out | apply below_alloc | apply pw_below_drewN | apply below_drew1 | refine below_set ?_ GE301.out | refine below_set ?_ GE302.out | refine below_set ?_ GE328.out) | exact HB.out)) hb)
    clear HO307
    clear HO310
    clear HO320
    clear BK301
    clear BK302
    clear BK328
    clear HB
    have HO307 := n0_
    have HO310 := n1_
    have HO320 := n2_
    have HO323 := n3_
    have HO326 := n4_
    have BK301 := n5_
    have BK302 := n6_
    have BK328 := n7_
    have HB := n8_
    clear n0_ n1_ n2_ n3_ n4_ n5_ n6_ n7_ n8_
    refine hK.out _ _ ⟨(blk_cell BK301.out 0).trans rfl, (blk_cell BK301.out 1).trans rfl, (blk_cell BK302.out 0).trans rfl, (blk_cell BK302.out 1).trans rfl, (blk_cell BK302.out 2).trans rfl, (blk_cell BK302.out 3).trans rfl, (blk_cell BK302.out 4).trans rfl, (blk_cell BK302.out 5).trans rfl, (blk_cell BK302.out 6).trans rfl, (blk_cell BK302.out 7).trans rfl⟩ (fun hHeld => ?_)
    clear hK K
    refine norm_ (a' := ?_) ?_ ?_
    rotate_left
    ·show Act.put _ (some 32) _ = _
     simp only [pS]
     rfl
    refine pure_ (i := 5) (N := some 27) (v := ?_) (a' := ?_) #[T, T, T, T, T, T, F, F, T, F, F] rfl rfl (any_of HT_.out (by kernel_rfl)) (fun _ _ _ h => h) (Or.inl ⟨by rfl, ?_⟩) ?_ ?_
    rotate_left
    ·intro w'
     go_simp
     with_reducible rfl
    rotate_left
    ·simp only [pS]
     rfl
    refine pure_ (i := 6) (N := some 33) (v := ?_) (a' := ?_) #[T, T, T, T, T, T, T, F, T, F, F] rfl rfl (any_of HT_.out (by kernel_rfl)) (fun _ _ _ h => h) (Or.inl ⟨by rfl, ?_⟩) ?_ ?_
    rotate_left
    ·intro w'
     go_simp
     with_reducible rfl
    rotate_left
    ·simp only [pS]
     rfl
    refine pure_ (i := 7) (N := some 34) (v := ?_) (a' := ?_) #[T, T, T, T, T, T, T, T, T, F, F] rfl rfl (any_of HT_.out (by kernel_rfl)) (fun _ _ _ h => h) (Or.inl ⟨by rfl, ?_⟩) ?_ ?_
    rotate_left
    ·intro w'
     go_simp
     with_reducible rfl
    rotate_left
    ·simp only [pS]
     rfl
    exact norm_ (by simp only [putAll, Act.put, List.setIfInBounds_toArray, List.set_cons_zero, List.set_cons_succ]) (hCont (.slice Ao37 t305.length co37, .slice Ao38 t308.length co38, .slice Ao39 t318.length co39, v322, v325, gb328) _ ⟨hHeld, (by (repeat apply rX); exact Kd.R_mono HO307.out (fun _ hk => ⟨hk.1.1.1, ⟨hk.1.1.2, ⟨hk.1.2, hk.2⟩⟩⟩)), (by (repeat apply rX); exact Kd.R_mono HO310.out (fun _ hk => ⟨hk.1.1.1, ⟨hk.1.1.2, ⟨hk.1.2, hk.2⟩⟩⟩)), (by (repeat apply rX); exact Kd.R_mono HO320.out (fun _ hk => ⟨hk.1.1.1.2, ⟨hk.1.1.2, ⟨hk.1.2, hk.2⟩⟩⟩)), (by (repeat apply rX); exact Kd.R_mono HO323.out (fun _ hk => ⟨hk.1.1.2, ⟨hk.1.2, ⟨hk.2, hk.1.1.1⟩⟩⟩)), (by (repeat apply rX); exact Kd.R_mono HO326.out (fun _ hk => ⟨hk.1.1.2, ⟨hk.1.2, ⟨hk.2, hk.1.1.1⟩⟩⟩)), (bY BK301.out), (bY BK302.out), (bY BK328.out), GW328.out, GE328.out, NB301_328.out, NB328_301.out, NB302_328.out, NB328_302.out, (by repeat (first | (with_reducible first | exact HB.out | apply below_alloc | apply pw_below_drewN | apply below_drew1 | refine below_set ?_ GE301.out | refine below_set ?_ GE302.out | refine below_set ?_ GE328.out) | exact HB.out))⟩)
  ·skip
   refine box_step ?hg (N := 6) ?hd (cs := #[.slice none 0 0, .slice none 0 0]) (t := 27) ?hr ?_; (case hd => rfl); (case hg => rfl); (case hr => first | (go_simp; done) | (go_simp; rfl))
   intro gb328 hg w34 hbox hb
   have n0_ := Aside0.mk (blk_below (bY BK301.out) hb)
   have n1_ := Aside0.mk (blk_below (bY BK302.out) hb)
   have n2_ := Aside0.mk (below_step (by repeat (first | (with_reducible first | exact HB.out | apply below_alloc | apply pw_below_drewN | apply below_drew1 | refine below_set ?_ GE301.out | refine below_set ?_ GE302.out) | exact HB.out)) hb)
   have n3_ := Aside0.mk (hbox)
   have n4_ := Aside0.mk ((by rw [hg]; exact (below_size (by repeat (first | (with_reducible first | exact HB.out | apply below_alloc | apply pw_below_drewN | apply below_drew1 | refine below_set ?_ GE301.out | refine below_set ?_ GE302.out) | exact HB.out))) : w.heap.size ≤ gb328))
   have n5_ := Aside0.mk ((by rw [hg]; exact (below_size (by repeat (first | (with_reducible first | exact HB.out | apply below_alloc | apply pw_below_drewN | apply below_drew1 | refine below_set ?_ GE301.out | refine below_set ?_ GE302.out) | exact HB.out))) : w.heap.size ≤ gb328))
   have n6_ := Aside0.mk ((by rw [hg]; exact Nat.ne_of_lt (blk_lt (bY BK301.out)) : gb301 ≠ gb328))
   have n7_ := Aside0.mk ((by rw [hg]; exact Nat.ne_of_gt (blk_lt (bY BK301.out)) : gb328 ≠ gb301))
   have n8_ := Aside0.mk ((by rw [hg]; exact Nat.ne_of_lt (blk_lt (bY BK302.out)) : gb302 ≠ gb328))
   have n9_ := Aside0.mk ((by rw [hg]; exact Nat.ne_of_gt (blk_lt (bY BK302.out)) : gb328 ≠ gb302))
   clear BK301
   clear BK302
   clear HB
   have BK301 := n0_
   have BK302 := n1_
   have HB := n2_
   have BK328 := n3_
   have GW328 := n4_
   have GE328 := n5_
   have NB301_328 := n6_
   have NB328_301 := n7_
   have NB302_328 := n8_
   have NB328_302 := n9_
   clear n0_ n1_ n2_ n3_ n4_ n5_ n6_ n7_ n8_ n9_
   clear hb hbox hg
   refine hK.out _ _ ⟨(blk_cell BK301.out 0).trans rfl, (blk_cell BK301.out 1).trans rfl, (blk_cell BK302.out 0).trans rfl, (blk_cell BK302.out 1).trans rfl, (blk_cell BK302.out 2).trans rfl, (blk_cell BK302.out 3).trans rfl, (blk_cell BK302.out 4).trans rfl, (blk_cell BK302.out 5).trans rfl, (blk_cell BK302.out 6).trans rfl, (blk_cell BK302.out 7).trans rfl⟩ (fun hHeld => ?_)
   clear hK K
   refine norm_ (a' := ?_) ?_ ?_
   rotate_left
   ·show Act.put _ (some 6) _ = _
    simp only [pS]
    rfl
   refine one_ (i := 1) (N := some 29) #[T, T, T, F, F, F, F, F, T, F, F] rfl rfl (one_of HT_.out (by kernel_rfl)) (by decide) (fun K hK => ?_)
   refine goes_ Try.func17 (by kernel_rfl) rfl #[.agg #[.slice A0_0 l0_0.length c0_0, .slice A0_1 l0_1.length c0_1]] (by rfl) rfl rfl (by (try simp only [List.map_toArray, List.map_cons, List.map_nil]); first | done | rfl) ?_
   with_reducible refine (laws_toCredits.calls k _ _ l0_0 _ _ l0_1 t305 t308 _ ?side1 ?side2 ?side3 ?side4 A19.out).mono ?_
   (case side1 => exact cY ((Kd.C_below HR0_0.out HB.out)))
   (case side2 => exact HC0_0.out)
   (case side3 => exact cY ((Kd.C_below HR0_1.out HB.out)))
   (case side4 => exact HC0_1.out)
   rintro e w35 ⟨v306, v309, rfl, ho0, ho1, hb⟩
   refine ⟨_, rfl, ?_⟩
   have n0_ := Aside0.mk (Kd.R_lower ho0 (below_size (by repeat (first | (with_reducible first | exact HB.out | apply below_alloc | apply pw_below_drewN | apply below_drew1 | refine below_set ?_ GE301.out | refine below_set ?_ GE302.out | refine below_set ?_ GE328.out) | exact HB.out))))
   have n1_ := Aside0.mk (Kd.R_lower ho1 (below_size (by repeat (first | (with_reducible first | exact HB.out | apply below_alloc | apply pw_below_drewN | apply below_drew1 | refine below_set ?_ GE301.out | refine below_set ?_ GE302.out | refine below_set ?_ GE328.out) | exact HB.out))))
   have n2_ := Aside0.mk (blk_below (bY BK301.out) hb)
   have n3_ := Aside0.mk (blk_below (bY BK302.out) hb)
   have n4_ := Aside0.mk (blk_below (bY BK328.out) hb)
   have n5_ := Aside0.mk (below_step (by repeat (first | (with_reducible first | exact HB.out | apply below_alloc | apply pw_below_drewN | apply below_drew1 | refine below_set ?_ GE301.out | refine below_set ?_ GE302.out | refine below_set ?_ GE328.out) | exact HB.out)) hb)
   clear BK301
   clear BK302
   clear BK328
   clear HB
   have HO307 := n0_
   have HO310 := n1_
   have BK301 := n2_
   have BK302 := n3_
   have BK328 := n4_
   have HB := n5_
   clear n0_ n1_ n2_ n3_ n4_ n5_
   refine hK.out _ _ ⟨(blk_cell BK301.out 0).trans rfl, (blk_cell BK301.out 1).trans rfl, (blk_cell BK302.out 0).trans rfl, (blk_cell BK302.out 1).trans rfl, (blk_cell BK302.out 2).trans rfl, (blk_cell BK302.out 3).trans rfl, (blk_cell BK302.out 4).trans rfl, (blk_cell BK302.out 5).trans rfl, (blk_cell BK302.out 6).trans rfl, (blk_cell BK302.out 7).trans rfl⟩ (fun hHeld => ?_)
   clear hK K
   refine norm_ (a' := ?_) ?_ ?_
   rotate_left
   ·show Act.put _ (some 29) _ = _
    simp only [pS]
    rfl
   refine one_ (i := 3) (N := some 31) #[T, T, T, T, F, F, F, F, T, F, F] rfl rfl (one_of HT_.out (by kernel_rfl)) (by decide) (fun K hK => ?_)
   refine goes_ Try.func22 (by kernel_rfl) rfl #[.agg #[.int .i64 a1_0, .int .i64 a1_1, .int .i64 a1_2, .int .i64 a1_3, .int .i64 a1_4, .int .i64 a1_5, .int .i64 a1_6, .slice A1_7 l1_7.length c1_7]] (by rfl) rfl rfl (by (try simp only [List.map_toArray, List.map_cons, List.map_nil]); first | done | rfl) ?_
   with_reducible refine (laws_toPacket.calls k a1_0 a1_1 a1_2 a1_3 a1_4 a1_5 a1_6 _ _ l1_7 t311 t312 t313 t314 t315 t316 t317 t318 _ ?side1 ?side2 A20.out).mono ?_
   (case side1 => exact cY ((Kd.C_below HR1_7.out HB.out)))
   (case side2 => exact HC1_7.out)
   rintro e w36 ⟨v319, rfl, ho0, hb⟩
   refine ⟨_, rfl, ?_⟩
   have n0_ := Aside0.mk (Kd.R_elder' (rY HO307.out) (Kd.R_base ho0) hb)
   have n1_ := Aside0.mk (Kd.R_elder' (rY HO310.out) (Kd.R_base ho0) hb)
   have n2_ := Aside0.mk (Kd.R_lower (Kd.R_new' (Kd.R_new' ho0 (Kd.R_lt (rY HO307.out))) (Kd.R_lt (rY HO310.out))) (below_size (by repeat (first | (with_reducible first | exact HB.out | apply below_alloc | apply pw_below_drewN | apply below_drew1 | refine below_set ?_ GE301.out | refine below_set ?_ GE302.out | refine below_set ?_ GE328.out) | exact HB.out))))
   have n3_ := Aside0.mk (blk_below (bY BK301.out) hb)
   have n4_ := Aside0.mk (blk_below (bY BK302.out) hb)
   have n5_ := Aside0.mk (blk_below (bY BK328.out) hb)
   have n6_ := Aside0.mk (below_step (by repeat (first | (with_reducible first | exact HB.out | apply below_alloc | apply pw_below_drewN | apply below_drew1 | refine below_set ?_ GE301.out | refine below_set ?_ GE302.out | refine below_set ?_ GE328.out) | exact HB.out)) hb)
   clear HO307
   clear HO310
   clear BK301
   clear BK302
   clear BK328
   clear HB
   have HO307 := n0_
   have HO310 := n1_
   have HO320 := n2_
   have BK301 := n3_
   have BK302 := n4_
   have BK328 := n5_
   have HB := n6_
   clear n0_ n1_ n2_ n3_ n4_ n5_ n6_
   obtain ⟨Ao37, co37, eo37⟩ := Kd.R_slice HO307.out
   (first | subst eo37 | (injection eo37 with f1_ f2_ f3_; have f4_ := f1_.symm; have f5_ := f3_.symm; clear f1_ f2_ f3_; subst f4_; subst f5_))
   obtain ⟨Ao38, co38, eo38⟩ := Kd.R_slice HO310.out
   (first | subst eo38 | (injection eo38 with f1_ f2_ f3_; have f4_ := f1_.symm; have f5_ := f3_.symm; clear f1_ f2_ f3_; subst f4_; subst f5_))
   obtain ⟨Ao39, co39, eo39⟩ := Kd.R_slice HO320.out
   (first | subst eo39 | (injection eo39 with f1_ f2_ f3_; have f4_ := f1_.symm; have f5_ := f3_.symm; clear f1_ f2_ f3_; subst f4_; subst f5_))
   refine hK.out _ _ ⟨(blk_cell BK301.out 0).trans rfl, (blk_cell BK301.out 1).trans rfl, (blk_cell BK302.out 0).trans rfl, (blk_cell BK302.out 1).trans rfl, (blk_cell BK302.out 2).trans rfl, (blk_cell BK302.out 3).trans rfl, (blk_cell BK302.out 4).trans rfl, (blk_cell BK302.out 5).trans rfl, (blk_cell BK302.out 6).trans rfl, (blk_cell BK302.out 7).trans rfl⟩ (fun hHeld => ?_)
   clear hK K
   refine norm_ (a' := ?_) ?_ ?_
   rotate_left
   ·show Act.put _ (some 31) _ = _
    simp only [pS]
    rfl
   refine one_ (i := 4) (N := some 32) #[T, T, T, T, T, F, F, F, T, F, F] rfl rfl (one_of HT_.out (by kernel_rfl)) (by decide) (fun K hK => ?_)
   refine goes_ Try.func56 (by kernel_rfl) rfl #[.agg #[.slice Ao37 t305.length co37, .slice Ao38 t308.length co38], .agg #[.int .i64 t311, .int .i64 t312, .int .i64 t313, .int .i64 t314, .int .i64 t315, .int .i64 t316, .int .i64 t317, .slice Ao39 t318.length co39]] (by rfl) rfl rfl (by (try simp only [List.map_toArray, List.map_cons, List.map_nil]); first | done | rfl) ?_
   with_reducible refine (spec_ReturnCredits.calls k _ _ t305 _ _ t308 t311 t312 t313 t314 t315 t316 t317 _ _ t318 t321 t324 t327 _ ?side1 ?side2 ?side3 ?side4 ?side5 ?side6 A21.out).mono ?_
   (case side1 => exact cY ((Kd.R_reads' HO307.out).2.2))
   (case side2 => exact (Kd.R_reads' HO307.out).2.1)
   (case side3 => exact cY ((Kd.R_reads' HO310.out).2.2))
   (case side4 => exact (Kd.R_reads' HO310.out).2.1)
   (case side5 => exact cY ((Kd.R_reads' HO320.out).2.2))
   (case side6 => exact (Kd.R_reads' HO320.out).2.1)
   rintro e w40 ⟨v322, v325, rfl, ho0, ho1, hb⟩
   refine ⟨_, rfl, ?_⟩
   have n0_ := Aside0.mk (Kd.R_mono (Kd.R_told (Kd.R_told (Kd.R_old (rY HO307.out) hb) (Kd.R_base ho0)) (Kd.R_base ho1)) (fun _ h_ => h_.1))
   have n1_ := Aside0.mk (Kd.R_mono (Kd.R_told (Kd.R_told (Kd.R_old (rY HO310.out) hb) (Kd.R_base ho0)) (Kd.R_base ho1)) (fun _ h_ => h_.1))
   have n2_ := Aside0.mk (Kd.R_mono (Kd.R_told (Kd.R_told (Kd.R_old (rY HO320.out) hb) (Kd.R_base ho0)) (Kd.R_base ho1)) (fun _ h_ => h_.1))
   have n3_ := Aside0.mk (Kd.R_lower (Kd.R_new' (Kd.R_new' (Kd.R_new' ho0 (Kd.R_lt (rY HO307.out))) (Kd.R_lt (rY HO310.out))) (Kd.R_lt (rY HO320.out))) (below_size (by repeat (first | (with_reducible first | exact HB.out | apply below_alloc | apply pw_below_drewN | apply below_drew1 | refine below_set ?_ GE301.out | refine below_set ?_ GE302.out | refine below_set ?_ GE328.out) | exact HB.out))))
   have n4_ := Aside0.mk (Kd.R_lower (Kd.R_new' (Kd.R_new' (Kd.R_new' ho1 (Kd.R_lt (rY HO307.out))) (Kd.R_lt (rY HO310.out))) (Kd.R_lt (rY HO320.out))) (below_size (by repeat (first | (with_reducible first | exact HB.out | apply below_alloc | apply pw_below_drewN | apply below_drew1 | refine below_set ?_ GE301.out | refine below_set ?_ GE302.out | refine below_set ?_ GE328.out) | exact HB.out))))
   have n5_ := Aside0.mk (blk_below (bY BK301.out) hb)
   have n6_ := Aside0.mk (blk_below (bY BK302.out) hb)
   have n7_ := Aside0.mk (blk_below (bY BK328.out) hb)
   have n8_ := Aside0.mk (below_step (by repeat (first | (with_reducible first | exact HB.out | apply below_alloc | apply pw_below_drewN | apply below_drew1 | refine below_set ?_ GE301.out | refine below_set ?_ GE302.out | refine below_set ?_ GE328.out) | exact HB.out)) hb)
   clear HO307
   clear HO310
   clear HO320
   clear BK301
   clear BK302
   clear BK328
   clear HB
   have HO307 := n0_
   have HO310 := n1_
   have HO320 := n2_
   have HO323 := n3_
   have HO326 := n4_
   have BK301 := n5_
   have BK302 := n6_
   have BK328 := n7_
   have HB := n8_
   clear n0_ n1_ n2_ n3_ n4_ n5_ n6_ n7_ n8_
   refine hK.out _ _ ⟨(blk_cell BK301.out 0).trans rfl, (blk_cell BK301.out 1).trans rfl, (blk_cell BK302.out 0).trans rfl, (blk_cell BK302.out 1).trans rfl, (blk_cell BK302.out 2).trans rfl, (blk_cell BK302.out 3).trans rfl, (blk_cell BK302.out 4).trans rfl, (blk_cell BK302.out 5).trans rfl, (blk_cell BK302.out 6).trans rfl, (blk_cell BK302.out 7).trans rfl⟩ (fun hHeld => ?_)
   clear hK K
   refine norm_ (a' := ?_) ?_ ?_
   rotate_left
   ·show Act.put _ (some 32) _ = _
    simp only [pS]
    rfl
   refine pure_ (i := 5) (N := some 27) (v := ?_) (a' := ?_) #[T, T, T, T, T, T, F, F, T, F, F] rfl rfl (any_of HT_.out (by kernel_rfl)) (fun _ _ _ h => h) (Or.inl ⟨by rfl, ?_⟩) ?_ ?_
   rotate_left
   ·intro w'
    go_simp
    with_reducible rfl
   rotate_left
   ·simp only [pS]
    rfl
   refine pure_ (i := 6) (N := some 33) (v := ?_) (a' := ?_) #[T, T, T, T, T, T, T, F, T, F, F] rfl rfl (any_of HT_.out (by kernel_rfl)) (fun _ _ _ h => h) (Or.inl ⟨by rfl, ?_⟩) ?_ ?_
   rotate_left
   ·intro w'
    go_simp
    with_reducible rfl
   rotate_left
   ·simp only [pS]
    rfl
   refine pure_ (i := 7) (N := some 34) (v := ?_) (a' := ?_) #[T, T, T, T, T, T, T, T, T, F, F] rfl rfl (any_of HT_.out (by kernel_rfl)) (fun _ _ _ h => h) (Or.inl ⟨by rfl, ?_⟩) ?_ ?_
   rotate_left
   ·intro w'
    go_simp
    with_reducible rfl
   rotate_left
   ·simp only [pS]
    rfl
   exact norm_ (by simp only [putAll, Act.put, List.setIfInBounds_toArray, List.set_cons_zero, List.set_cons_succ]) (hCont (.slice Ao37 t305.length co37, .slice Ao38 t308.length co38, .slice Ao39 t318.length co39, v322, v325, gb328) _ ⟨hHeld, (by (repeat apply rX); exact Kd.R_mono HO307.out (fun _ hk => ⟨hk.1.1.1, ⟨hk.1.1.2, ⟨hk.1.2, hk.2⟩⟩⟩)), (by (repeat apply rX); exact Kd.R_mono HO310.out (fun _ hk => ⟨hk.1.1.1, ⟨hk.1.1.2, ⟨hk.1.2, hk.2⟩⟩⟩)), (by (repeat apply rX); exact Kd.R_mono HO320.out (fun _ hk => ⟨hk.1.1.1.2, ⟨hk.1.1.2, ⟨hk.1.2, hk.2⟩⟩⟩)), (by (repeat apply rX); exact Kd.R_mono HO323.out (fun _ hk => ⟨hk.1.1.2, ⟨hk.1.2, ⟨hk.2, hk.1.1.1⟩⟩⟩)), (by (repeat apply rX); exact Kd.R_mono HO326.out (fun _ hk => ⟨hk.1.1.2, ⟨hk.1.2, ⟨hk.2, hk.1.1.1⟩⟩⟩)), (bY BK301.out), (bY BK302.out), (bY BK328.out), GW328.out, GE328.out, NB301_328.out, NB328_301.out, NB302_328.out, NB328_302.out, (by repeat (first | (with_reducible first | exact HB.out | apply below_alloc | apply pw_below_drewN | apply below_drew1 | refine below_set ?_ GE301.out | refine below_set ?_ GE302.out | refine below_set ?_ GE328.out) | exact HB.out))⟩)
 rintro ⟨v306, v309, v319, v322, v325, gb328⟩ w41 ⟨hS_, h0_, h1_, h2_, h3_, h4_, h5_, h6_, h7_, h8_, h9_, h10_, h11_, h12_, h13_, h14_⟩
 have n0_ : Aside0 (Kd.R (Kd.int .i64) 3 w41 w.heap.size (fun k_ => some k_ ≠ (v309 : Value).ownBlock ∧ some k_ ≠ (v319 : Value).ownBlock ∧ some k_ ≠ (v322 : Value).ownBlock ∧ some k_ ≠ (v325 : Value).ownBlock) v306 t305) := ⟨h0_⟩
 have n1_ : Aside0 (Kd.R (Kd.int .i64) 3 w41 w.heap.size (fun k_ => some k_ ≠ (v306 : Value).ownBlock ∧ some k_ ≠ (v319 : Value).ownBlock ∧ some k_ ≠ (v322 : Value).ownBlock ∧ some k_ ≠ (v325 : Value).ownBlock) v309 t308) := ⟨h1_⟩
 have n2_ : Aside0 (Kd.R (Kd.int .i64) 3 w41 w.heap.size (fun k_ => some k_ ≠ (v306 : Value).ownBlock ∧ some k_ ≠ (v309 : Value).ownBlock ∧ some k_ ≠ (v322 : Value).ownBlock ∧ some k_ ≠ (v325 : Value).ownBlock) v319 t318) := ⟨h2_⟩
 have n3_ : Aside0 (Kd.R (Kd.int .i64) 3 w41 w.heap.size (fun k_ => some k_ ≠ (v306 : Value).ownBlock ∧ some k_ ≠ (v309 : Value).ownBlock ∧ some k_ ≠ (v319 : Value).ownBlock ∧ some k_ ≠ (v325 : Value).ownBlock) v322 t321) := ⟨h3_⟩
 have n4_ : Aside0 (Kd.R (Kd.int .i64) 3 w41 w.heap.size (fun k_ => some k_ ≠ (v306 : Value).ownBlock ∧ some k_ ≠ (v309 : Value).ownBlock ∧ some k_ ≠ (v319 : Value).ownBlock ∧ some k_ ≠ (v322 : Value).ownBlock) v325 t324) := ⟨h4_⟩
 have n5_ : Aside0 (w41.heap[gb301]? = some (.cells #[.slice A0_0 l0_0.length c0_0, .slice A0_1 l0_1.length c0_1] 24 (0, 0))) := ⟨h5_⟩
 have n6_ : Aside0 (w41.heap[gb302]? = some (.cells #[.int .i64 a1_0, .int .i64 a1_1, .int .i64 a1_2, .int .i64 a1_3, .int .i64 a1_4, .int .i64 a1_5, .int .i64 a1_6, .slice A1_7 l1_7.length c1_7] 32 (0, 0))) := ⟨h6_⟩
 have n7_ : Aside0 (w41.heap[gb328]? = some (.cells #[.slice none 0 0, .slice none 0 0] 27 (0, 0))) := ⟨h7_⟩
 have n8_ : Aside0 (w.heap.size ≤ gb328) := ⟨h8_⟩
 have n9_ : Aside0 (w.heap.size ≤ gb328) := ⟨h9_⟩
 have n10_ : Aside0 (gb301 ≠ gb328) := ⟨h10_⟩
 have n11_ : Aside0 (gb328 ≠ gb301) := ⟨h11_⟩
 have n12_ : Aside0 (gb302 ≠ gb328) := ⟨h12_⟩
 have n13_ : Aside0 (gb328 ≠ gb302) := ⟨h13_⟩
 have n14_ : Aside0 (Below w.heap.size w w41) := ⟨h14_⟩
 clear BK301
 clear BK302
 clear HB
 clear h0_ h1_ h2_ h3_ h4_ h5_ h6_ h7_ h8_ h9_ h10_ h11_ h12_ h13_ h14_
 have HO307 := n0_
 have HO310 := n1_
 have HO320 := n2_
 have HO323 := n3_
 have HO326 := n4_
 have BK301 := n5_
 have BK302 := n6_
 have BK328 := n7_
 have GW328 := n8_
 have GE328 := n9_
 have NB301_328 := n10_
 have NB328_301 := n11_
 have NB302_328 := n12_
 have NB328_302 := n13_
 have HB := n14_
 clear n0_ n1_ n2_ n3_ n4_ n5_ n6_ n7_ n8_ n9_ n10_ n11_ n12_ n13_ n14_
 have hHeld : w41.cell? ⟨gb301, 0, none⟩ = some (.slice A0_0 l0_0.length c0_0) ∧ w41.cell? ⟨gb301, 1, none⟩ = some (.slice A0_1 l0_1.length c0_1) ∧ w41.cell? ⟨gb302, 0, none⟩ = some (.int .i64 a1_0) ∧ w41.cell? ⟨gb302, 1, none⟩ = some (.int .i64 a1_1) ∧ w41.cell? ⟨gb302, 2, none⟩ = some (.int .i64 a1_2) ∧ w41.cell? ⟨gb302, 3, none⟩ = some (.int .i64 a1_3) ∧ w41.cell? ⟨gb302, 4, none⟩ = some (.int .i64 a1_4) ∧ w41.cell? ⟨gb302, 5, none⟩ = some (.int .i64 a1_5) ∧ w41.cell? ⟨gb302, 6, none⟩ = some (.int .i64 a1_6) ∧ w41.cell? ⟨gb302, 7, none⟩ = some (.slice A1_7 l1_7.length c1_7) := hS_
 obtain ⟨Ao42, co42, eo42⟩ := Kd.R_slice HO323.out
 (first | subst eo42 | (injection eo42 with f1_ f2_ f3_; have f4_ := f1_.symm; have f5_ := f3_.symm; clear f1_ f2_ f3_; subst f4_; subst f5_))
 obtain ⟨Ao44, co44, eo44⟩ := Kd.R_slice HO326.out
 (first | subst eo44 | (injection eo44 with f1_ f2_ f3_; have f4_ := f1_.symm; have f5_ := f3_.symm; clear f1_ f2_ f3_; subst f4_; subst f5_))
 refine norm_ (a' := ?_) ?_ ?_
 rotate_left
 ·simp only [putAll, Act.put, List.setIfInBounds_toArray, List.set_cons_zero, List.set_cons_succ]
  rfl
 refine one_ (i := 9) (N := none) #[T, T, T, T, T, T, T, T, T, T, F] rfl rfl (one_of HT_.out (by kernel_rfl)) (by decide) (fun K hK => ?_)
 have hs43 : w41.cell? ⟨gb328, 0, none⟩ = some (.slice none 0 0) := (blk_cell BK328.out 0).trans rfl
 have hfs43 := blk_frozen BK328.out 0
 have hns43_0 := NB301_328.out
 have hns43_1 := NB302_328.out
 have hms43_0 := NB328_301.out
 have hms43_1 := NB328_302.out
 have hs45 : w41.cell? ⟨gb328, 1, none⟩ = some (.slice none 0 0) := (blk_cell BK328.out 1).trans rfl
 have hfs45 := blk_frozen BK328.out 1
 have hns45_0 := NB301_328.out
 have hns45_1 := NB302_328.out
 have hms45_0 := NB328_301.out
 have hms45_1 := NB328_302.out
 refine skip_ (w1 := ?_) (by rfl) rfl ?_ ?_
 rotate_left
 ·go_simp
  rfl
 refine hK.out _ _ ⟨((cell_far (p := ⟨gb328, _, none⟩) NB301_328.out _).trans (((cell_far (p := ⟨gb328, _, none⟩) NB301_328.out _).trans (hHeld.1)))), ((cell_far (p := ⟨gb328, _, none⟩) NB301_328.out _).trans (((cell_far (p := ⟨gb328, _, none⟩) NB301_328.out _).trans (hHeld.2.1)))), ((cell_far (p := ⟨gb328, _, none⟩) NB302_328.out _).trans (((cell_far (p := ⟨gb328, _, none⟩) NB302_328.out _).trans (hHeld.2.2.1)))), ((cell_far (p := ⟨gb328, _, none⟩) NB302_328.out _).trans (((cell_far (p := ⟨gb328, _, none⟩) NB302_328.out _).trans (hHeld.2.2.2.1)))), ((cell_far (p := ⟨gb328, _, none⟩) NB302_328.out _).trans (((cell_far (p := ⟨gb328, _, none⟩) NB302_328.out _).trans (hHeld.2.2.2.2.1)))), ((cell_far (p := ⟨gb328, _, none⟩) NB302_328.out _).trans (((cell_far (p := ⟨gb328, _, none⟩) NB302_328.out _).trans (hHeld.2.2.2.2.2.1)))), ((cell_far (p := ⟨gb328, _, none⟩) NB302_328.out _).trans (((cell_far (p := ⟨gb328, _, none⟩) NB302_328.out _).trans (hHeld.2.2.2.2.2.2.1)))), ((cell_far (p := ⟨gb328, _, none⟩) NB302_328.out _).trans (((cell_far (p := ⟨gb328, _, none⟩) NB302_328.out _).trans (hHeld.2.2.2.2.2.2.2.1)))), ((cell_far (p := ⟨gb328, _, none⟩) NB302_328.out _).trans (((cell_far (p := ⟨gb328, _, none⟩) NB302_328.out _).trans (hHeld.2.2.2.2.2.2.2.2.1)))), ((cell_far (p := ⟨gb328, _, none⟩) NB302_328.out _).trans (((cell_far (p := ⟨gb328, _, none⟩) NB302_328.out _).trans (hHeld.2.2.2.2.2.2.2.2.2))))⟩ (fun hHeld => ?_)
 clear hK K
 refine pure_ (i := 10) (N := some 7) (v := ?_) (a' := ?_) #[T, T, T, T, T, T, T, T, T, T, T] rfl rfl (any_of HT_.out (by kernel_rfl)) (fun _ _ _ h => h) (Or.inl ⟨by rfl, ?_⟩) ?_ ?_
 rotate_left
 ·intro w'
  go_simp
  with_reducible rfl
 rotate_left
 ·simp only [pS]
  rfl
 refine done_ (done_of HT_.out (by kernel_rfl)) ?_
 have hnb46 := NB301_328.out
 have hnc46 := NB328_301.out
 obtain ⟨hcz47_0, hcz47_1, hfz47_0, hfz47_1⟩ := b2 BK301.out
 go_upto_region 12 with (first | ((with_reducible refine gate_callee (f := 17) rfl ?_); refine goesL_ (some 36) rfl rfl Try.func17 (by kernel_rfl) rfl #[.agg #[.slice A0_0 l0_0.length c0_0, .slice A0_1 l0_1.length c0_1]] rfl (by (try simp only [List.map_toArray, List.map_cons, List.map_nil]); first | done | rfl) ?_; (with_reducible refine (laws_toCredits.calls k _ _ l0_0 _ _ l0_1 t329 t332 _ ?side1 ?side2 ?side3 ?side4 A22.out).mono ?_); (case side1 => exact Kd.C_below HR0_0.out (by repeat (first | (with_reducible first | exact HB.out | apply below_alloc | apply pw_below_drewN | apply below_drew1 | refine below_set ?_ GE301.out | refine below_set ?_ GE302.out | refine below_set ?_ GE328.out) | exact HB.out))); (case side2 => exact HC0_0.out); (case side3 => exact Kd.C_below HR0_1.out (by repeat (first | (with_reducible first | exact HB.out | apply below_alloc | apply pw_below_drewN | apply below_drew1 | refine below_set ?_ GE301.out | refine below_set ?_ GE302.out | refine below_set ?_ GE328.out) | exact HB.out))); (case side4 => exact HC0_1.out); rintro e w48 ⟨v330, v333, rfl, ho0, ho1, hb⟩; refine ⟨_, rfl, ?_⟩; have n0_ := Aside0.mk (Kd.R_mono (Kd.R_told (Kd.R_told (Kd.R_old (by (repeat apply rX); exact (Kd.R_mono (Kd.R_far (p := ⟨gb328, 1, none⟩) (Kd.R_far (p := ⟨gb328, 0, none⟩) (Kd.R_types HO307.out BK328.out (by decide)) (fun _ hk => hk.2) (.slice Ao42 t321.length co42)) (fun _ hk => hk.2) (.slice Ao44 t324.length co44)) (fun _ h_ => h_.1))) hb) (Kd.R_base ho0)) (Kd.R_base ho1)) (fun _ h_ => h_.1)); have n1_ := Aside0.mk (Kd.R_mono (Kd.R_told (Kd.R_told (Kd.R_old (by (repeat apply rX); exact (Kd.R_mono (Kd.R_far (p := ⟨gb328, 1, none⟩) (Kd.R_far (p := ⟨gb328, 0, none⟩) (Kd.R_types HO310.out BK328.out (by decide)) (fun _ hk => hk.2) (.slice Ao42 t321.length co42)) (fun _ hk => hk.2) (.slice Ao44 t324.length co44)) (fun _ h_ => h_.1))) hb) (Kd.R_base ho0)) (Kd.R_base ho1)) (fun _ h_ => h_.1)); have n2_ := Aside0.mk (Kd.R_mono (Kd.R_told (Kd.R_told (Kd.R_old (by (repeat apply rX); exact (Kd.R_mono (Kd.R_far (p := ⟨gb328, 1, none⟩) (Kd.R_far (p := ⟨gb328, 0, none⟩) (Kd.R_types HO320.out BK328.out (by decide)) (fun _ hk => hk.2) (.slice Ao42 t321.length co42)) (fun _ hk => hk.2) (.slice Ao44 t324.length co44)) (fun _ h_ => h_.1))) hb) (Kd.R_base ho0)) (Kd.R_base ho1)) (fun _ h_ => h_.1)); have n3_ := Aside0.mk (Kd.R_mono (Kd.R_told (Kd.R_told (Kd.R_old (by (repeat apply rX); exact (Kd.R_mono (Kd.R_far (p := ⟨gb328, 1, none⟩) (Kd.R_far (p := ⟨gb328, 0, none⟩) (Kd.R_types HO323.out BK328.out (by decide)) (fun _ hk => hk.2) (.slice Ao42 t321.length co42)) (fun _ hk => hk.2) (.slice Ao44 t324.length co44)) (fun _ h_ => h_.1))) hb) (Kd.R_base ho0)) (Kd.R_base ho1)) (fun _ h_ => h_.1)); have n4_ := Aside0.mk (Kd.R_mono (Kd.R_told (Kd.R_told (Kd.R_old (by (repeat apply rX); exact (Kd.R_mono (Kd.R_far (p := ⟨gb328, 1, none⟩) (Kd.R_far (p := ⟨gb328, 0, none⟩) (Kd.R_types HO326.out BK328.out (by decide)) (fun _ hk => hk.2) (.slice Ao42 t321.length co42)) (fun _ hk => hk.2) (.slice Ao44 t324.length co44)) (fun _ h_ => h_.1))) hb) (Kd.R_base ho0)) (Kd.R_base ho1)) (fun _ h_ => h_.1)); have n5_ := Aside0.mk (Kd.R_lower (Kd.R_new' (Kd.R_new' (Kd.R_new' (Kd.R_new' (Kd.R_new' ho0 (Kd.R_lt (by (repeat apply rX); exact (Kd.R_mono (Kd.R_far (p := ⟨gb328, 1, none⟩) (Kd.R_far (p := ⟨gb328, 0, none⟩) (Kd.R_types HO307.out BK328.out (by decide)) (fun _ hk => hk.2) (.slice Ao42 t321.length co42)) (fun _ hk => hk.2) (.slice Ao44 t324.length co44)) (fun _ h_ => h_.1))))) (Kd.R_lt (by (repeat apply rX); exact (Kd.R_mono (Kd.R_far (p := ⟨gb328, 1, none⟩) (Kd.R_far (p := ⟨gb328, 0, none⟩) (Kd.R_types HO310.out BK328.out (by decide)) (fun _ hk => hk.2) (.slice Ao42 t321.length co42)) (fun _ hk => hk.2) (.slice Ao44 t324.length co44)) (fun _ h_ => h_.1))))) (Kd.R_lt (by (repeat apply rX); exact (Kd.R_mono (Kd.R_far (p := ⟨gb328, 1, none⟩) (Kd.R_far (p := ⟨gb328, 0, none⟩) (Kd.R_types HO320.out BK328.out (by decide)) (fun _ hk => hk.2) (.slice Ao42 t321.length co42)) (fun _ hk => hk.2) (.slice Ao44 t324.length co44)) (fun _ h_ => h_.1))))) (Kd.R_lt (by (repeat apply rX); exact (Kd.R_mono (Kd.R_far (p := ⟨gb328, 1, none⟩) (Kd.R_far (p := ⟨gb328, 0, none⟩) (Kd.R_types HO323.out BK328.out (by decide)) (fun _ hk => hk.2) (.slice Ao42 t321.length co42)) (fun _ hk => hk.2) (.slice Ao44 t324.length co44)) (fun _ h_ => h_.1))))) (Kd.R_lt (by (repeat apply rX); exact (Kd.R_mono (Kd.R_far (p := ⟨gb328, 1, none⟩) (Kd.R_far (p := ⟨gb328, 0, none⟩) (Kd.R_types HO326.out BK328.out (by decide)) (fun _ hk => hk.2) (.slice Ao42 t321.length co42)) (fun _ hk => hk.2) (.slice Ao44 t324.length co44)) (fun _ h_ => h_.1))))) (below_size (by repeat (first | (with_reducible first | exact HB.out | apply below_alloc | apply pw_below_drewN | apply below_drew1 | refine below_set ?_ GE301.out | refine below_set ?_ GE302.out | refine below_set ?_ GE328.out) | exact HB.out)))); have n6_ := Aside0.mk (Kd.R_lower (Kd.R_new' (Kd.R_new' (Kd.R_new' (Kd.R_new' (Kd.R_new' ho1 (Kd.R_lt (by (repeat apply rX); exact (Kd.R_mono (Kd.R_far (p := ⟨gb328, 1, none⟩) (Kd.R_far (p := ⟨gb328, 0, none⟩) (Kd.R_types HO307.out BK328.out (by decide)) (fun _ hk => hk.2) (.slice Ao42 t321.length co42)) (fun _ hk => hk.2) (.slice Ao44 t324.length co44)) (fun _ h_ => h_.1))))) (Kd.R_lt (by (repeat apply rX); exact (Kd.R_mono (Kd.R_far (p := ⟨gb328, 1, none⟩) (Kd.R_far (p := ⟨gb328, 0, none⟩) (Kd.R_types HO310.out BK328.out (by decide)) (fun _ hk => hk.2) (.slice Ao42 t321.length co42)) (fun _ hk => hk.2) (.slice Ao44 t324.length co44)) (fun _ h_ => h_.1))))) (Kd.R_lt (by (repeat apply rX); exact (Kd.R_mono (Kd.R_far (p := ⟨gb328, 1, none⟩) (Kd.R_far (p := ⟨gb328, 0, none⟩) (Kd.R_types HO320.out BK328.out (by decide)) (fun _ hk => hk.2) (.slice Ao42 t321.length co42)) (fun _ hk => hk.2) (.slice Ao44 t324.length co44)) (fun _ h_ => h_.1))))) (Kd.R_lt (by (repeat apply rX); exact (Kd.R_mono (Kd.R_far (p := ⟨gb328, 1, none⟩) (Kd.R_far (p := ⟨gb328, 0, none⟩) (Kd.R_types HO323.out BK328.out (by decide)) (fun _ hk => hk.2) (.slice Ao42 t321.length co42)) (fun _ hk => hk.2) (.slice Ao44 t324.length co44)) (fun _ h_ => h_.1))))) (Kd.R_lt (by (repeat apply rX); exact (Kd.R_mono (Kd.R_far (p := ⟨gb328, 1, none⟩) (Kd.R_far (p := ⟨gb328, 0, none⟩) (Kd.R_types HO326.out BK328.out (by decide)) (fun _ hk => hk.2) (.slice Ao42 t321.length co42)) (fun _ hk => hk.2) (.slice Ao44 t324.length co44)) (fun _ h_ => h_.1))))) (below_size (by repeat (first | (with_reducible first | exact HB.out | apply below_alloc | apply pw_below_drewN | apply below_drew1 | refine below_set ?_ GE301.out | refine below_set ?_ GE302.out | refine below_set ?_ GE328.out) | exact HB.out)))); have n7_ := Aside0.mk (blk_below (g := gb301) (o := .cells #[.slice A0_0 l0_0.length c0_0, .slice A0_1 l0_1.length c0_1] 24 (0, 0)) (by (repeat apply bX); refine blk_far ?_ NB301_328.out _; (repeat apply bX); refine blk_far ?_ NB301_328.out _; (repeat apply bX); exact BK301.out) hb); have n8_ := Aside0.mk (blk_below (g := gb302) (o := .cells #[.int .i64 a1_0, .int .i64 a1_1, .int .i64 a1_2, .int .i64 a1_3, .int .i64 a1_4, .int .i64 a1_5, .int .i64 a1_6, .slice A1_7 l1_7.length c1_7] 32 (0, 0)) (by (repeat apply bX); refine blk_far ?_ NB302_328.out _; (repeat apply bX); refine blk_far ?_ NB302_328.out _; (repeat apply bX); exact BK302.out) hb); have n9_ := Aside0.mk (blk_below (g := gb328) (o := .cells #[.slice Ao42 t321.length co42, .slice Ao44 t324.length co44] 27 (0, 0)) (by (repeat apply bX); refine blk_put (cs := #[.slice Ao42 t321.length co42, .slice none 0 0]) ?_ 1 _ rfl; (repeat apply bX); refine blk_put (cs := #[.slice none 0 0, .slice none 0 0]) ?_ 0 _ rfl; (repeat apply bX); exact BK328.out) hb); have n10_ := Aside0.mk (below_step (by repeat (first | (with_reducible first | exact HB.out | apply below_alloc | apply pw_below_drewN | apply below_drew1 | refine below_set ?_ GE301.out | refine below_set ?_ GE302.out | refine below_set ?_ GE328.out) | exact HB.out)) hb); clear HO307; clear HO310; clear HO320; clear HO323; clear HO326; clear BK301; clear BK302; clear BK328; clear HB; have HO307 := n0_; have HO310 := n1_; have HO320 := n2_; have HO323 := n3_; have HO326 := n4_; have HO331 := n5_; have HO334 := n6_; have BK301 := n7_; have BK302 := n8_; have BK328 := n9_; have HB := n10_; clear n0_ n1_ n2_ n3_ n4_ n5_ n6_ n7_ n8_ n9_ n10_; (try clear hb); (try clear hb2); (try clear hk); (try clear hi); (try clear ho0); (try clear ho1)) | ((with_reducible refine gate_dst (N := 8) rfl ?_); refine box_event ?hg (N := 8) ?hd (cs := #[.slice none 0 0, .slice none 0 0]) (t := 27) ?hr ?_; (case hd => rfl); (case hg => rfl); (case hr => first | (go_simp; done) | (go_simp; rfl)); intro gb335 hg w49 hbox hb; have n0_ := Aside0.mk (Kd.R_below (rY HO307.out) hb); have n1_ := Aside0.mk (Kd.R_below (rY HO310.out) hb); have n2_ := Aside0.mk (Kd.R_below (rY HO320.out) hb); have n3_ := Aside0.mk (Kd.R_below (rY HO323.out) hb); have n4_ := Aside0.mk (Kd.R_below (rY HO326.out) hb); have n5_ := Aside0.mk (Kd.R_below (rY HO331.out) hb); have n6_ := Aside0.mk (Kd.R_below (rY HO334.out) hb); have n7_ := Aside0.mk (blk_below (bY BK301.out) hb); have n8_ := Aside0.mk (blk_below (bY BK302.out) hb); have n9_ := Aside0.mk (blk_below (bY BK328.out) hb); have n10_ := Aside0.mk (below_step (by repeat (first | (with_reducible first | exact HB.out | apply below_alloc | apply pw_below_drewN | apply below_drew1 | refine below_set ?_ GE301.out | refine below_set ?_ GE302.out | refine below_set ?_ GE328.out) | exact HB.out)) hb); have n11_ := Aside0.mk (hbox); have n12_ := Aside0.mk ((by rw [hg]; exact (below_size (by repeat (first | (with_reducible first | exact HB.out | apply below_alloc | apply pw_below_drewN | apply below_drew1 | refine below_set ?_ GE301.out | refine below_set ?_ GE302.out | refine below_set ?_ GE328.out) | exact HB.out))) : w.heap.size ≤ gb335)); have n13_ := Aside0.mk ((by rw [hg]; exact (below_size (by repeat (first | (with_reducible first | exact HB.out | apply below_alloc | apply pw_below_drewN | apply below_drew1 | refine below_set ?_ GE301.out | refine below_set ?_ GE302.out | refine below_set ?_ GE328.out) | exact HB.out))) : w.heap.size ≤ gb335)); have n14_ := Aside0.mk ((by rw [hg]; exact Nat.ne_of_lt (blk_lt (bY BK301.out)) : gb301 ≠ gb335)); have n15_ := Aside0.mk ((by rw [hg]; exact Nat.ne_of_gt (blk_lt (bY BK301.out)) : gb335 ≠ gb301)); have n16_ := Aside0.mk ((by rw [hg]; exact Nat.ne_of_lt (blk_lt (bY BK302.out)) : gb302 ≠ gb335)); have n17_ := Aside0.mk ((by rw [hg]; exact Nat.ne_of_gt (blk_lt (bY BK302.out)) : gb335 ≠ gb302)); have n18_ := Aside0.mk ((by rw [hg]; exact Nat.ne_of_lt (blk_lt (bY BK328.out)) : gb328 ≠ gb335)); have n19_ := Aside0.mk ((by rw [hg]; exact Nat.ne_of_gt (blk_lt (bY BK328.out)) : gb335 ≠ gb328)); clear HO307; clear HO310; clear HO320; clear HO323; clear HO326; clear HO331; clear HO334; clear BK301; clear BK302; clear BK328; clear HB; have HO307 := n0_; have HO310 := n1_; have HO320 := n2_; have HO323 := n3_; have HO326 := n4_; have HO331 := n5_; have HO334 := n6_; have BK301 := n7_; have BK302 := n8_; have BK328 := n9_; have HB := n10_; have BK335 := n11_; have GW335 := n12_; have GE335 := n13_; have NB301_335 := n14_; have NB335_301 := n15_; have NB302_335 := n16_; have NB335_302 := n17_; have NB328_335 := n18_; have NB335_328 := n19_; clear n0_ n1_ n2_ n3_ n4_ n5_ n6_ n7_ n8_ n9_ n10_ n11_ n12_ n13_ n14_ n15_ n16_ n17_ n18_ n19_; clear hb hbox hg; obtain ⟨Ao50, co50, eo50⟩ := Kd.R_slice HO331.out; subst eo50; have hnb51 := NB335_301.out; have hnc51 := NB301_335.out; have hnb52 := NB335_302.out; have hnc52 := NB302_335.out; have hnb53 := NB335_328.out; have hnc53 := NB328_335.out; have hcz54_0 : w49.cell? ⟨gb335, 0, none⟩ = some (.slice none 0 0) := (blk_cell BK335.out 0).trans rfl; have hcz54_1 : w49.cell? ⟨gb335, 1, none⟩ = some (.slice none 0 0) := (blk_cell BK335.out 1).trans rfl; have hfz54_0 := blk_frozen BK335.out 0; have hfz54_1 := blk_frozen BK335.out 1; obtain ⟨Ao55, co55, eo55⟩ := Kd.R_slice HO334.out; subst eo55; have hnb56 := NB302_328.out; have hnc56 := NB328_302.out; have hcz57_0 : w49.cell? ⟨gb302, 0, none⟩ = some (.int .i64 a1_0) := (blk_cell BK302.out 0).trans rfl; have hcz57_1 : w49.cell? ⟨gb302, 1, none⟩ = some (.int .i64 a1_1) := (blk_cell BK302.out 1).trans rfl; have hcz57_2 : w49.cell? ⟨gb302, 2, none⟩ = some (.int .i64 a1_2) := (blk_cell BK302.out 2).trans rfl; have hcz57_3 : w49.cell? ⟨gb302, 3, none⟩ = some (.int .i64 a1_3) := (blk_cell BK302.out 3).trans rfl; have hcz57_4 : w49.cell? ⟨gb302, 4, none⟩ = some (.int .i64 a1_4) := (blk_cell BK302.out 4).trans rfl; have hcz57_5 : w49.cell? ⟨gb302, 5, none⟩ = some (.int .i64 a1_5) := (blk_cell BK302.out 5).trans rfl; have hcz57_6 : w49.cell? ⟨gb302, 6, none⟩ = some (.int .i64 a1_6) := (blk_cell BK302.out 6).trans rfl; have hcz57_7 : w49.cell? ⟨gb302, 7, none⟩ = some (.slice A1_7 l1_7.length c1_7) := (blk_cell BK302.out 7).trans rfl; have hfz57_0 := blk_frozen BK302.out 0; have hfz57_1 := blk_frozen BK302.out 1; have hfz57_2 := blk_frozen BK302.out 2; have hfz57_3 := blk_frozen BK302.out 3; have hfz57_4 := blk_frozen BK302.out 4; have hfz57_5 := blk_frozen BK302.out 5; have hfz57_6 := blk_frozen BK302.out 6; have hfz57_7 := blk_frozen BK302.out 7) | ((with_reducible refine gate_callee (f := 22) rfl ?_); refine goesL_ (some 38) rfl rfl Try.func22 (by kernel_rfl) rfl #[.agg #[.int .i64 a1_0, .int .i64 a1_1, .int .i64 a1_2, .int .i64 a1_3, .int .i64 a1_4, .int .i64 a1_5, .int .i64 a1_6, .slice A1_7 l1_7.length c1_7]] rfl (by (try simp only [List.map_toArray, List.map_cons, List.map_nil]); first | done | rfl) ?_; (with_reducible refine (laws_toPacket.calls k a1_0 a1_1 a1_2 a1_3 a1_4 a1_5 a1_6 _ _ l1_7 t336 t337 t338 t339 t340 t341 t342 t343 _ ?side1 ?side2 A23.out).mono ?_); (case side1 => exact Kd.C_below HR1_7.out (by repeat (first | (with_reducible first | exact HB.out | apply below_alloc | apply pw_below_drewN | apply below_drew1 | refine below_set ?_ GE301.out | refine below_set ?_ GE302.out | refine below_set ?_ GE328.out | refine below_set ?_ GE335.out) | exact HB.out))); (case side2 => exact HC1_7.out); rintro e w58 ⟨v344, rfl, ho0, hb⟩; refine ⟨_, rfl, ?_⟩; have n0_ := Aside0.mk (Kd.R_elder' (by (repeat apply rX); exact (Kd.R_mono (Kd.R_far (p := ⟨gb335, 1, none⟩) (Kd.R_far (p := ⟨gb335, 0, none⟩) (Kd.R_types HO307.out BK335.out (by decide)) (fun _ hk => hk.2) (.slice Ao50 t329.length co50)) (fun _ hk => hk.2) (.slice Ao55 t332.length co55)) (fun _ h_ => h_.1))) (Kd.R_base ho0) hb); have n1_ := Aside0.mk (Kd.R_elder' (by (repeat apply rX); exact (Kd.R_mono (Kd.R_far (p := ⟨gb335, 1, none⟩) (Kd.R_far (p := ⟨gb335, 0, none⟩) (Kd.R_types HO310.out BK335.out (by decide)) (fun _ hk => hk.2) (.slice Ao50 t329.length co50)) (fun _ hk => hk.2) (.slice Ao55 t332.length co55)) (fun _ h_ => h_.1))) (Kd.R_base ho0) hb); have n2_ := Aside0.mk (Kd.R_elder' (by (repeat apply rX); exact (Kd.R_mono (Kd.R_far (p := ⟨gb335, 1, none⟩) (Kd.R_far (p := ⟨gb335, 0, none⟩) (Kd.R_types HO320.out BK335.out (by decide)) (fun _ hk => hk.2) (.slice Ao50 t329.length co50)) (fun _ hk => hk.2) (.slice Ao55 t332.length co55)) (fun _ h_ => h_.1))) (Kd.R_base ho0) hb); have n3_ := Aside0.mk (Kd.R_elder' (by (repeat apply rX); exact (Kd.R_mono (Kd.R_far (p := ⟨gb335, 1, none⟩) (Kd.R_far (p := ⟨gb335, 0, none⟩) (Kd.R_types HO323.out BK335.out (by decide)) (fun _ hk => hk.2) (.slice Ao50 t329.length co50)) (fun _ hk => hk.2) (.slice Ao55 t332.length co55)) (fun _ h_ => h_.1))) (Kd.R_base ho0) hb); have n4_ := Aside0.mk (Kd.R_elder' (by (repeat apply rX); exact (Kd.R_mono (Kd.R_far (p := ⟨gb335, 1, none⟩) (Kd.R_far (p := ⟨gb335, 0, none⟩) (Kd.R_types HO326.out BK335.out (by decide)) (fun _ hk => hk.2) (.slice Ao50 t329.length co50)) (fun _ hk => hk.2) (.slice Ao55 t332.length co55)) (fun _ h_ => h_.1))) (Kd.R_base ho0) hb); have n5_ := Aside0.mk (Kd.R_elder' (by (repeat apply rX); exact (Kd.R_mono (Kd.R_far (p := ⟨gb335, 1, none⟩) (Kd.R_far (p := ⟨gb335, 0, none⟩) (Kd.R_types HO331.out BK335.out (by decide)) (fun _ hk => hk.2) (.slice Ao50 t329.length co50)) (fun _ hk => hk.2) (.slice Ao55 t332.length co55)) (fun _ h_ => h_.1))) (Kd.R_base ho0) hb); have n6_ := Aside0.mk (Kd.R_elder' (by (repeat apply rX); exact (Kd.R_mono (Kd.R_far (p := ⟨gb335, 1, none⟩) (Kd.R_far (p := ⟨gb335, 0, none⟩) (Kd.R_types HO334.out BK335.out (by decide)) (fun _ hk => hk.2) (.slice Ao50 t329.length co50)) (fun _ hk => hk.2) (.slice Ao55 t332.length co55)) (fun _ h_ => h_.1))) (Kd.R_base ho0) hb); have n7_ := Aside0.mk (Kd.R_lower (Kd.R_new' (Kd.R_new' (Kd.R_new' (Kd.R_new' (Kd.R_new' (Kd.R_new' (Kd.R_new' ho0 (Kd.R_lt (by (repeat apply rX); exact (Kd.R_mono (Kd.R_far (p := ⟨gb335, 1, none⟩) (Kd.R_far (p := ⟨gb335, 0, none⟩) (Kd.R_types HO307.out BK335.out (by decide)) (fun _ hk => hk.2) (.slice Ao50 t329.length co50)) (fun _ hk => hk.2) (.slice Ao55 t332.length co55)) (fun _ h_ => h_.1))))) (Kd.R_lt (by (repeat apply rX); exact (Kd.R_mono (Kd.R_far (p := ⟨gb335, 1, none⟩) (Kd.R_far (p := ⟨gb335, 0, none⟩) (Kd.R_types HO310.out BK335.out (by decide)) (fun _ hk => hk.2) (.slice Ao50 t329.length co50)) (fun _ hk => hk.2) (.slice Ao55 t332.length co55)) (fun _ h_ => h_.1))))) (Kd.R_lt (by (repeat apply rX); exact (Kd.R_mono (Kd.R_far (p := ⟨gb335, 1, none⟩) (Kd.R_far (p := ⟨gb335, 0, none⟩) (Kd.R_types HO320.out BK335.out (by decide)) (fun _ hk => hk.2) (.slice Ao50 t329.length co50)) (fun _ hk => hk.2) (.slice Ao55 t332.length co55)) (fun _ h_ => h_.1))))) (Kd.R_lt (by (repeat apply rX); exact (Kd.R_mono (Kd.R_far (p := ⟨gb335, 1, none⟩) (Kd.R_far (p := ⟨gb335, 0, none⟩) (Kd.R_types HO323.out BK335.out (by decide)) (fun _ hk => hk.2) (.slice Ao50 t329.length co50)) (fun _ hk => hk.2) (.slice Ao55 t332.length co55)) (fun _ h_ => h_.1))))) (Kd.R_lt (by (repeat apply rX); exact (Kd.R_mono (Kd.R_far (p := ⟨gb335, 1, none⟩) (Kd.R_far (p := ⟨gb335, 0, none⟩) (Kd.R_types HO326.out BK335.out (by decide)) (fun _ hk => hk.2) (.slice Ao50 t329.length co50)) (fun _ hk => hk.2) (.slice Ao55 t332.length co55)) (fun _ h_ => h_.1))))) (Kd.R_lt (by (repeat apply rX); exact (Kd.R_mono (Kd.R_far (p := ⟨gb335, 1, none⟩) (Kd.R_far (p := ⟨gb335, 0, none⟩) (Kd.R_types HO331.out BK335.out (by decide)) (fun _ hk => hk.2) (.slice Ao50 t329.length co50)) (fun _ hk => hk.2) (.slice Ao55 t332.length co55)) (fun _ h_ => h_.1))))) (Kd.R_lt (by (repeat apply rX); exact (Kd.R_mono (Kd.R_far (p := ⟨gb335, 1, none⟩) (Kd.R_far (p := ⟨gb335, 0, none⟩) (Kd.R_types HO334.out BK335.out (by decide)) (fun _ hk => hk.2) (.slice Ao50 t329.length co50)) (fun _ hk => hk.2) (.slice Ao55 t332.length co55)) (fun _ h_ => h_.1))))) (below_size (by repeat (first | (with_reducible first | exact HB.out | apply below_alloc | apply pw_below_drewN | apply below_drew1 | refine below_set ?_ GE301.out | refine below_set ?_ GE302.out | refine below_set ?_ GE328.out | refine below_set ?_ GE335.out) | exact HB.out)))); have n8_ := Aside0.mk (blk_below (g := gb301) (o := .cells #[.slice A0_0 l0_0.length c0_0, .slice A0_1 l0_1.length c0_1] 24 (0, 0)) (by (repeat apply bX); refine blk_far ?_ NB301_335.out _; (repeat apply bX); refine blk_far ?_ NB301_335.out _; (repeat apply bX); exact BK301.out) hb); have n9_ := Aside0.mk (blk_below (g := gb302) (o := .cells #[.int .i64 a1_0, .int .i64 a1_1, .int .i64 a1_2, .int .i64 a1_3, .int .i64 a1_4, .int .i64 a1_5, .int .i64 a1_6, .slice A1_7 l1_7.length c1_7] 32 (0, 0)) (by (repeat apply bX); refine blk_far ?_ NB302_335.out _; (repeat apply bX); refine blk_far ?_ NB302_335.out _; (repeat apply bX); exact BK302.out) hb); have n10_ := Aside0.mk (blk_below (g := gb328) (o := .cells #[.slice Ao42 t321.length co42, .slice Ao44 t324.length co44] 27 (0, 0)) (by (repeat apply bX); refine blk_far ?_ NB328_335.out _; (repeat apply bX); refine blk_far ?_ NB328_335.out _; (repeat apply bX); exact BK328.out) hb); have n11_ := Aside0.mk (blk_below (g := gb335) (o := .cells #[.slice Ao50 t329.length co50, .slice Ao55 t332.length co55] 27 (0, 0)) (by (repeat apply bX); refine blk_put (cs := #[.slice Ao50 t329.length co50, .slice none 0 0]) ?_ 1 _ rfl; (repeat apply bX); refine blk_put (cs := #[.slice none 0 0, .slice none 0 0]) ?_ 0 _ rfl; (repeat apply bX); exact BK335.out) hb); have n12_ := Aside0.mk (below_step (by repeat (first | (with_reducible first | exact HB.out | apply below_alloc | apply pw_below_drewN | apply below_drew1 | refine below_set ?_ GE301.out | refine below_set ?_ GE302.out | refine below_set ?_ GE328.out | refine below_set ?_ GE335.out) | exact HB.out)) hb); clear HO307; clear HO310; clear HO320; clear HO323; clear HO326; clear HO331; clear HO334; clear BK301; clear BK302; clear BK328; clear BK335; clear HB; have HO307 := n0_; have HO310 := n1_; have HO320 := n2_; have HO323 := n3_; have HO326 := n4_; have HO331 := n5_; have HO334 := n6_; have HO345 := n7_; have BK301 := n8_; have BK302 := n9_; have BK328 := n10_; have BK335 := n11_; have HB := n12_; clear n0_ n1_ n2_ n3_ n4_ n5_ n6_ n7_ n8_ n9_ n10_ n11_ n12_; (try clear hb); (try clear hb2); (try clear hk); (try clear hi); (try clear ho0)) | ((with_reducible refine gate_dst (N := 9) rfl ?_); refine box_event ?hg (N := 9) ?hd (cs := #[.int .i64 0, .int .i64 0, .int .i64 0, .int .i64 0, .int .i64 0, .int .i64 0, .int .i64 0, .slice none 0 0]) (t := 35) ?hr ?_; (case hd => rfl); (case hg => rfl); (case hr => first | (go_simp; done) | (go_simp; rfl)); intro gb346 hg w59 hbox hb; have n0_ := Aside0.mk (Kd.R_below (rY HO307.out) hb); have n1_ := Aside0.mk (Kd.R_below (rY HO310.out) hb); have n2_ := Aside0.mk (Kd.R_below (rY HO320.out) hb); have n3_ := Aside0.mk (Kd.R_below (rY HO323.out) hb); have n4_ := Aside0.mk (Kd.R_below (rY HO326.out) hb); have n5_ := Aside0.mk (Kd.R_below (rY HO331.out) hb); have n6_ := Aside0.mk (Kd.R_below (rY HO334.out) hb); have n7_ := Aside0.mk (Kd.R_below (rY HO345.out) hb); have n8_ := Aside0.mk (blk_below (bY BK301.out) hb); have n9_ := Aside0.mk (blk_below (bY BK302.out) hb); have n10_ := Aside0.mk (blk_below (bY BK328.out) hb); have n11_ := Aside0.mk (blk_below (bY BK335.out) hb); have n12_ := Aside0.mk (below_step (by repeat (first | (with_reducible first | exact HB.out | apply below_alloc | apply pw_below_drewN | apply below_drew1 | refine below_set ?_ GE301.out | refine below_set ?_ GE302.out | refine below_set ?_ GE328.out | refine below_set ?_ GE335.out) | exact HB.out)) hb); have n13_ := Aside0.mk (hbox); have n14_ := Aside0.mk ((by rw [hg]; exact (below_size (by repeat (first | (with_reducible first | exact HB.out | apply below_alloc | apply pw_below_drewN | apply below_drew1 | refine below_set ?_ GE301.out | refine below_set ?_ GE302.out | refine below_set ?_ GE328.out | refine below_set ?_ GE335.out) | exact HB.out))) : w.heap.size ≤ gb346)); have n15_ := Aside0.mk ((by rw [hg]; exact (below_size (by repeat (first | (with_reducible first | exact HB.out | apply below_alloc | apply pw_below_drewN | apply below_drew1 | refine below_set ?_ GE301.out | refine below_set ?_ GE302.out | refine below_set ?_ GE328.out | refine below_set ?_ GE335.out) | exact HB.out))) : w.heap.size ≤ gb346)); have n16_ := Aside0.mk ((by rw [hg]; exact Nat.ne_of_lt (blk_lt (bY BK301.out)) : gb301 ≠ gb346)); have n17_ := Aside0.mk ((by rw [hg]; exact Nat.ne_of_gt (blk_lt (bY BK301.out)) : gb346 ≠ gb301)); have n18_ := Aside0.mk ((by rw [hg]; exact Nat.ne_of_lt (blk_lt (bY BK302.out)) : gb302 ≠ gb346)); have n19_ := Aside0.mk ((by rw [hg]; exact Nat.ne_of_gt (blk_lt (bY BK302.out)) : gb346 ≠ gb302)); have n20_ := Aside0.mk ((by rw [hg]; exact Nat.ne_of_lt (blk_lt (bY BK328.out)) : gb328 ≠ gb346)); have n21_ := Aside0.mk ((by rw [hg]; exact Nat.ne_of_gt (blk_lt (bY BK328.out)) : gb346 ≠ gb328)); have n22_ := Aside0.mk ((by rw [hg]; exact Nat.ne_of_lt (blk_lt (bY BK335.out)) : gb335 ≠ gb346)); have n23_ := Aside0.mk ((by rw [hg]; exact Nat.ne_of_gt (blk_lt (bY BK335.out)) : gb346 ≠ gb335)); clear HO307; clear HO310; clear HO320; clear HO323; clear HO326; clear HO331; clear HO334; clear HO345; clear BK301; clear BK302; clear BK328; clear BK335; clear HB; have HO307 := n0_; have HO310 := n1_; have HO320 := n2_; have HO323 := n3_; have HO326 := n4_; have HO331 := n5_; have HO334 := n6_; have HO345 := n7_; have BK301 := n8_; have BK302 := n9_; have BK328 := n10_; have BK335 := n11_; have HB := n12_; have BK346 := n13_; have GW346 := n14_; have GE346 := n15_; have NB301_346 := n16_; have NB346_301 := n17_; have NB302_346 := n18_; have NB346_302 := n19_; have NB328_346 := n20_; have NB346_328 := n21_; have NB335_346 := n22_; have NB346_335 := n23_; clear n0_ n1_ n2_ n3_ n4_ n5_ n6_ n7_ n8_ n9_ n10_ n11_ n12_ n13_ n14_ n15_ n16_ n17_ n18_ n19_ n20_ n21_ n22_ n23_; clear hb hbox hg; have hnb60 := NB346_301.out; have hnc60 := NB301_346.out; have hnb61 := NB346_302.out; have hnc61 := NB302_346.out; have hnb62 := NB346_328.out; have hnc62 := NB328_346.out; have hnb63 := NB346_335.out; have hnc63 := NB335_346.out; have hcz64_0 : w59.cell? ⟨gb346, 0, none⟩ = some (.int .i64 0) := (blk_cell BK346.out 0).trans rfl; have hcz64_1 : w59.cell? ⟨gb346, 1, none⟩ = some (.int .i64 0) := (blk_cell BK346.out 1).trans rfl; have hcz64_2 : w59.cell? ⟨gb346, 2, none⟩ = some (.int .i64 0) := (blk_cell BK346.out 2).trans rfl; have hcz64_3 : w59.cell? ⟨gb346, 3, none⟩ = some (.int .i64 0) := (blk_cell BK346.out 3).trans rfl; have hcz64_4 : w59.cell? ⟨gb346, 4, none⟩ = some (.int .i64 0) := (blk_cell BK346.out 4).trans rfl; have hcz64_5 : w59.cell? ⟨gb346, 5, none⟩ = some (.int .i64 0) := (blk_cell BK346.out 5).trans rfl; have hcz64_6 : w59.cell? ⟨gb346, 6, none⟩ = some (.int .i64 0) := (blk_cell BK346.out 6).trans rfl; have hcz64_7 : w59.cell? ⟨gb346, 7, none⟩ = some (.slice none 0 0) := (blk_cell BK346.out 7).trans rfl; have hfz64_0 := blk_frozen BK346.out 0; have hfz64_1 := blk_frozen BK346.out 1; have hfz64_2 := blk_frozen BK346.out 2; have hfz64_3 := blk_frozen BK346.out 3; have hfz64_4 := blk_frozen BK346.out 4; have hfz64_5 := blk_frozen BK346.out 5; have hfz64_6 := blk_frozen BK346.out 6; have hfz64_7 := blk_frozen BK346.out 7; obtain ⟨Ao65, co65, eo65⟩ := Kd.R_slice HO345.out; subst eo65; have hcz66_0 : w59.cell? ⟨gb335, 0, none⟩ = some (.slice Ao50 t329.length co50) := (blk_cell BK335.out 0).trans rfl; have hcz66_1 : w59.cell? ⟨gb335, 1, none⟩ = some (.slice Ao55 t332.length co55) := (blk_cell BK335.out 1).trans rfl; have hfz66_0 := blk_frozen BK335.out 0; have hfz66_1 := blk_frozen BK335.out 1) | ((with_reducible refine gate_callee (f := 57) rfl ?_); refine goesL_ (some 42) rfl rfl Try.func57 (by kernel_rfl) rfl #[.agg #[.slice Ao50 t329.length co50, .slice Ao55 t332.length co55], .agg #[.int .i64 t336, .int .i64 t337, .int .i64 t338, .int .i64 t339, .int .i64 t340, .int .i64 t341, .int .i64 t342, .slice Ao65 t343.length co65]] rfl (by (try simp only [List.map_toArray, List.map_cons, List.map_nil]); first | done | rfl) ?_; (with_reducible refine (impl_ReturnCredits.calls k _ _ t329 _ _ t332 t336 t337 t338 t339 t340 t341 t342 _ _ t343 t347 t350 t353 _ ?side1 ?side2 ?side3 ?side4 ?side5 ?side6 A24.out).mono ?_); (case side1 => refine (Kd.R_reads' (e := 3) (base := w.heap.size) (ok := fun k_ => ((((((some k_ ≠ (.slice Ao55 t332.length co55 : Value).ownBlock ∧ some k_ ≠ (v306 : Value).ownBlock) ∧ some k_ ≠ (v309 : Value).ownBlock) ∧ some k_ ≠ (v319 : Value).ownBlock) ∧ some k_ ≠ (.slice Ao42 t321.length co42 : Value).ownBlock) ∧ some k_ ≠ (.slice Ao44 t324.length co44 : Value).ownBlock) ∧ some k_ ≠ (.slice Ao65 t343.length co65 : Value).ownBlock)) (n := t329.length) (c := co50) ?_).2.2; exact (by (repeat apply rX); exact (Kd.R_mono (Kd.R_far (p := ⟨gb346, 7, none⟩) (Kd.R_far (p := ⟨gb346, 6, none⟩) (Kd.R_far (p := ⟨gb346, 5, none⟩) (Kd.R_far (p := ⟨gb346, 4, none⟩) (Kd.R_far (p := ⟨gb346, 3, none⟩) (Kd.R_far (p := ⟨gb346, 2, none⟩) (Kd.R_far (p := ⟨gb346, 1, none⟩) (Kd.R_far (p := ⟨gb346, 0, none⟩) (Kd.R_types HO331.out BK346.out (by decide)) (fun _ hk => hk.2) (.int .i64 t336)) (fun _ hk => hk.2) (.int .i64 t337)) (fun _ hk => hk.2) (.int .i64 t338)) (fun _ hk => hk.2) (.int .i64 t339)) (fun _ hk => hk.2) (.int .i64 t340)) (fun _ hk => hk.2) (.int .i64 t341)) (fun _ hk => hk.2) (.int .i64 t342)) (fun _ hk => hk.2) (.slice Ao65 t343.length co65)) (fun _ h_ => h_.1)))); (case side2 => exact (Kd.R_reads' HO331.out).2.1); (case side3 => refine (Kd.R_reads' (e := 3) (base := w.heap.size) (ok := fun k_ => ((((((some k_ ≠ (.slice Ao50 t329.length co50 : Value).ownBlock ∧ some k_ ≠ (v306 : Value).ownBlock) ∧ some k_ ≠ (v309 : Value).ownBlock) ∧ some k_ ≠ (v319 : Value).ownBlock) ∧ some k_ ≠ (.slice Ao42 t321.length co42 : Value).ownBlock) ∧ some k_ ≠ (.slice Ao44 t324.length co44 : Value).ownBlock) ∧ some k_ ≠ (.slice Ao65 t343.length co65 : Value).ownBlock)) (n := t332.length) (c := co55) ?_).2.2; exact (by (repeat apply rX); exact (Kd.R_mono (Kd.R_far (p := ⟨gb346, 7, none⟩) (Kd.R_far (p := ⟨gb346, 6, none⟩) (Kd.R_far (p := ⟨gb346, 5, none⟩) (Kd.R_far (p := ⟨gb346, 4, none⟩) (Kd.R_far (p := ⟨gb346, 3, none⟩) (Kd.R_far (p := ⟨gb346, 2, none⟩) (Kd.R_far (p := ⟨gb346, 1, none⟩) (Kd.R_far (p := ⟨gb346, 0, none⟩) (Kd.R_types HO334.out BK346.out (by decide)) (fun _ hk => hk.2) (.int .i64 t336)) (fun _ hk => hk.2) (.int .i64 t337)) (fun _ hk => hk.2) (.int .i64 t338)) (fun _ hk => hk.2) (.int .i64 t339)) (fun _ hk => hk.2) (.int .i64 t340)) (fun _ hk => hk.2) (.int .i64 t341)) (fun _ hk => hk.2) (.int .i64 t342)) (fun _ hk => hk.2) (.slice Ao65 t343.length co65)) (fun _ h_ => h_.1)))); (case side4 => exact (Kd.R_reads' HO334.out).2.1); (case side5 => refine (Kd.R_reads' (e := 3) (base := w.heap.size) (ok := fun k_ => (((((((True ∧ some k_ ≠ (v306 : Value).ownBlock) ∧ some k_ ≠ (v309 : Value).ownBlock) ∧ some k_ ≠ (v319 : Value).ownBlock) ∧ some k_ ≠ (.slice Ao42 t321.length co42 : Value).ownBlock) ∧ some k_ ≠ (.slice Ao44 t324.length co44 : Value).ownBlock) ∧ some k_ ≠ (.slice Ao50 t329.length co50 : Value).ownBlock) ∧ some k_ ≠ (.slice Ao55 t332.length co55 : Value).ownBlock)) (n := t343.length) (c := co65) ?_).2.2; exact (by (repeat apply rX); exact (Kd.R_mono (Kd.R_far (p := ⟨gb346, 7, none⟩) (Kd.R_far (p := ⟨gb346, 6, none⟩) (Kd.R_far (p := ⟨gb346, 5, none⟩) (Kd.R_far (p := ⟨gb346, 4, none⟩) (Kd.R_far (p := ⟨gb346, 3, none⟩) (Kd.R_far (p := ⟨gb346, 2, none⟩) (Kd.R_far (p := ⟨gb346, 1, none⟩) (Kd.R_far (p := ⟨gb346, 0, none⟩) (Kd.R_types HO345.out BK346.out (by decide)) (fun _ hk => hk.2) (.int .i64 t336)) (fun _ hk => hk.2) (.int .i64 t337)) (fun _ hk => hk.2) (.int .i64 t338)) (fun _ hk => hk.2) (.int .i64 t339)) (fun _ hk => hk.2) (.int .i64 t340)) (fun _ hk => hk.2) (.int .i64 t341)) (fun _ hk => hk.2) (.int .i64 t342)) (fun _ hk => hk.2) (.slice Ao65 t343.length co65)) (fun _ h_ => h_.1)))); (case side6 => exact (Kd.R_reads' HO345.out).2.1); rintro e w67 ⟨v348, v351, rfl, ho0, ho1, hb⟩; refine ⟨_, rfl, ?_⟩; have n0_ := Aside0.mk (Kd.R_mono (Kd.R_told (Kd.R_told (Kd.R_old (by (repeat apply rX); exact (Kd.R_mono (Kd.R_far (p := ⟨gb346, 7, none⟩) (Kd.R_far (p := ⟨gb346, 6, none⟩) (Kd.R_far (p := ⟨gb346, 5, none⟩) (Kd.R_far (p := ⟨gb346, 4, none⟩) (Kd.R_far (p := ⟨gb346, 3, none⟩) (Kd.R_far (p := ⟨gb346, 2, none⟩) (Kd.R_far (p := ⟨gb346, 1, none⟩) (Kd.R_far (p := ⟨gb346, 0, none⟩) (Kd.R_types HO307.out BK346.out (by decide)) (fun _ hk => hk.2) (.int .i64 t336)) (fun _ hk => hk.2) (.int .i64 t337)) (fun _ hk => hk.2) (.int .i64 t338)) (fun _ hk => hk.2) (.int .i64 t339)) (fun _ hk => hk.2) (.int .i64 t340)) (fun _ hk => hk.2) (.int .i64 t341)) (fun _ hk => hk.2) (.int .i64 t342)) (fun _ hk => hk.2) (.slice Ao65 t343.length co65)) (fun _ h_ => h_.1))) hb) (Kd.R_base ho0)) (Kd.R_base ho1)) (fun _ h_ => h_.1)); have n1_ := Aside0.mk (Kd.R_mono (Kd.R_told (Kd.R_told (Kd.R_old (by (repeat apply rX); exact (Kd.R_mono (Kd.R_far (p := ⟨gb346, 7, none⟩) (Kd.R_far (p := ⟨gb346, 6, none⟩) (Kd.R_far (p := ⟨gb346, 5, none⟩) (Kd.R_far (p := ⟨gb346, 4, none⟩) (Kd.R_far (p := ⟨gb346, 3, none⟩) (Kd.R_far (p := ⟨gb346, 2, none⟩) (Kd.R_far (p := ⟨gb346, 1, none⟩) (Kd.R_far (p := ⟨gb346, 0, none⟩) (Kd.R_types HO310.out BK346.out (by decide)) (fun _ hk => hk.2) (.int .i64 t336)) (fun _ hk => hk.2) (.int .i64 t337)) (fun _ hk => hk.2) (.int .i64 t338)) (fun _ hk => hk.2) (.int .i64 t339)) (fun _ hk => hk.2) (.int .i64 t340)) (fun _ hk => hk.2) (.int .i64 t341)) (fun _ hk => hk.2) (.int .i64 t342)) (fun _ hk => hk.2) (.slice Ao65 t343.length co65)) (fun _ h_ => h_.1))) hb) (Kd.R_base ho0)) (Kd.R_base ho1)) (fun _ h_ => h_.1)); have n2_ := Aside0.mk (Kd.R_mono (Kd.R_told (Kd.R_told (Kd.R_old (by (repeat apply rX); exact (Kd.R_mono (Kd.R_far (p := ⟨gb346, 7, none⟩) (Kd.R_far (p := ⟨gb346, 6, none⟩) (Kd.R_far (p := ⟨gb346, 5, none⟩) (Kd.R_far (p := ⟨gb346, 4, none⟩) (Kd.R_far (p := ⟨gb346, 3, none⟩) (Kd.R_far (p := ⟨gb346, 2, none⟩) (Kd.R_far (p := ⟨gb346, 1, none⟩) (Kd.R_far (p := ⟨gb346, 0, none⟩) (Kd.R_types HO320.out BK346.out (by decide)) (fun _ hk => hk.2) (.int .i64 t336)) (fun _ hk => hk.2) (.int .i64 t337)) (fun _ hk => hk.2) (.int .i64 t338)) (fun _ hk => hk.2) (.int .i64 t339)) (fun _ hk => hk.2) (.int .i64 t340)) (fun _ hk => hk.2) (.int .i64 t341)) (fun _ hk => hk.2) (.int .i64 t342)) (fun _ hk => hk.2) (.slice Ao65 t343.length co65)) (fun _ h_ => h_.1))) hb) (Kd.R_base ho0)) (Kd.R_base ho1)) (fun _ h_ => h_.1)); have n3_ := Aside0.mk (Kd.R_mono (Kd.R_told (Kd.R_told (Kd.R_old (by (repeat apply rX); exact (Kd.R_mono (Kd.R_far (p := ⟨gb346, 7, none⟩) (Kd.R_far (p := ⟨gb346, 6, none⟩) (Kd.R_far (p := ⟨gb346, 5, none⟩) (Kd.R_far (p := ⟨gb346, 4, none⟩) (Kd.R_far (p := ⟨gb346, 3, none⟩) (Kd.R_far (p := ⟨gb346, 2, none⟩) (Kd.R_far (p := ⟨gb346, 1, none⟩) (Kd.R_far (p := ⟨gb346, 0, none⟩) (Kd.R_types HO323.out BK346.out (by decide)) (fun _ hk => hk.2) (.int .i64 t336)) (fun _ hk => hk.2) (.int .i64 t337)) (fun _ hk => hk.2) (.int .i64 t338)) (fun _ hk => hk.2) (.int .i64 t339)) (fun _ hk => hk.2) (.int .i64 t340)) (fun _ hk => hk.2) (.int .i64 t341)) (fun _ hk => hk.2) (.int .i64 t342)) (fun _ hk => hk.2) (.slice Ao65 t343.length co65)) (fun _ h_ => h_.1))) hb) (Kd.R_base ho0)) (Kd.R_base ho1)) (fun _ h_ => h_.1)); have n4_ := Aside0.mk (Kd.R_mono (Kd.R_told (Kd.R_told (Kd.R_old (by (repeat apply rX); exact (Kd.R_mono (Kd.R_far (p := ⟨gb346, 7, none⟩) (Kd.R_far (p := ⟨gb346, 6, none⟩) (Kd.R_far (p := ⟨gb346, 5, none⟩) (Kd.R_far (p := ⟨gb346, 4, none⟩) (Kd.R_far (p := ⟨gb346, 3, none⟩) (Kd.R_far (p := ⟨gb346, 2, none⟩) (Kd.R_far (p := ⟨gb346, 1, none⟩) (Kd.R_far (p := ⟨gb346, 0, none⟩) (Kd.R_types HO326.out BK346.out (by decide)) (fun _ hk => hk.2) (.int .i64 t336)) (fun _ hk => hk.2) (.int .i64 t337)) (fun _ hk => hk.2) (.int .i64 t338)) (fun _ hk => hk.2) (.int .i64 t339)) (fun _ hk => hk.2) (.int .i64 t340)) (fun _ hk => hk.2) (.int .i64 t341)) (fun _ hk => hk.2) (.int .i64 t342)) (fun _ hk => hk.2) (.slice Ao65 t343.length co65)) (fun _ h_ => h_.1))) hb) (Kd.R_base ho0)) (Kd.R_base ho1)) (fun _ h_ => h_.1)); have n5_ := Aside0.mk (Kd.R_mono (Kd.R_told (Kd.R_told (Kd.R_old (by (repeat apply rX); exact (Kd.R_mono (Kd.R_far (p := ⟨gb346, 7, none⟩) (Kd.R_far (p := ⟨gb346, 6, none⟩) (Kd.R_far (p := ⟨gb346, 5, none⟩) (Kd.R_far (p := ⟨gb346, 4, none⟩) (Kd.R_far (p := ⟨gb346, 3, none⟩) (Kd.R_far (p := ⟨gb346, 2, none⟩) (Kd.R_far (p := ⟨gb346, 1, none⟩) (Kd.R_far (p := ⟨gb346, 0, none⟩) (Kd.R_types HO331.out BK346.out (by decide)) (fun _ hk => hk.2) (.int .i64 t336)) (fun _ hk => hk.2) (.int .i64 t337)) (fun _ hk => hk.2) (.int .i64 t338)) (fun _ hk => hk.2) (.int .i64 t339)) (fun _ hk => hk.2) (.int .i64 t340)) (fun _ hk => hk.2) (.int .i64 t341)) (fun _ hk => hk.2) (.int .i64 t342)) (fun _ hk => hk.2) (.slice Ao65 t343.length co65)) (fun _ h_ => h_.1))) hb) (Kd.R_base ho0)) (Kd.R_base ho1)) (fun _ h_ => h_.1)); have n6_ := Aside0.mk (Kd.R_mono (Kd.R_told (Kd.R_told (Kd.R_old (by (repeat apply rX); exact (Kd.R_mono (Kd.R_far (p := ⟨gb346, 7, none⟩) (Kd.R_far (p := ⟨gb346, 6, none⟩) (Kd.R_far (p := ⟨gb346, 5, none⟩) (Kd.R_far (p := ⟨gb346, 4, none⟩) (Kd.R_far (p := ⟨gb346, 3, none⟩) (Kd.R_far (p := ⟨gb346, 2, none⟩) (Kd.R_far (p := ⟨gb346, 1, none⟩) (Kd.R_far (p := ⟨gb346, 0, none⟩) (Kd.R_types HO334.out BK346.out (by decide)) (fun _ hk => hk.2) (.int .i64 t336)) (fun _ hk => hk.2) (.int .i64 t337)) (fun _ hk => hk.2) (.int .i64 t338)) (fun _ hk => hk.2) (.int .i64 t339)) (fun _ hk => hk.2) (.int .i64 t340)) (fun _ hk => hk.2) (.int .i64 t341)) (fun _ hk => hk.2) (.int .i64 t342)) (fun _ hk => hk.2) (.slice Ao65 t343.length co65)) (fun _ h_ => h_.1))) hb) (Kd.R_base ho0)) (Kd.R_base ho1)) (fun _ h_ => h_.1)); have n7_ := Aside0.mk (Kd.R_mono (Kd.R_told (Kd.R_told (Kd.R_old (by (repeat apply rX); exact (Kd.R_mono (Kd.R_far (p := ⟨gb346, 7, none⟩) (Kd.R_far (p := ⟨gb346, 6, none⟩) (Kd.R_far (p := ⟨gb346, 5, none⟩) (Kd.R_far (p := ⟨gb346, 4, none⟩) (Kd.R_far (p := ⟨gb346, 3, none⟩) (Kd.R_far (p := ⟨gb346, 2, none⟩) (Kd.R_far (p := ⟨gb346, 1, none⟩) (Kd.R_far (p := ⟨gb346, 0, none⟩) (Kd.R_types HO345.out BK346.out (by decide)) (fun _ hk => hk.2) (.int .i64 t336)) (fun _ hk => hk.2) (.int .i64 t337)) (fun _ hk => hk.2) (.int .i64 t338)) (fun _ hk => hk.2) (.int .i64 t339)) (fun _ hk => hk.2) (.int .i64 t340)) (fun _ hk => hk.2) (.int .i64 t341)) (fun _ hk => hk.2) (.int .i64 t342)) (fun _ hk => hk.2) (.slice Ao65 t343.length co65)) (fun _ h_ => h_.1))) hb) (Kd.R_base ho0)) (Kd.R_base ho1)) (fun _ h_ => h_.1)); have n8_ := Aside0.mk (Kd.R_lower (Kd.R_new' (Kd.R_new' (Kd.R_new' (Kd.R_new' (Kd.R_new' (Kd.R_new' (Kd.R_new' (Kd.R_new' ho0 (Kd.R_lt (by (repeat apply rX); exact (Kd.R_mono (Kd.R_far (p := ⟨gb346, 7, none⟩) (Kd.R_far (p := ⟨gb346, 6, none⟩) (Kd.R_far (p := ⟨gb346, 5, none⟩) (Kd.R_far (p := ⟨gb346, 4, none⟩) (Kd.R_far (p := ⟨gb346, 3, none⟩) (Kd.R_far (p := ⟨gb346, 2, none⟩) (Kd.R_far (p := ⟨gb346, 1, none⟩) (Kd.R_far (p := ⟨gb346, 0, none⟩) (Kd.R_types HO307.out BK346.out (by decide)) (fun _ hk => hk.2) (.int .i64 t336)) (fun _ hk => hk.2) (.int .i64 t337)) (fun _ hk => hk.2) (.int .i64 t338)) (fun _ hk => hk.2) (.int .i64 t339)) (fun _ hk => hk.2) (.int .i64 t340)) (fun _ hk => hk.2) (.int .i64 t341)) (fun _ hk => hk.2) (.int .i64 t342)) (fun _ hk => hk.2) (.slice Ao65 t343.length co65)) (fun _ h_ => h_.1))))) (Kd.R_lt (by (repeat apply rX); exact (Kd.R_mono (Kd.R_far (p := ⟨gb346, 7, none⟩) (Kd.R_far (p := ⟨gb346, 6, none⟩) (Kd.R_far (p := ⟨gb346, 5, none⟩) (Kd.R_far (p := ⟨gb346, 4, none⟩) (Kd.R_far (p := ⟨gb346, 3, none⟩) (Kd.R_far (p := ⟨gb346, 2, none⟩) (Kd.R_far (p := ⟨gb346, 1, none⟩) (Kd.R_far (p := ⟨gb346, 0, none⟩) (Kd.R_types HO310.out BK346.out (by decide)) (fun _ hk => hk.2) (.int .i64 t336)) (fun _ hk => hk.2) (.int .i64 t337)) (fun _ hk => hk.2) (.int .i64 t338)) (fun _ hk => hk.2) (.int .i64 t339)) (fun _ hk => hk.2) (.int .i64 t340)) (fun _ hk => hk.2) (.int .i64 t341)) (fun _ hk => hk.2) (.int .i64 t342)) (fun _ hk => hk.2) (.slice Ao65 t343.length co65)) (fun _ h_ => h_.1))))) (Kd.R_lt (by (repeat apply rX); exact (Kd.R_mono (Kd.R_far (p := ⟨gb346, 7, none⟩) (Kd.R_far (p := ⟨gb346, 6, none⟩) (Kd.R_far (p := ⟨gb346, 5, none⟩) (Kd.R_far (p := ⟨gb346, 4, none⟩) (Kd.R_far (p := ⟨gb346, 3, none⟩) (Kd.R_far (p := ⟨gb346, 2, none⟩) (Kd.R_far (p := ⟨gb346, 1, none⟩) (Kd.R_far (p := ⟨gb346, 0, none⟩) (Kd.R_types HO320.out BK346.out (by decide)) (fun _ hk => hk.2) (.int .i64 t336)) (fun _ hk => hk.2) (.int .i64 t337)) (fun _ hk => hk.2) (.int .i64 t338)) (fun _ hk => hk.2) (.int .i64 t339)) (fun _ hk => hk.2) (.int .i64 t340)) (fun _ hk => hk.2) (.int .i64 t341)) (fun _ hk => hk.2) (.int .i64 t342)) (fun _ hk => hk.2) (.slice Ao65 t343.length co65)) (fun _ h_ => h_.1))))) (Kd.R_lt (by (repeat apply rX); exact (Kd.R_mono (Kd.R_far (p := ⟨gb346, 7, none⟩) (Kd.R_far (p := ⟨gb346, 6, none⟩) (Kd.R_far (p := ⟨gb346, 5, none⟩) (Kd.R_far (p := ⟨gb346, 4, none⟩) (Kd.R_far (p := ⟨gb346, 3, none⟩) (Kd.R_far (p := ⟨gb346, 2, none⟩) (Kd.R_far (p := ⟨gb346, 1, none⟩) (Kd.R_far (p := ⟨gb346, 0, none⟩) (Kd.R_types HO323.out BK346.out (by decide)) (fun _ hk => hk.2) (.int .i64 t336)) (fun _ hk => hk.2) (.int .i64 t337)) (fun _ hk => hk.2) (.int .i64 t338)) (fun _ hk => hk.2) (.int .i64 t339)) (fun _ hk => hk.2) (.int .i64 t340)) (fun _ hk => hk.2) (.int .i64 t341)) (fun _ hk => hk.2) (.int .i64 t342)) (fun _ hk => hk.2) (.slice Ao65 t343.length co65)) (fun _ h_ => h_.1))))) (Kd.R_lt (by (repeat apply rX); exact (Kd.R_mono (Kd.R_far (p := ⟨gb346, 7, none⟩) (Kd.R_far (p := ⟨gb346, 6, none⟩) (Kd.R_far (p := ⟨gb346, 5, none⟩) (Kd.R_far (p := ⟨gb346, 4, none⟩) (Kd.R_far (p := ⟨gb346, 3, none⟩) (Kd.R_far (p := ⟨gb346, 2, none⟩) (Kd.R_far (p := ⟨gb346, 1, none⟩) (Kd.R_far (p := ⟨gb346, 0, none⟩) (Kd.R_types HO326.out BK346.out (by decide)) (fun _ hk => hk.2) (.int .i64 t336)) (fun _ hk => hk.2) (.int .i64 t337)) (fun _ hk => hk.2) (.int .i64 t338)) (fun _ hk => hk.2) (.int .i64 t339)) (fun _ hk => hk.2) (.int .i64 t340)) (fun _ hk => hk.2) (.int .i64 t341)) (fun _ hk => hk.2) (.int .i64 t342)) (fun _ hk => hk.2) (.slice Ao65 t343.length co65)) (fun _ h_ => h_.1))))) (Kd.R_lt (by (repeat apply rX); exact (Kd.R_mono (Kd.R_far (p := ⟨gb346, 7, none⟩) (Kd.R_far (p := ⟨gb346, 6, none⟩) (Kd.R_far (p := ⟨gb346, 5, none⟩) (Kd.R_far (p := ⟨gb346, 4, none⟩) (Kd.R_far (p := ⟨gb346, 3, none⟩) (Kd.R_far (p := ⟨gb346, 2, none⟩) (Kd.R_far (p := ⟨gb346, 1, none⟩) (Kd.R_far (p := ⟨gb346, 0, none⟩) (Kd.R_types HO331.out BK346.out (by decide)) (fun _ hk => hk.2) (.int .i64 t336)) (fun _ hk => hk.2) (.int .i64 t337)) (fun _ hk => hk.2) (.int .i64 t338)) (fun _ hk => hk.2) (.int .i64 t339)) (fun _ hk => hk.2) (.int .i64 t340)) (fun _ hk => hk.2) (.int .i64 t341)) (fun _ hk => hk.2) (.int .i64 t342)) (fun _ hk => hk.2) (.slice Ao65 t343.length co65)) (fun _ h_ => h_.1))))) (Kd.R_lt (by (repeat apply rX); exact (Kd.R_mono (Kd.R_far (p := ⟨gb346, 7, none⟩) (Kd.R_far (p := ⟨gb346, 6, none⟩) (Kd.R_far (p := ⟨gb346, 5, none⟩) (Kd.R_far (p := ⟨gb346, 4, none⟩) (Kd.R_far (p := ⟨gb346, 3, none⟩) (Kd.R_far (p := ⟨gb346, 2, none⟩) (Kd.R_far (p := ⟨gb346, 1, none⟩) (Kd.R_far (p := ⟨gb346, 0, none⟩) (Kd.R_types HO334.out BK346.out (by decide)) (fun _ hk => hk.2) (.int .i64 t336)) (fun _ hk => hk.2) (.int .i64 t337)) (fun _ hk => hk.2) (.int .i64 t338)) (fun _ hk => hk.2) (.int .i64 t339)) (fun _ hk => hk.2) (.int .i64 t340)) (fun _ hk => hk.2) (.int .i64 t341)) (fun _ hk => hk.2) (.int .i64 t342)) (fun _ hk => hk.2) (.slice Ao65 t343.length co65)) (fun _ h_ => h_.1))))) (Kd.R_lt (by (repeat apply rX); exact (Kd.R_mono (Kd.R_far (p := ⟨gb346, 7, none⟩) (Kd.R_far (p := ⟨gb346, 6, none⟩) (Kd.R_far (p := ⟨gb346, 5, none⟩) (Kd.R_far (p := ⟨gb346, 4, none⟩) (Kd.R_far (p := ⟨gb346, 3, none⟩) (Kd.R_far (p := ⟨gb346, 2, none⟩) (Kd.R_far (p := ⟨gb346, 1, none⟩) (Kd.R_far (p := ⟨gb346, 0, none⟩) (Kd.R_types HO345.out BK346.out (by decide)) (fun _ hk => hk.2) (.int .i64 t336)) (fun _ hk => hk.2) (.int .i64 t337)) (fun _ hk => hk.2) (.int .i64 t338)) (fun _ hk => hk.2) (.int .i64 t339)) (fun _ hk => hk.2) (.int .i64 t340)) (fun _ hk => hk.2) (.int .i64 t341)) (fun _ hk => hk.2) (.int .i64 t342)) (fun _ hk => hk.2) (.slice Ao65 t343.length co65)) (fun _ h_ => h_.1))))) (below_size (by repeat (first | (with_reducible first | exact HB.out | apply below_alloc | apply pw_below_drewN | apply below_drew1 | refine below_set ?_ GE301.out | refine below_set ?_ GE302.out | refine below_set ?_ GE328.out | refine below_set ?_ GE335.out | refine below_set ?_ GE346.out) | exact HB.out)))); have n9_ := Aside0.mk (Kd.R_lower (Kd.R_new' (Kd.R_new' (Kd.R_new' (Kd.R_new' (Kd.R_new' (Kd.R_new' (Kd.R_new' (Kd.R_new' ho1 (Kd.R_lt (by (repeat apply rX); exact (Kd.R_mono (Kd.R_far (p := ⟨gb346, 7, none⟩) (Kd.R_far (p := ⟨gb346, 6, none⟩) (Kd.R_far (p := ⟨gb346, 5, none⟩) (Kd.R_far (p := ⟨gb346, 4, none⟩) (Kd.R_far (p := ⟨gb346, 3, none⟩) (Kd.R_far (p := ⟨gb346, 2, none⟩) (Kd.R_far (p := ⟨gb346, 1, none⟩) (Kd.R_far (p := ⟨gb346, 0, none⟩) (Kd.R_types HO307.out BK346.out (by decide)) (fun _ hk => hk.2) (.int .i64 t336)) (fun _ hk => hk.2) (.int .i64 t337)) (fun _ hk => hk.2) (.int .i64 t338)) (fun _ hk => hk.2) (.int .i64 t339)) (fun _ hk => hk.2) (.int .i64 t340)) (fun _ hk => hk.2) (.int .i64 t341)) (fun _ hk => hk.2) (.int .i64 t342)) (fun _ hk => hk.2) (.slice Ao65 t343.length co65)) (fun _ h_ => h_.1))))) (Kd.R_lt (by (repeat apply rX); exact (Kd.R_mono (Kd.R_far (p := ⟨gb346, 7, none⟩) (Kd.R_far (p := ⟨gb346, 6, none⟩) (Kd.R_far (p := ⟨gb346, 5, none⟩) (Kd.R_far (p := ⟨gb346, 4, none⟩) (Kd.R_far (p := ⟨gb346, 3, none⟩) (Kd.R_far (p := ⟨gb346, 2, none⟩) (Kd.R_far (p := ⟨gb346, 1, none⟩) (Kd.R_far (p := ⟨gb346, 0, none⟩) (Kd.R_types HO310.out BK346.out (by decide)) (fun _ hk => hk.2) (.int .i64 t336)) (fun _ hk => hk.2) (.int .i64 t337)) (fun _ hk => hk.2) (.int .i64 t338)) (fun _ hk => hk.2) (.int .i64 t339)) (fun _ hk => hk.2) (.int .i64 t340)) (fun _ hk => hk.2) (.int .i64 t341)) (fun _ hk => hk.2) (.int .i64 t342)) (fun _ hk => hk.2) (.slice Ao65 t343.length co65)) (fun _ h_ => h_.1))))) (Kd.R_lt (by (repeat apply rX); exact (Kd.R_mono (Kd.R_far (p := ⟨gb346, 7, none⟩) (Kd.R_far (p := ⟨gb346, 6, none⟩) (Kd.R_far (p := ⟨gb346, 5, none⟩) (Kd.R_far (p := ⟨gb346, 4, none⟩) (Kd.R_far (p := ⟨gb346, 3, none⟩) (Kd.R_far (p := ⟨gb346, 2, none⟩) (Kd.R_far (p := ⟨gb346, 1, none⟩) (Kd.R_far (p := ⟨gb346, 0, none⟩) (Kd.R_types HO320.out BK346.out (by decide)) (fun _ hk => hk.2) (.int .i64 t336)) (fun _ hk => hk.2) (.int .i64 t337)) (fun _ hk => hk.2) (.int .i64 t338)) (fun _ hk => hk.2) (.int .i64 t339)) (fun _ hk => hk.2) (.int .i64 t340)) (fun _ hk => hk.2) (.int .i64 t341)) (fun _ hk => hk.2) (.int .i64 t342)) (fun _ hk => hk.2) (.slice Ao65 t343.length co65)) (fun _ h_ => h_.1))))) (Kd.R_lt (by (repeat apply rX); exact (Kd.R_mono (Kd.R_far (p := ⟨gb346, 7, none⟩) (Kd.R_far (p := ⟨gb346, 6, none⟩) (Kd.R_far (p := ⟨gb346, 5, none⟩) (Kd.R_far (p := ⟨gb346, 4, none⟩) (Kd.R_far (p := ⟨gb346, 3, none⟩) (Kd.R_far (p := ⟨gb346, 2, none⟩) (Kd.R_far (p := ⟨gb346, 1, none⟩) (Kd.R_far (p := ⟨gb346, 0, none⟩) (Kd.R_types HO323.out BK346.out (by decide)) (fun _ hk => hk.2) (.int .i64 t336)) (fun _ hk => hk.2) (.int .i64 t337)) (fun _ hk => hk.2) (.int .i64 t338)) (fun _ hk => hk.2) (.int .i64 t339)) (fun _ hk => hk.2) (.int .i64 t340)) (fun _ hk => hk.2) (.int .i64 t341)) (fun _ hk => hk.2) (.int .i64 t342)) (fun _ hk => hk.2) (.slice Ao65 t343.length co65)) (fun _ h_ => h_.1))))) (Kd.R_lt (by (repeat apply rX); exact (Kd.R_mono (Kd.R_far (p := ⟨gb346, 7, none⟩) (Kd.R_far (p := ⟨gb346, 6, none⟩) (Kd.R_far (p := ⟨gb346, 5, none⟩) (Kd.R_far (p := ⟨gb346, 4, none⟩) (Kd.R_far (p := ⟨gb346, 3, none⟩) (Kd.R_far (p := ⟨gb346, 2, none⟩) (Kd.R_far (p := ⟨gb346, 1, none⟩) (Kd.R_far (p := ⟨gb346, 0, none⟩) (Kd.R_types HO326.out BK346.out (by decide)) (fun _ hk => hk.2) (.int .i64 t336)) (fun _ hk => hk.2) (.int .i64 t337)) (fun _ hk => hk.2) (.int .i64 t338)) (fun _ hk => hk.2) (.int .i64 t339)) (fun _ hk => hk.2) (.int .i64 t340)) (fun _ hk => hk.2) (.int .i64 t341)) (fun _ hk => hk.2) (.int .i64 t342)) (fun _ hk => hk.2) (.slice Ao65 t343.length co65)) (fun _ h_ => h_.1))))) (Kd.R_lt (by (repeat apply rX); exact (Kd.R_mono (Kd.R_far (p := ⟨gb346, 7, none⟩) (Kd.R_far (p := ⟨gb346, 6, none⟩) (Kd.R_far (p := ⟨gb346, 5, none⟩) (Kd.R_far (p := ⟨gb346, 4, none⟩) (Kd.R_far (p := ⟨gb346, 3, none⟩) (Kd.R_far (p := ⟨gb346, 2, none⟩) (Kd.R_far (p := ⟨gb346, 1, none⟩) (Kd.R_far (p := ⟨gb346, 0, none⟩) (Kd.R_types HO331.out BK346.out (by decide)) (fun _ hk => hk.2) (.int .i64 t336)) (fun _ hk => hk.2) (.int .i64 t337)) (fun _ hk => hk.2) (.int .i64 t338)) (fun _ hk => hk.2) (.int .i64 t339)) (fun _ hk => hk.2) (.int .i64 t340)) (fun _ hk => hk.2) (.int .i64 t341)) (fun _ hk => hk.2) (.int .i64 t342)) (fun _ hk => hk.2) (.slice Ao65 t343.length co65)) (fun _ h_ => h_.1))))) (Kd.R_lt (by (repeat apply rX); exact (Kd.R_mono (Kd.R_far (p := ⟨gb346, 7, none⟩) (Kd.R_far (p := ⟨gb346, 6, none⟩) (Kd.R_far (p := ⟨gb346, 5, none⟩) (Kd.R_far (p := ⟨gb346, 4, none⟩) (Kd.R_far (p := ⟨gb346, 3, none⟩) (Kd.R_far (p := ⟨gb346, 2, none⟩) (Kd.R_far (p := ⟨gb346, 1, none⟩) (Kd.R_far (p := ⟨gb346, 0, none⟩) (Kd.R_types HO334.out BK346.out (by decide)) (fun _ hk => hk.2) (.int .i64 t336)) (fun _ hk => hk.2) (.int .i64 t337)) (fun _ hk => hk.2) (.int .i64 t338)) (fun _ hk => hk.2) (.int .i64 t339)) (fun _ hk => hk.2) (.int .i64 t340)) (fun _ hk => hk.2) (.int .i64 t341)) (fun _ hk => hk.2) (.int .i64 t342)) (fun _ hk => hk.2) (.slice Ao65 t343.length co65)) (fun _ h_ => h_.1))))) (Kd.R_lt (by (repeat apply rX); exact (Kd.R_mono (Kd.R_far (p := ⟨gb346, 7, none⟩) (Kd.R_far (p := ⟨gb346, 6, none⟩) (Kd.R_far (p := ⟨gb346, 5, none⟩) (Kd.R_far (p := ⟨gb346, 4, none⟩) (Kd.R_far (p := ⟨gb346, 3, none⟩) (Kd.R_far (p := ⟨gb346, 2, none⟩) (Kd.R_far (p := ⟨gb346, 1, none⟩) (Kd.R_far (p := ⟨gb346, 0, none⟩) (Kd.R_types HO345.out BK346.out (by decide)) (fun _ hk => hk.2) (.int .i64 t336)) (fun _ hk => hk.2) (.int .i64 t337)) (fun _ hk => hk.2) (.int .i64 t338)) (fun _ hk => hk.2) (.int .i64 t339)) (fun _ hk => hk.2) (.int .i64 t340)) (fun _ hk => hk.2) (.int .i64 t341)) (fun _ hk => hk.2) (.int .i64 t342)) (fun _ hk => hk.2) (.slice Ao65 t343.length co65)) (fun _ h_ => h_.1))))) (below_size (by repeat (first | (with_reducible first | exact HB.out | apply below_alloc | apply pw_below_drewN | apply below_drew1 | refine below_set ?_ GE301.out | refine below_set ?_ GE302.out | refine below_set ?_ GE328.out | refine below_set ?_ GE335.out | refine below_set ?_ GE346.out) | exact HB.out)))); have n10_ := Aside0.mk (blk_below (g := gb301) (o := .cells #[.slice A0_0 l0_0.length c0_0, .slice A0_1 l0_1.length c0_1] 24 (0, 0)) (by (repeat apply bX); refine blk_far ?_ NB301_346.out _; (repeat apply bX); refine blk_far ?_ NB301_346.out _; (repeat apply bX); refine blk_far ?_ NB301_346.out _; (repeat apply bX); refine blk_far ?_ NB301_346.out _; (repeat apply bX); refine blk_far ?_ NB301_346.out _; (repeat apply bX); refine blk_far ?_ NB301_346.out _; (repeat apply bX); refine blk_far ?_ NB301_346.out _; (repeat apply bX); refine blk_far ?_ NB301_346.out _; (repeat apply bX); exact BK301.out) hb); have n11_ := Aside0.mk (blk_below (g := gb302) (o := .cells #[.int .i64 a1_0, .int .i64 a1_1, .int .i64 a1_2, .int .i64 a1_3, .int .i64 a1_4, .int .i64 a1_5, .int .i64 a1_6, .slice A1_7 l1_7.length c1_7] 32 (0, 0)) (by (repeat apply bX); refine blk_far ?_ NB302_346.out _; (repeat apply bX); refine blk_far ?_ NB302_346.out _; (repeat apply bX); refine blk_far ?_ NB302_346.out _; (repeat apply bX); refine blk_far ?_ NB302_346.out _; (repeat apply bX); refine blk_far ?_ NB302_346.out _; (repeat apply bX); refine blk_far ?_ NB302_346.out _; (repeat apply bX); refine blk_far ?_ NB302_346.out _; (repeat apply bX); refine blk_far ?_ NB302_346.out _; (repeat apply bX); exact BK302.out) hb); have n12_ := Aside0.mk (blk_below (g := gb328) (o := .cells #[.slice Ao42 t321.length co42, .slice Ao44 t324.length co44] 27 (0, 0)) (by (repeat apply bX); refine blk_far ?_ NB328_346.out _; (repeat apply bX); refine blk_far ?_ NB328_346.out _; (repeat apply bX); refine blk_far ?_ NB328_346.out _; (repeat apply bX); refine blk_far ?_ NB328_346.out _; (repeat apply bX); refine blk_far ?_ NB328_346.out _; (repeat apply bX); refine blk_far ?_ NB328_346.out _; (repeat apply bX); refine blk_far ?_ NB328_346.out _; (repeat apply bX); refine blk_far ?_ NB328_346.out _; (repeat apply bX); exact BK328.out) hb); have n13_ := Aside0.mk (blk_below (g := gb335) (o := .cells #[.slice Ao50 t329.length co50, .slice Ao55 t332.length co55] 27 (0, 0)) (by (repeat apply bX); refine blk_far ?_ NB335_346.out _; (repeat apply bX); refine blk_far ?_ NB335_346.out _; (repeat apply bX); refine blk_far ?_ NB335_346.out _; (repeat apply bX); refine blk_far ?_ NB335_346.out _; (repeat apply bX); refine blk_far ?_ NB335_346.out _; (repeat apply bX); refine blk_far ?_ NB335_346.out _; (repeat apply bX); refine blk_far ?_ NB335_346.out _; (repeat apply bX); refine blk_far ?_ NB335_346.out _; (repeat apply bX); exact BK335.out) hb); have n14_ := Aside0.mk (blk_below (g := gb346) (o := .cells #[.int .i64 t336, .int .i64 t337, .int .i64 t338, .int .i64 t339, .int .i64 t340, .int .i64 t341, .int .i64 t342, .slice Ao65 t343.length co65] 35 (0, 0)) (by (repeat apply bX); refine blk_put (cs := #[.int .i64 t336, .int .i64 t337, .int .i64 t338, .int .i64 t339, .int .i64 t340, .int .i64 t341, .int .i64 t342, .slice none 0 0]) ?_ 7 _ rfl; (repeat apply bX); refine blk_put (cs := #[.int .i64 t336, .int .i64 t337, .int .i64 t338, .int .i64 t339, .int .i64 t340, .int .i64 t341, .int .i64 0, .slice none 0 0]) ?_ 6 _ rfl; (repeat apply bX); refine blk_put (cs := #[.int .i64 t336, .int .i64 t337, .int .i64 t338, .int .i64 t339, .int .i64 t340, .int .i64 0, .int .i64 0, .slice none 0 0]) ?_ 5 _ rfl; (repeat apply bX); refine blk_put (cs := #[.int .i64 t336, .int .i64 t337, .int .i64 t338, .int .i64 t339, .int .i64 0, .int .i64 0, .int .i64 0, .slice none 0 0]) ?_ 4 _ rfl; (repeat apply bX); refine blk_put (cs := #[.int .i64 t336, .int .i64 t337, .int .i64 t338, .int .i64 0, .int .i64 0, .int .i64 0, .int .i64 0, .slice none 0 0]) ?_ 3 _ rfl; (repeat apply bX); refine blk_put (cs := #[.int .i64 t336, .int .i64 t337, .int .i64 0, .int .i64 0, .int .i64 0, .int .i64 0, .int .i64 0, .slice none 0 0]) ?_ 2 _ rfl; (repeat apply bX); refine blk_put (cs := #[.int .i64 t336, .int .i64 0, .int .i64 0, .int .i64 0, .int .i64 0, .int .i64 0, .int .i64 0, .slice none 0 0]) ?_ 1 _ rfl; (repeat apply bX); refine blk_put (cs := #[.int .i64 0, .int .i64 0, .int .i64 0, .int .i64 0, .int .i64 0, .int .i64 0, .int .i64 0, .slice none 0 0]) ?_ 0 _ rfl; (repeat apply bX); exact BK346.out) hb); have n15_ := Aside0.mk (below_step (by repeat (first | (with_reducible first | exact HB.out | apply below_alloc | apply pw_below_drewN | apply below_drew1 | refine below_set ?_ GE301.out | refine below_set ?_ GE302.out | refine below_set ?_ GE328.out | refine below_set ?_ GE335.out | refine below_set ?_ GE346.out) | exact HB.out)) hb); clear HO307; clear HO310; clear HO320; clear HO323; clear HO326; clear HO331; clear HO334; clear HO345; clear BK301; clear BK302; clear BK328; clear BK335; clear BK346; clear HB; have HO307 := n0_; have HO310 := n1_; have HO320 := n2_; have HO323 := n3_; have HO326 := n4_; have HO331 := n5_; have HO334 := n6_; have HO345 := n7_; have HO349 := n8_; have HO352 := n9_; have BK301 := n10_; have BK302 := n11_; have BK328 := n12_; have BK335 := n13_; have BK346 := n14_; have HB := n15_; clear n0_ n1_ n2_ n3_ n4_ n5_ n6_ n7_ n8_ n9_ n10_ n11_ n12_ n13_ n14_ n15_; (try clear hb); (try clear hb2); (try clear hk); (try clear hi); (try clear ho0); (try clear ho1)) | ((with_reducible refine gate_dst (N := 10) rfl ?_); refine box_event ?hg (N := 10) ?hd (cs := #[.slice none 0 0, .slice none 0 0]) (t := 27) ?hr ?_; (case hd => rfl); (case hg => rfl); (case hr => first | (go_simp; done) | (go_simp; rfl)); intro gb354 hg w68 hbox hb; have n0_ := Aside0.mk (Kd.R_below (rY HO307.out) hb); have n1_ := Aside0.mk (Kd.R_below (rY HO310.out) hb); have n2_ := Aside0.mk (Kd.R_below (rY HO320.out) hb); have n3_ := Aside0.mk (Kd.R_below (rY HO323.out) hb); have n4_ := Aside0.mk (Kd.R_below (rY HO326.out) hb); have n5_ := Aside0.mk (Kd.R_below (rY HO331.out) hb); have n6_ := Aside0.mk (Kd.R_below (rY HO334.out) hb); have n7_ := Aside0.mk (Kd.R_below (rY HO345.out) hb); have n8_ := Aside0.mk (Kd.R_below (rY HO349.out) hb); have n9_ := Aside0.mk (Kd.R_below (rY HO352.out) hb); have n10_ := Aside0.mk (blk_below (bY BK301.out) hb); have n11_ := Aside0.mk (blk_below (bY BK302.out) hb); have n12_ := Aside0.mk (blk_below (bY BK328.out) hb); have n13_ := Aside0.mk (blk_below (bY BK335.out) hb); have n14_ := Aside0.mk (blk_below (bY BK346.out) hb); have n15_ := Aside0.mk (below_step (by repeat (first | (with_reducible first | exact HB.out | apply below_alloc | apply pw_below_drewN | apply below_drew1 | refine below_set ?_ GE301.out | refine below_set ?_ GE302.out | refine below_set ?_ GE328.out | refine below_set ?_ GE335.out | refine below_set ?_ GE346.out) | exact HB.out)) hb); have n16_ := Aside0.mk (hbox); have n17_ := Aside0.mk ((by rw [hg]; exact (below_size (by repeat (first | (with_reducible first | exact HB.out | apply below_alloc | apply pw_below_drewN | apply below_drew1 | refine below_set ?_ GE301.out | refine below_set ?_ GE302.out | refine below_set ?_ GE328.out | refine below_set ?_ GE335.out | refine below_set ?_ GE346.out) | exact HB.out))) : w.heap.size ≤ gb354)); have n18_ := Aside0.mk ((by rw [hg]; exact (below_size (by repeat (first | (with_reducible first | exact HB.out | apply below_alloc | apply pw_below_drewN | apply below_drew1 | refine below_set ?_ GE301.out | refine below_set ?_ GE302.out | refine below_set ?_ GE328.out | refine below_set ?_ GE335.out | refine below_set ?_ GE346.out) | exact HB.out))) : w.heap.size ≤ gb354)); have n19_ := Aside0.mk ((by rw [hg]; exact Nat.ne_of_lt (blk_lt (bY BK301.out)) : gb301 ≠ gb354)); have n20_ := Aside0.mk ((by rw [hg]; exact Nat.ne_of_gt (blk_lt (bY BK301.out)) : gb354 ≠ gb301)); have n21_ := Aside0.mk ((by rw [hg]; exact Nat.ne_of_lt (blk_lt (bY BK302.out)) : gb302 ≠ gb354)); have n22_ := Aside0.mk ((by rw [hg]; exact Nat.ne_of_gt (blk_lt (bY BK302.out)) : gb354 ≠ gb302)); have n23_ := Aside0.mk ((by rw [hg]; exact Nat.ne_of_lt (blk_lt (bY BK328.out)) : gb328 ≠ gb354)); have n24_ := Aside0.mk ((by rw [hg]; exact Nat.ne_of_gt (blk_lt (bY BK328.out)) : gb354 ≠ gb328)); have n25_ := Aside0.mk ((by rw [hg]; exact Nat.ne_of_lt (blk_lt (bY BK335.out)) : gb335 ≠ gb354)); have n26_ := Aside0.mk ((by rw [hg]; exact Nat.ne_of_gt (blk_lt (bY BK335.out)) : gb354 ≠ gb335)); have n27_ := Aside0.mk ((by rw [hg]; exact Nat.ne_of_lt (blk_lt (bY BK346.out)) : gb346 ≠ gb354)); have n28_ := Aside0.mk ((by rw [hg]; exact Nat.ne_of_gt (blk_lt (bY BK346.out)) : gb354 ≠ gb346)); clear HO307; clear HO310; clear HO320; clear HO323; clear HO326; clear HO331; clear HO334; clear HO345; clear HO349; clear HO352; clear BK301; clear BK302; clear BK328; clear BK335; clear BK346; clear HB; have HO307 := n0_; have HO310 := n1_; have HO320 := n2_; have HO323 := n3_; have HO326 := n4_; have HO331 := n5_; have HO334 := n6_; have HO345 := n7_; have HO349 := n8_; have HO352 := n9_; have BK301 := n10_; have BK302 := n11_; have BK328 := n12_; have BK335 := n13_; have BK346 := n14_; have HB := n15_; have BK354 := n16_; have GW354 := n17_; have GE354 := n18_; have NB301_354 := n19_; have NB354_301 := n20_; have NB302_354 := n21_; have NB354_302 := n22_; have NB328_354 := n23_; have NB354_328 := n24_; have NB335_354 := n25_; have NB354_335 := n26_; have NB346_354 := n27_; have NB354_346 := n28_; clear n0_ n1_ n2_ n3_ n4_ n5_ n6_ n7_ n8_ n9_ n10_ n11_ n12_ n13_ n14_ n15_ n16_ n17_ n18_ n19_ n20_ n21_ n22_ n23_ n24_ n25_ n26_ n27_ n28_; clear hb hbox hg; obtain ⟨Ao69, co69, eo69⟩ := Kd.R_slice HO349.out; subst eo69; have hnb70 := NB354_301.out; have hnc70 := NB301_354.out; have hnb71 := NB354_302.out; have hnc71 := NB302_354.out; have hnb72 := NB354_328.out; have hnc72 := NB328_354.out; have hnb73 := NB354_335.out; have hnc73 := NB335_354.out; have hnb74 := NB354_346.out; have hnc74 := NB346_354.out; have hcz75_0 : w68.cell? ⟨gb354, 0, none⟩ = some (.slice none 0 0) := (blk_cell BK354.out 0).trans rfl; have hcz75_1 : w68.cell? ⟨gb354, 1, none⟩ = some (.slice none 0 0) := (blk_cell BK354.out 1).trans rfl; have hfz75_0 := blk_frozen BK354.out 0; have hfz75_1 := blk_frozen BK354.out 1; obtain ⟨Ao76, co76, eo76⟩ := Kd.R_slice HO352.out; subst eo76))
 (try simp only [Act.put, List.setIfInBounds_toArray, List.set_cons_zero, List.set_cons_succ])
 go_cut [53] (fun v53 wc => ∃ (kq : Nat) (x53_24 : Bool), v53 = .bool x53_24 ∧ Aside0 (laws_FnExactReturnCredits.j0 kq t327 t353 x53_24 l0_0 l0_1 a1_0 a1_1 a1_2 a1_3 a1_4 a1_5 a1_6 l1_7 t321 t324 t329 t332 t336 t337 t338 t339 t340 t341 t342 t343 t347 t350 = some r) ∧ Aside0 (kq ≤ k) ∧ Aside0 (Kd.R (Kd.int .i64) 3 wc w.heap.size (fun k_ => some k_ ≠ ((.slice Ao44 t324.length co44) : Value).ownBlock ∧ some k_ ≠ ((.slice Ao50 t329.length co50) : Value).ownBlock ∧ some k_ ≠ ((.slice Ao55 t332.length co55) : Value).ownBlock ∧ some k_ ≠ ((.slice Ao65 t343.length co65) : Value).ownBlock ∧ some k_ ≠ ((.slice Ao69 t347.length co69) : Value).ownBlock ∧ some k_ ≠ ((.slice Ao76 t350.length co76) : Value).ownBlock) (.slice Ao42 t321.length co42) t321) ∧ Aside0 (Kd.R (Kd.int .i64) 3 wc w.heap.size (fun k_ => some k_ ≠ ((.slice Ao42 t321.length co42) : Value).ownBlock ∧ some k_ ≠ ((.slice Ao50 t329.length co50) : Value).ownBlock ∧ some k_ ≠ ((.slice Ao55 t332.length co55) : Value).ownBlock ∧ some k_ ≠ ((.slice Ao65 t343.length co65) : Value).ownBlock ∧ some k_ ≠ ((.slice Ao69 t347.length co69) : Value).ownBlock ∧ some k_ ≠ ((.slice Ao76 t350.length co76) : Value).ownBlock) (.slice Ao44 t324.length co44) t324) ∧ Aside0 (Kd.R (Kd.int .i64) 3 wc w.heap.size (fun k_ => some k_ ≠ ((.slice Ao42 t321.length co42) : Value).ownBlock ∧ some k_ ≠ ((.slice Ao44 t324.length co44) : Value).ownBlock ∧ some k_ ≠ ((.slice Ao55 t332.length co55) : Value).ownBlock ∧ some k_ ≠ ((.slice Ao65 t343.length co65) : Value).ownBlock ∧ some k_ ≠ ((.slice Ao69 t347.length co69) : Value).ownBlock ∧ some k_ ≠ ((.slice Ao76 t350.length co76) : Value).ownBlock) (.slice Ao50 t329.length co50) t329) ∧ Aside0 (Kd.R (Kd.int .i64) 3 wc w.heap.size (fun k_ => some k_ ≠ ((.slice Ao42 t321.length co42) : Value).ownBlock ∧ some k_ ≠ ((.slice Ao44 t324.length co44) : Value).ownBlock ∧ some k_ ≠ ((.slice Ao50 t329.length co50) : Value).ownBlock ∧ some k_ ≠ ((.slice Ao65 t343.length co65) : Value).ownBlock ∧ some k_ ≠ ((.slice Ao69 t347.length co69) : Value).ownBlock ∧ some k_ ≠ ((.slice Ao76 t350.length co76) : Value).ownBlock) (.slice Ao55 t332.length co55) t332) ∧ Aside0 (Kd.R (Kd.int .i64) 3 wc w.heap.size (fun k_ => some k_ ≠ ((.slice Ao42 t321.length co42) : Value).ownBlock ∧ some k_ ≠ ((.slice Ao44 t324.length co44) : Value).ownBlock ∧ some k_ ≠ ((.slice Ao50 t329.length co50) : Value).ownBlock ∧ some k_ ≠ ((.slice Ao55 t332.length co55) : Value).ownBlock ∧ some k_ ≠ ((.slice Ao69 t347.length co69) : Value).ownBlock ∧ some k_ ≠ ((.slice Ao76 t350.length co76) : Value).ownBlock) (.slice Ao65 t343.length co65) t343) ∧ Aside0 (Kd.R (Kd.int .i64) 3 wc w.heap.size (fun k_ => some k_ ≠ ((.slice Ao42 t321.length co42) : Value).ownBlock ∧ some k_ ≠ ((.slice Ao44 t324.length co44) : Value).ownBlock ∧ some k_ ≠ ((.slice Ao50 t329.length co50) : Value).ownBlock ∧ some k_ ≠ ((.slice Ao55 t332.length co55) : Value).ownBlock ∧ some k_ ≠ ((.slice Ao65 t343.length co65) : Value).ownBlock ∧ some k_ ≠ ((.slice Ao76 t350.length co76) : Value).ownBlock) (.slice Ao69 t347.length co69) t347) ∧ Aside0 (Kd.R (Kd.int .i64) 3 wc w.heap.size (fun k_ => some k_ ≠ ((.slice Ao42 t321.length co42) : Value).ownBlock ∧ some k_ ≠ ((.slice Ao44 t324.length co44) : Value).ownBlock ∧ some k_ ≠ ((.slice Ao50 t329.length co50) : Value).ownBlock ∧ some k_ ≠ ((.slice Ao55 t332.length co55) : Value).ownBlock ∧ some k_ ≠ ((.slice Ao65 t343.length co65) : Value).ownBlock ∧ some k_ ≠ ((.slice Ao69 t347.length co69) : Value).ownBlock) (.slice Ao76 t350.length co76) t350) ∧ Aside0 (wc.heap[gb301]? = some (.cells #[(.slice A0_0 l0_0.length c0_0), (.slice A0_1 l0_1.length c0_1)] 24 (0, 0))) ∧ Aside0 (wc.heap[gb302]? = some (.cells #[.int .i64 a1_0, .int .i64 a1_1, .int .i64 a1_2, .int .i64 a1_3, .int .i64 a1_4, .int .i64 a1_5, .int .i64 a1_6, (.slice A1_7 l1_7.length c1_7)] 32 (0, 0))) ∧ Aside0 (wc.heap[gb328]? = some (.cells #[(.slice Ao42 t321.length co42), (.slice Ao44 t324.length co44)] 27 (0, 0))) ∧ Aside0 (wc.heap[gb335]? = some (.cells #[(.slice Ao50 t329.length co50), (.slice Ao55 t332.length co55)] 27 (0, 0))) ∧ Aside0 (wc.heap[gb346]? = some (.cells #[.int .i64 t336, .int .i64 t337, .int .i64 t338, .int .i64 t339, .int .i64 t340, .int .i64 t341, .int .i64 t342, (.slice Ao65 t343.length co65)] 35 (0, 0))) ∧ Aside0 (wc.heap[gb354]? = some (.cells #[(.slice Ao69 t347.length co69), (.slice Ao76 t350.length co76)] 27 (0, 0))) ∧ Aside0 (Below w.heap.size w wc))
 case first =>
  have H := HC25.out
  clear HC25
  replace H := Option.bind_eq_some_iff.mp H
  obtain ⟨t355, A770, H⟩ := H
  have A77 := Aside0.mk A770
  clear A770
  by_cases c78 : t355 = true
  ·subst c78
   have H1 : (laws_FnExactReturnCredits.j0 k t327 t353 (t353 != t327) l0_0 l0_1 a1_0 a1_1 a1_2 a1_3 a1_4 a1_5 a1_6 l1_7 t321 t324 t329 t332 t336 t337 t338 t339 t340 t341 t342 t343 t347 t350) = some r := by rw [if_pos rfl] at H; exact H
   clear H
   have H := H1
   clear H1
   have H' := Aside0.mk H
   clear H
   have hnb79 := NB354_301.out
   have hnc79 := NB301_354.out
   have hnb80 := NB354_302.out
   have hnc80 := NB302_354.out
   have hnb81 := NB354_328.out
   have hnc81 := NB328_354.out
   have hnb82 := NB354_335.out
   have hnc82 := NB335_354.out
   have hnb83 := NB354_346.out
   have hnc83 := NB346_354.out
   obtain ⟨hcz84_0, hcz84_1, hfz84_0, hfz84_1⟩ := b2 BK354.out
   have hnb85 := NB328_301.out
   have hnc85 := NB301_328.out
   have hnb86 := NB328_302.out
   have hnc86 := NB302_328.out
   have hnb87 := NB328_335.out
   have hnc87 := NB335_328.out
   have hnb88 := NB328_346.out
   have hnc88 := NB346_328.out
   obtain ⟨hcz89_0, hcz89_1, hfz89_0, hfz89_1⟩ := b2 BK328.out
   go_wp2_with (first | ((with_reducible refine gate_callee (f := 19) rfl ?_); refine goesL_ (some 47) rfl rfl Try.func19 (by kernel_rfl) rfl #[.agg #[.slice Ao69 t347.length co69, .slice Ao76 t350.length co76], .agg #[.slice Ao42 t321.length co42, .slice Ao44 t324.length co44]] rfl (by (try simp only [List.map_toArray, List.map_cons, List.map_nil]); first | done | rfl) ?_; (with_reducible refine (laws_eqCredits.calls k _ _ t347 _ _ t350 _ _ t321 _ _ t324 true _ ?side1 ?side2 ?side3 ?side4 ?side5 ?side6 ?side7 ?side8 A77.out).mono ?_); (case side1 => refine (Kd.R_reads' (e := 3) (base := w.heap.size) (ok := fun k_ => ((((((((some k_ ≠ (.slice Ao76 t350.length co76 : Value).ownBlock ∧ some k_ ≠ (v306 : Value).ownBlock) ∧ some k_ ≠ (v309 : Value).ownBlock) ∧ some k_ ≠ (v319 : Value).ownBlock) ∧ some k_ ≠ (.slice Ao42 t321.length co42 : Value).ownBlock) ∧ some k_ ≠ (.slice Ao44 t324.length co44 : Value).ownBlock) ∧ some k_ ≠ (.slice Ao50 t329.length co50 : Value).ownBlock) ∧ some k_ ≠ (.slice Ao55 t332.length co55 : Value).ownBlock) ∧ some k_ ≠ (.slice Ao65 t343.length co65 : Value).ownBlock)) (n := t347.length) (c := co69) ?_).2.2; exact (by (repeat apply rX); exact (Kd.R_mono (Kd.R_far (p := ⟨gb354, 1, none⟩) (Kd.R_far (p := ⟨gb354, 0, none⟩) (Kd.R_types HO349.out BK354.out (by decide)) (fun _ hk => hk.2) (.slice Ao69 t347.length co69)) (fun _ hk => hk.2) (.slice Ao76 t350.length co76)) (fun _ h_ => h_.1)))); (case side2 => exact (Kd.R_reads' HO349.out).2.1); (case side3 => refine (Kd.R_reads' (e := 3) (base := w.heap.size) (ok := fun k_ => ((((((((some k_ ≠ (.slice Ao69 t347.length co69 : Value).ownBlock ∧ some k_ ≠ (v306 : Value).ownBlock) ∧ some k_ ≠ (v309 : Value).ownBlock) ∧ some k_ ≠ (v319 : Value).ownBlock) ∧ some k_ ≠ (.slice Ao42 t321.length co42 : Value).ownBlock) ∧ some k_ ≠ (.slice Ao44 t324.length co44 : Value).ownBlock) ∧ some k_ ≠ (.slice Ao50 t329.length co50 : Value).ownBlock) ∧ some k_ ≠ (.slice Ao55 t332.length co55 : Value).ownBlock) ∧ some k_ ≠ (.slice Ao65 t343.length co65 : Value).ownBlock)) (n := t350.length) (c := co76) ?_).2.2; exact (by (repeat apply rX); exact (Kd.R_mono (Kd.R_far (p := ⟨gb354, 1, none⟩) (Kd.R_far (p := ⟨gb354, 0, none⟩) (Kd.R_types HO352.out BK354.out (by decide)) (fun _ hk => hk.2) (.slice Ao69 t347.length co69)) (fun _ hk => hk.2) (.slice Ao76 t350.length co76)) (fun _ h_ => h_.1)))); (case side4 => exact (Kd.R_reads' HO352.out).2.1); (case side5 => refine (Kd.R_reads' (e := 3) (base := w.heap.size) (ok := fun k_ => ((((((some k_ ≠ (v306 : Value).ownBlock ∧ (some k_ ≠ (v309 : Value).ownBlock ∧ (some k_ ≠ (v319 : Value).ownBlock ∧ some k_ ≠ (.slice Ao44 t324.length co44 : Value).ownBlock))) ∧ some k_ ≠ (.slice Ao50 t329.length co50 : Value).ownBlock) ∧ some k_ ≠ (.slice Ao55 t332.length co55 : Value).ownBlock) ∧ some k_ ≠ (.slice Ao65 t343.length co65 : Value).ownBlock) ∧ some k_ ≠ (.slice Ao69 t347.length co69 : Value).ownBlock) ∧ some k_ ≠ (.slice Ao76 t350.length co76 : Value).ownBlock)) (n := t321.length) (c := co42) ?_).2.2; exact (by (repeat apply rX); exact (Kd.R_mono (Kd.R_far (p := ⟨gb354, 1, none⟩) (Kd.R_far (p := ⟨gb354, 0, none⟩) (Kd.R_types HO323.out BK354.out (by decide)) (fun _ hk => hk.2) (.slice Ao69 t347.length co69)) (fun _ hk => hk.2) (.slice Ao76 t350.length co76)) (fun _ h_ => h_.1)))); (case side6 => exact (Kd.R_reads' HO323.out).2.1); (case side7 => refine (Kd.R_reads' (e := 3) (base := w.heap.size) (ok := fun k_ => ((((((some k_ ≠ (v306 : Value).ownBlock ∧ (some k_ ≠ (v309 : Value).ownBlock ∧ (some k_ ≠ (v319 : Value).ownBlock ∧ some k_ ≠ (.slice Ao42 t321.length co42 : Value).ownBlock))) ∧ some k_ ≠ (.slice Ao50 t329.length co50 : Value).ownBlock) ∧ some k_ ≠ (.slice Ao55 t332.length co55 : Value).ownBlock) ∧ some k_ ≠ (.slice Ao65 t343.length co65 : Value).ownBlock) ∧ some k_ ≠ (.slice Ao69 t347.length co69 : Value).ownBlock) ∧ some k_ ≠ (.slice Ao76 t350.length co76 : Value).ownBlock)) (n := t324.length) (c := co44) ?_).2.2; exact (by (repeat apply rX); exact (Kd.R_mono (Kd.R_far (p := ⟨gb354, 1, none⟩) (Kd.R_far (p := ⟨gb354, 0, none⟩) (Kd.R_types HO326.out BK354.out (by decide)) (fun _ hk => hk.2) (.slice Ao69 t347.length co69)) (fun _ hk => hk.2) (.slice Ao76 t350.length co76)) (fun _ h_ => h_.1)))); (case side8 => exact (Kd.R_reads' HO326.out).2.1); rintro e w90 ⟨rfl, hb⟩; refine ⟨_, rfl, ?_⟩; have n0_ := Aside0.mk (Kd.R_below (by (repeat apply rX); exact (Kd.R_mono (Kd.R_far (p := ⟨gb354, 1, none⟩) (Kd.R_far (p := ⟨gb354, 0, none⟩) (Kd.R_types HO307.out BK354.out (by decide)) (fun _ hk => hk.2) (.slice Ao69 t347.length co69)) (fun _ hk => hk.2) (.slice Ao76 t350.length co76)) (fun _ h_ => h_.1))) hb); have n1_ := Aside0.mk (Kd.R_below (by (repeat apply rX); exact (Kd.R_mono (Kd.R_far (p := ⟨gb354, 1, none⟩) (Kd.R_far (p := ⟨gb354, 0, none⟩) (Kd.R_types HO310.out BK354.out (by decide)) (fun _ hk => hk.2) (.slice Ao69 t347.length co69)) (fun _ hk => hk.2) (.slice Ao76 t350.length co76)) (fun _ h_ => h_.1))) hb); have n2_ := Aside0.mk (Kd.R_below (by (repeat apply rX); exact (Kd.R_mono (Kd.R_far (p := ⟨gb354, 1, none⟩) (Kd.R_far (p := ⟨gb354, 0, none⟩) (Kd.R_types HO320.out BK354.out (by decide)) (fun _ hk => hk.2) (.slice Ao69 t347.length co69)) (fun _ hk => hk.2) (.slice Ao76 t350.length co76)) (fun _ h_ => h_.1))) hb); have n3_ := Aside0.mk (Kd.R_below (by (repeat apply rX); exact (Kd.R_mono (Kd.R_far (p := ⟨gb354, 1, none⟩) (Kd.R_far (p := ⟨gb354, 0, none⟩) (Kd.R_types HO323.out BK354.out (by decide)) (fun _ hk => hk.2) (.slice Ao69 t347.length co69)) (fun _ hk => hk.2) (.slice Ao76 t350.length co76)) (fun _ h_ => h_.1))) hb); have n4_ := Aside0.mk (Kd.R_below (by (repeat apply rX); exact (Kd.R_mono (Kd.R_far (p := ⟨gb354, 1, none⟩) (Kd.R_far (p := ⟨gb354, 0, none⟩) (Kd.R_types HO326.out BK354.out (by decide)) (fun _ hk => hk.2) (.slice Ao69 t347.length co69)) (fun _ hk => hk.2) (.slice Ao76 t350.length co76)) (fun _ h_ => h_.1))) hb); have n5_ := Aside0.mk (Kd.R_below (by (repeat apply rX); exact (Kd.R_mono (Kd.R_far (p := ⟨gb354, 1, none⟩) (Kd.R_far (p := ⟨gb354, 0, none⟩) (Kd.R_types HO331.out BK354.out (by decide)) (fun _ hk => hk.2) (.slice Ao69 t347.length co69)) (fun _ hk => hk.2) (.slice Ao76 t350.length co76)) (fun _ h_ => h_.1))) hb); have n6_ := Aside0.mk (Kd.R_below (by (repeat apply rX); exact (Kd.R_mono (Kd.R_far (p := ⟨gb354, 1, none⟩) (Kd.R_far (p := ⟨gb354, 0, none⟩) (Kd.R_types HO334.out BK354.out (by decide)) (fun _ hk => hk.2) (.slice Ao69 t347.length co69)) (fun _ hk => hk.2) (.slice Ao76 t350.length co76)) (fun _ h_ => h_.1))) hb); have n7_ := Aside0.mk (Kd.R_below (by (repeat apply rX); exact (Kd.R_mono (Kd.R_far (p := ⟨gb354, 1, none⟩) (Kd.R_far (p := ⟨gb354, 0, none⟩) (Kd.R_types HO345.out BK354.out (by decide)) (fun _ hk => hk.2) (.slice Ao69 t347.length co69)) (fun _ hk => hk.2) (.slice Ao76 t350.length co76)) (fun _ h_ => h_.1))) hb); have n8_ := Aside0.mk (Kd.R_below (by (repeat apply rX); exact (Kd.R_mono (Kd.R_far (p := ⟨gb354, 1, none⟩) (Kd.R_far (p := ⟨gb354, 0, none⟩) (Kd.R_types HO349.out BK354.out (by decide)) (fun _ hk => hk.2) (.slice Ao69 t347.length co69)) (fun _ hk => hk.2) (.slice Ao76 t350.length co76)) (fun _ h_ => h_.1))) hb); have n9_ := Aside0.mk (Kd.R_below (by (repeat apply rX); exact (Kd.R_mono (Kd.R_far (p := ⟨gb354, 1, none⟩) (Kd.R_far (p := ⟨gb354, 0, none⟩) (Kd.R_types HO352.out BK354.out (by decide)) (fun _ hk => hk.2) (.slice Ao69 t347.length co69)) (fun _ hk => hk.2) (.slice Ao76 t350.length co76)) (fun _ h_ => h_.1))) hb); have n10_ := Aside0.mk (blk_below (g := gb301) (o := .cells #[.slice A0_0 l0_0.length c0_0, .slice A0_1 l0_1.length c0_1] 24 (0, 0)) (by (repeat apply bX); refine blk_far ?_ NB301_354.out _; (repeat apply bX); refine blk_far ?_ NB301_354.out _; (repeat apply bX); exact BK301.out) hb); have n11_ := Aside0.mk (blk_below (g := gb302) (o := .cells #[.int .i64 a1_0, .int .i64 a1_1, .int .i64 a1_2, .int .i64 a1_3, .int .i64 a1_4, .int .i64 a1_5, .int .i64 a1_6, .slice A1_7 l1_7.length c1_7] 32 (0, 0)) (by (repeat apply bX); refine blk_far ?_ NB302_354.out _; (repeat apply bX); refine blk_far ?_ NB302_354.out _; (repeat apply bX); exact BK302.out) hb); have n12_ := Aside0.mk (blk_below (g := gb328) (o := .cells #[.slice Ao42 t321.length co42, .slice Ao44 t324.length co44] 27 (0, 0)) (by (repeat apply bX); refine blk_far ?_ NB328_354.out _; (repeat apply bX); refine blk_far ?_ NB328_354.out _; (repeat apply bX); exact BK328.out) hb); have n13_ := Aside0.mk (blk_below (g := gb335) (o := .cells #[.slice Ao50 t329.length co50, .slice Ao55 t332.length co55] 27 (0, 0)) (by (repeat apply bX); refine blk_far ?_ NB335_354.out _; (repeat apply bX); refine blk_far ?_ NB335_354.out _; (repeat apply bX); exact BK335.out) hb); have n14_ := Aside0.mk (blk_below (g := gb346) (o := .cells #[.int .i64 t336, .int .i64 t337, .int .i64 t338, .int .i64 t339, .int .i64 t340, .int .i64 t341, .int .i64 t342, .slice Ao65 t343.length co65] 35 (0, 0)) (by (repeat apply bX); refine blk_far ?_ NB346_354.out _; (repeat apply bX); refine blk_far ?_ NB346_354.out _; (repeat apply bX); exact BK346.out) hb); have n15_ := Aside0.mk (blk_below (g := gb354) (o := .cells #[.slice Ao69 t347.length co69, .slice Ao76 t350.length co76] 27 (0, 0)) (by (repeat apply bX); refine blk_put (cs := #[.slice Ao69 t347.length co69, .slice none 0 0]) ?_ 1 _ rfl; (repeat apply bX); refine blk_put (cs := #[.slice none 0 0, .slice none 0 0]) ?_ 0 _ rfl; (repeat apply bX); exact BK354.out) hb); have n16_ := Aside0.mk (below_step (by repeat (first | (with_reducible first | exact HB.out | apply below_alloc | apply pw_below_drewN | apply below_drew1 | refine below_set ?_ GE301.out | refine below_set ?_ GE302.out | refine below_set ?_ GE328.out | refine below_set ?_ GE335.out | refine below_set ?_ GE346.out | refine below_set ?_ GE354.out) | exact HB.out)) hb); clear HO307; clear HO310; clear HO320; clear HO323; clear HO326; clear HO331; clear HO334; clear HO345; clear HO349; clear HO352; clear BK301; clear BK302; clear BK328; clear BK335; clear BK346; clear BK354; clear HB; have HO307 := n0_; have HO310 := n1_; have HO320 := n2_; have HO323 := n3_; have HO326 := n4_; have HO331 := n5_; have HO334 := n6_; have HO345 := n7_; have HO349 := n8_; have HO352 := n9_; have BK301 := n10_; have BK302 := n11_; have BK328 := n12_; have BK335 := n13_; have BK346 := n14_; have BK354 := n15_; have HB := n16_; clear n0_ n1_ n2_ n3_ n4_ n5_ n6_ n7_ n8_ n9_ n10_ n11_ n12_ n13_ n14_ n15_ n16_; (try clear hb); (try clear hb2); (try clear hk); (try clear hi)))
   go_meet
   case rel => exact ⟨_, ((t353 != t327)), (by first | rfl | (simp; done) | (simp [*]; done)), H', ⟨by first | omega | exact Nat.le_refl _⟩, ⟨by (repeat apply rX); exact Kd.R_mono HO323.out (fun _ hk => ⟨hk.1.1.1.1.1.2.2.2, ⟨hk.1.1.1.1.2, ⟨hk.1.1.1.2, ⟨hk.1.1.2, ⟨hk.1.2, hk.2⟩⟩⟩⟩⟩)⟩, ⟨by (repeat apply rX); exact Kd.R_mono HO326.out (fun _ hk => ⟨hk.1.1.1.1.1.2.2.2, ⟨hk.1.1.1.1.2, ⟨hk.1.1.1.2, ⟨hk.1.1.2, ⟨hk.1.2, hk.2⟩⟩⟩⟩⟩)⟩, ⟨by (repeat apply rX); exact Kd.R_mono HO331.out (fun _ hk => ⟨hk.1.1.1.1.2, ⟨hk.1.1.1.2, ⟨hk.1.1.1.1.1.1.1.1, ⟨hk.1.1.2, ⟨hk.1.2, hk.2⟩⟩⟩⟩⟩)⟩, ⟨by (repeat apply rX); exact Kd.R_mono HO334.out (fun _ hk => ⟨hk.1.1.1.1.2, ⟨hk.1.1.1.2, ⟨hk.1.1.1.1.1.1.1.1, ⟨hk.1.1.2, ⟨hk.1.2, hk.2⟩⟩⟩⟩⟩)⟩, ⟨by (repeat apply rX); exact Kd.R_mono HO345.out (fun _ hk => ⟨hk.1.1.1.1.1.2, ⟨hk.1.1.1.1.2, ⟨hk.1.1.1.2, ⟨hk.1.1.2, ⟨hk.1.2, hk.2⟩⟩⟩⟩⟩)⟩, ⟨by (repeat apply rX); exact Kd.R_mono HO349.out (fun _ hk => ⟨hk.1.1.1.1.2, ⟨hk.1.1.1.2, ⟨hk.1.1.2, ⟨hk.1.2, ⟨hk.2, hk.1.1.1.1.1.1.1.1⟩⟩⟩⟩⟩)⟩, ⟨by (repeat apply rX); exact Kd.R_mono HO352.out (fun _ hk => ⟨hk.1.1.1.1.2, ⟨hk.1.1.1.2, ⟨hk.1.1.2, ⟨hk.1.2, ⟨hk.2, hk.1.1.1.1.1.1.1.1⟩⟩⟩⟩⟩)⟩, ⟨by (repeat apply bX); exact BK301.out⟩, ⟨by (repeat apply bX); exact BK302.out⟩, ⟨by (repeat apply bX); exact BK328.out⟩, ⟨by (repeat apply bX); exact BK335.out⟩, ⟨by (repeat apply bX); exact BK346.out⟩, ⟨by (repeat apply bX); exact BK354.out⟩, ⟨by repeat (first | (with_reducible first | exact HB.out | apply below_alloc | apply pw_below_drewN | apply below_drew1 | refine below_set ?_ GE301.out | refine below_set ?_ GE302.out | refine below_set ?_ GE328.out | refine below_set ?_ GE335.out | refine below_set ?_ GE346.out | refine below_set ?_ GE354.out) | exact HB.out)⟩⟩
  replace c78 := Bool.eq_false_iff.mpr c78
  subst c78
  have H1 : (laws_FnExactReturnCredits.j0 k t327 t353 true l0_0 l0_1 a1_0 a1_1 a1_2 a1_3 a1_4 a1_5 a1_6 l1_7 t321 t324 t329 t332 t336 t337 t338 t339 t340 t341 t342 t343 t347 t350) = some r := by rw [if_neg (show ¬ (false = true) by decide)] at H; exact H
  clear H
  have H := H1
  clear H1
  have H' := Aside0.mk H
  clear H
  have hnb91 := NB354_301.out
  have hnc91 := NB301_354.out
  have hnb92 := NB354_302.out
  have hnc92 := NB302_354.out
  have hnb93 := NB354_328.out
  have hnc93 := NB328_354.out
  have hnb94 := NB354_335.out
  have hnc94 := NB335_354.out
  have hnb95 := NB354_346.out
  have hnc95 := NB346_354.out
  obtain ⟨hcz96_0, hcz96_1, hfz96_0, hfz96_1⟩ := b2 BK354.out
  have hnb97 := NB328_301.out
  have hnc97 := NB301_328.out
  have hnb98 := NB328_302.out
  have hnc98 := NB302_328.out
  have hnb99 := NB328_335.out
  have hnc99 := NB335_328.out
  have hnb100 := NB328_346.out
  have hnc100 := NB346_328.out
  obtain ⟨hcz101_0, hcz101_1, hfz101_0, hfz101_1⟩ := b2 BK328.out
  go_wp2_with (first | ((with_reducible refine gate_callee (f := 19) rfl ?_); refine goesL_ (some 47) rfl rfl Try.func19 (by kernel_rfl) rfl #[.agg #[.slice Ao69 t347.length co69, .slice Ao76 t350.length co76], .agg #[.slice Ao42 t321.length co42, .slice Ao44 t324.length co44]] rfl (by (try simp only [List.map_toArray, List.map_cons, List.map_nil]); first | done | rfl) ?_; (with_reducible refine (laws_eqCredits.calls k _ _ t347 _ _ t350 _ _ t321 _ _ t324 false _ ?side1 ?side2 ?side3 ?side4 ?side5 ?side6 ?side7 ?side8 A77.out).mono ?_); (case side1 => refine (Kd.R_reads' (e := 3) (base := w.heap.size) (ok := fun k_ => ((((((((some k_ ≠ (.slice Ao76 t350.length co76 : Value).ownBlock ∧ some k_ ≠ (v306 : Value).ownBlock) ∧ some k_ ≠ (v309 : Value).ownBlock) ∧ some k_ ≠ (v319 : Value).ownBlock) ∧ some k_ ≠ (.slice Ao42 t321.length co42 : Value).ownBlock) ∧ some k_ ≠ (.slice Ao44 t324.length co44 : Value).ownBlock) ∧ some k_ ≠ (.slice Ao50 t329.length co50 : Value).ownBlock) ∧ some k_ ≠ (.slice Ao55 t332.length co55 : Value).ownBlock) ∧ some k_ ≠ (.slice Ao65 t343.length co65 : Value).ownBlock)) (n := t347.length) (c := co69) ?_).2.2; exact (by (repeat apply rX); exact (Kd.R_mono (Kd.R_far (p := ⟨gb354, 1, none⟩) (Kd.R_far (p := ⟨gb354, 0, none⟩) (Kd.R_types HO349.out BK354.out (by decide)) (fun _ hk => hk.2) (.slice Ao69 t347.length co69)) (fun _ hk => hk.2) (.slice Ao76 t350.length co76)) (fun _ h_ => h_.1)))); (case side2 => exact (Kd.R_reads' HO349.out).2.1); (case side3 => refine (Kd.R_reads' (e := 3) (base := w.heap.size) (ok := fun k_ => ((((((((some k_ ≠ (.slice Ao69 t347.length co69 : Value).ownBlock ∧ some k_ ≠ (v306 : Value).ownBlock) ∧ some k_ ≠ (v309 : Value).ownBlock) ∧ some k_ ≠ (v319 : Value).ownBlock) ∧ some k_ ≠ (.slice Ao42 t321.length co42 : Value).ownBlock) ∧ some k_ ≠ (.slice Ao44 t324.length co44 : Value).ownBlock) ∧ some k_ ≠ (.slice Ao50 t329.length co50 : Value).ownBlock) ∧ some k_ ≠ (.slice Ao55 t332.length co55 : Value).ownBlock) ∧ some k_ ≠ (.slice Ao65 t343.length co65 : Value).ownBlock)) (n := t350.length) (c := co76) ?_).2.2; exact (by (repeat apply rX); exact (Kd.R_mono (Kd.R_far (p := ⟨gb354, 1, none⟩) (Kd.R_far (p := ⟨gb354, 0, none⟩) (Kd.R_types HO352.out BK354.out (by decide)) (fun _ hk => hk.2) (.slice Ao69 t347.length co69)) (fun _ hk => hk.2) (.slice Ao76 t350.length co76)) (fun _ h_ => h_.1)))); (case side4 => exact (Kd.R_reads' HO352.out).2.1); (case side5 => refine (Kd.R_reads' (e := 3) (base := w.heap.size) (ok := fun k_ => ((((((some k_ ≠ (v306 : Value).ownBlock ∧ (some k_ ≠ (v309 : Value).ownBlock ∧ (some k_ ≠ (v319 : Value).ownBlock ∧ some k_ ≠ (.slice Ao44 t324.length co44 : Value).ownBlock))) ∧ some k_ ≠ (.slice Ao50 t329.length co50 : Value).ownBlock) ∧ some k_ ≠ (.slice Ao55 t332.length co55 : Value).ownBlock) ∧ some k_ ≠ (.slice Ao65 t343.length co65 : Value).ownBlock) ∧ some k_ ≠ (.slice Ao69 t347.length co69 : Value).ownBlock) ∧ some k_ ≠ (.slice Ao76 t350.length co76 : Value).ownBlock)) (n := t321.length) (c := co42) ?_).2.2; exact (by (repeat apply rX); exact (Kd.R_mono (Kd.R_far (p := ⟨gb354, 1, none⟩) (Kd.R_far (p := ⟨gb354, 0, none⟩) (Kd.R_types HO323.out BK354.out (by decide)) (fun _ hk => hk.2) (.slice Ao69 t347.length co69)) (fun _ hk => hk.2) (.slice Ao76 t350.length co76)) (fun _ h_ => h_.1)))); (case side6 => exact (Kd.R_reads' HO323.out).2.1); (case side7 => refine (Kd.R_reads' (e := 3) (base := w.heap.size) (ok := fun k_ => ((((((some k_ ≠ (v306 : Value).ownBlock ∧ (some k_ ≠ (v309 : Value).ownBlock ∧ (some k_ ≠ (v319 : Value).ownBlock ∧ some k_ ≠ (.slice Ao42 t321.length co42 : Value).ownBlock))) ∧ some k_ ≠ (.slice Ao50 t329.length co50 : Value).ownBlock) ∧ some k_ ≠ (.slice Ao55 t332.length co55 : Value).ownBlock) ∧ some k_ ≠ (.slice Ao65 t343.length co65 : Value).ownBlock) ∧ some k_ ≠ (.slice Ao69 t347.length co69 : Value).ownBlock) ∧ some k_ ≠ (.slice Ao76 t350.length co76 : Value).ownBlock)) (n := t324.length) (c := co44) ?_).2.2; exact (by (repeat apply rX); exact (Kd.R_mono (Kd.R_far (p := ⟨gb354, 1, none⟩) (Kd.R_far (p := ⟨gb354, 0, none⟩) (Kd.R_types HO326.out BK354.out (by decide)) (fun _ hk => hk.2) (.slice Ao69 t347.length co69)) (fun _ hk => hk.2) (.slice Ao76 t350.length co76)) (fun _ h_ => h_.1)))); (case side8 => exact (Kd.R_reads' HO326.out).2.1); rintro e w102 ⟨rfl, hb⟩; refine ⟨_, rfl, ?_⟩; have n0_ := Aside0.mk (Kd.R_below (by (repeat apply rX); exact (Kd.R_mono (Kd.R_far (p := ⟨gb354, 1, none⟩) (Kd.R_far (p := ⟨gb354, 0, none⟩) (Kd.R_types HO307.out BK354.out (by decide)) (fun _ hk => hk.2) (.slice Ao69 t347.length co69)) (fun _ hk => hk.2) (.slice Ao76 t350.length co76)) (fun _ h_ => h_.1))) hb); have n1_ := Aside0.mk (Kd.R_below (by (repeat apply rX); exact (Kd.R_mono (Kd.R_far (p := ⟨gb354, 1, none⟩) (Kd.R_far (p := ⟨gb354, 0, none⟩) (Kd.R_types HO310.out BK354.out (by decide)) (fun _ hk => hk.2) (.slice Ao69 t347.length co69)) (fun _ hk => hk.2) (.slice Ao76 t350.length co76)) (fun _ h_ => h_.1))) hb); have n2_ := Aside0.mk (Kd.R_below (by (repeat apply rX); exact (Kd.R_mono (Kd.R_far (p := ⟨gb354, 1, none⟩) (Kd.R_far (p := ⟨gb354, 0, none⟩) (Kd.R_types HO320.out BK354.out (by decide)) (fun _ hk => hk.2) (.slice Ao69 t347.length co69)) (fun _ hk => hk.2) (.slice Ao76 t350.length co76)) (fun _ h_ => h_.1))) hb); have n3_ := Aside0.mk (Kd.R_below (by (repeat apply rX); exact (Kd.R_mono (Kd.R_far (p := ⟨gb354, 1, none⟩) (Kd.R_far (p := ⟨gb354, 0, none⟩) (Kd.R_types HO323.out BK354.out (by decide)) (fun _ hk => hk.2) (.slice Ao69 t347.length co69)) (fun _ hk => hk.2) (.slice Ao76 t350.length co76)) (fun _ h_ => h_.1))) hb); have n4_ := Aside0.mk (Kd.R_below (by (repeat apply rX); exact (Kd.R_mono (Kd.R_far (p := ⟨gb354, 1, none⟩) (Kd.R_far (p := ⟨gb354, 0, none⟩) (Kd.R_types HO326.out BK354.out (by decide)) (fun _ hk => hk.2) (.slice Ao69 t347.length co69)) (fun _ hk => hk.2) (.slice Ao76 t350.length co76)) (fun _ h_ => h_.1))) hb); have n5_ := Aside0.mk (Kd.R_below (by (repeat apply rX); exact (Kd.R_mono (Kd.R_far (p := ⟨gb354, 1, none⟩) (Kd.R_far (p := ⟨gb354, 0, none⟩) (Kd.R_types HO331.out BK354.out (by decide)) (fun _ hk => hk.2) (.slice Ao69 t347.length co69)) (fun _ hk => hk.2) (.slice Ao76 t350.length co76)) (fun _ h_ => h_.1))) hb); have n6_ := Aside0.mk (Kd.R_below (by (repeat apply rX); exact (Kd.R_mono (Kd.R_far (p := ⟨gb354, 1, none⟩) (Kd.R_far (p := ⟨gb354, 0, none⟩) (Kd.R_types HO334.out BK354.out (by decide)) (fun _ hk => hk.2) (.slice Ao69 t347.length co69)) (fun _ hk => hk.2) (.slice Ao76 t350.length co76)) (fun _ h_ => h_.1))) hb); have n7_ := Aside0.mk (Kd.R_below (by (repeat apply rX); exact (Kd.R_mono (Kd.R_far (p := ⟨gb354, 1, none⟩) (Kd.R_far (p := ⟨gb354, 0, none⟩) (Kd.R_types HO345.out BK354.out (by decide)) (fun _ hk => hk.2) (.slice Ao69 t347.length co69)) (fun _ hk => hk.2) (.slice Ao76 t350.length co76)) (fun _ h_ => h_.1))) hb); have n8_ := Aside0.mk (Kd.R_below (by (repeat apply rX); exact (Kd.R_mono (Kd.R_far (p := ⟨gb354, 1, none⟩) (Kd.R_far (p := ⟨gb354, 0, none⟩) (Kd.R_types HO349.out BK354.out (by decide)) (fun _ hk => hk.2) (.slice Ao69 t347.length co69)) (fun _ hk => hk.2) (.slice Ao76 t350.length co76)) (fun _ h_ => h_.1))) hb); have n9_ := Aside0.mk (Kd.R_below (by (repeat apply rX); exact (Kd.R_mono (Kd.R_far (p := ⟨gb354, 1, none⟩) (Kd.R_far (p := ⟨gb354, 0, none⟩) (Kd.R_types HO352.out BK354.out (by decide)) (fun _ hk => hk.2) (.slice Ao69 t347.length co69)) (fun _ hk => hk.2) (.slice Ao76 t350.length co76)) (fun _ h_ => h_.1))) hb); have n10_ := Aside0.mk (blk_below (g := gb301) (o := .cells #[.slice A0_0 l0_0.length c0_0, .slice A0_1 l0_1.length c0_1] 24 (0, 0)) (by (repeat apply bX); refine blk_far ?_ NB301_354.out _; (repeat apply bX); refine blk_far ?_ NB301_354.out _; (repeat apply bX); exact BK301.out) hb); have n11_ := Aside0.mk (blk_below (g := gb302) (o := .cells #[.int .i64 a1_0, .int .i64 a1_1, .int .i64 a1_2, .int .i64 a1_3, .int .i64 a1_4, .int .i64 a1_5, .int .i64 a1_6, .slice A1_7 l1_7.length c1_7] 32 (0, 0)) (by (repeat apply bX); refine blk_far ?_ NB302_354.out _; (repeat apply bX); refine blk_far ?_ NB302_354.out _; (repeat apply bX); exact BK302.out) hb); have n12_ := Aside0.mk (blk_below (g := gb328) (o := .cells #[.slice Ao42 t321.length co42, .slice Ao44 t324.length co44] 27 (0, 0)) (by (repeat apply bX); refine blk_far ?_ NB328_354.out _; (repeat apply bX); refine blk_far ?_ NB328_354.out _; (repeat apply bX); exact BK328.out) hb); have n13_ := Aside0.mk (blk_below (g := gb335) (o := .cells #[.slice Ao50 t329.length co50, .slice Ao55 t332.length co55] 27 (0, 0)) (by (repeat apply bX); refine blk_far ?_ NB335_354.out _; (repeat apply bX); refine blk_far ?_ NB335_354.out _; (repeat apply bX); exact BK335.out) hb); have n14_ := Aside0.mk (blk_below (g := gb346) (o := .cells #[.int .i64 t336, .int .i64 t337, .int .i64 t338, .int .i64 t339, .int .i64 t340, .int .i64 t341, .int .i64 t342, .slice Ao65 t343.length co65] 35 (0, 0)) (by (repeat apply bX); refine blk_far ?_ NB346_354.out _; (repeat apply bX); refine blk_far ?_ NB346_354.out _; (repeat apply bX); exact BK346.out) hb); have n15_ := Aside0.mk (blk_below (g := gb354) (o := .cells #[.slice Ao69 t347.length co69, .slice Ao76 t350.length co76] 27 (0, 0)) (by (repeat apply bX); refine blk_put (cs := #[.slice Ao69 t347.length co69, .slice none 0 0]) ?_ 1 _ rfl; (repeat apply bX); refine blk_put (cs := #[.slice none 0 0, .slice none 0 0]) ?_ 0 _ rfl; (repeat apply bX); exact BK354.out) hb); have n16_ := Aside0.mk (below_step (by repeat (first | (with_reducible first | exact HB.out | apply below_alloc | apply pw_below_drewN | apply below_drew1 | refine below_set ?_ GE301.out | refine below_set ?_ GE302.out | refine below_set ?_ GE328.out | refine below_set ?_ GE335.out | refine below_set ?_ GE346.out | refine below_set ?_ GE354.out) | exact HB.out)) hb); clear HO307; clear HO310; clear HO320; clear HO323; clear HO326; clear HO331; clear HO334; clear HO345; clear HO349; clear HO352; clear BK301; clear BK302; clear BK328; clear BK335; clear BK346; clear BK354; clear HB; have HO307 := n0_; have HO310 := n1_; have HO320 := n2_; have HO323 := n3_; have HO326 := n4_; have HO331 := n5_; have HO334 := n6_; have HO345 := n7_; have HO349 := n8_; have HO352 := n9_; have BK301 := n10_; have BK302 := n11_; have BK328 := n12_; have BK335 := n13_; have BK346 := n14_; have BK354 := n15_; have HB := n16_; clear n0_ n1_ n2_ n3_ n4_ n5_ n6_ n7_ n8_ n9_ n10_ n11_ n12_ n13_ n14_ n15_ n16_; (try clear hb); (try clear hb2); (try clear hk); (try clear hi)))
  go_meet
  case rel => exact ⟨_, (true), (by first | rfl | (simp; done) | (simp [*]; done)), H', ⟨by first | omega | exact Nat.le_refl _⟩, ⟨by (repeat apply rX); exact Kd.R_mono HO323.out (fun _ hk => ⟨hk.1.1.1.1.1.2.2.2, ⟨hk.1.1.1.1.2, ⟨hk.1.1.1.2, ⟨hk.1.1.2, ⟨hk.1.2, hk.2⟩⟩⟩⟩⟩)⟩, ⟨by (repeat apply rX); exact Kd.R_mono HO326.out (fun _ hk => ⟨hk.1.1.1.1.1.2.2.2, ⟨hk.1.1.1.1.2, ⟨hk.1.1.1.2, ⟨hk.1.1.2, ⟨hk.1.2, hk.2⟩⟩⟩⟩⟩)⟩, ⟨by (repeat apply rX); exact Kd.R_mono HO331.out (fun _ hk => ⟨hk.1.1.1.1.2, ⟨hk.1.1.1.2, ⟨hk.1.1.1.1.1.1.1.1, ⟨hk.1.1.2, ⟨hk.1.2, hk.2⟩⟩⟩⟩⟩)⟩, ⟨by (repeat apply rX); exact Kd.R_mono HO334.out (fun _ hk => ⟨hk.1.1.1.1.2, ⟨hk.1.1.1.2, ⟨hk.1.1.1.1.1.1.1.1, ⟨hk.1.1.2, ⟨hk.1.2, hk.2⟩⟩⟩⟩⟩)⟩, ⟨by (repeat apply rX); exact Kd.R_mono HO345.out (fun _ hk => ⟨hk.1.1.1.1.1.2, ⟨hk.1.1.1.1.2, ⟨hk.1.1.1.2, ⟨hk.1.1.2, ⟨hk.1.2, hk.2⟩⟩⟩⟩⟩)⟩, ⟨by (repeat apply rX); exact Kd.R_mono HO349.out (fun _ hk => ⟨hk.1.1.1.1.2, ⟨hk.1.1.1.2, ⟨hk.1.1.2, ⟨hk.1.2, ⟨hk.2, hk.1.1.1.1.1.1.1.1⟩⟩⟩⟩⟩)⟩, ⟨by (repeat apply rX); exact Kd.R_mono HO352.out (fun _ hk => ⟨hk.1.1.1.1.2, ⟨hk.1.1.1.2, ⟨hk.1.1.2, ⟨hk.1.2, ⟨hk.2, hk.1.1.1.1.1.1.1.1⟩⟩⟩⟩⟩)⟩, ⟨by (repeat apply bX); exact BK301.out⟩, ⟨by (repeat apply bX); exact BK302.out⟩, ⟨by (repeat apply bX); exact BK328.out⟩, ⟨by (repeat apply bX); exact BK335.out⟩, ⟨by (repeat apply bX); exact BK346.out⟩, ⟨by (repeat apply bX); exact BK354.out⟩, ⟨by repeat (first | (with_reducible first | exact HB.out | apply below_alloc | apply pw_below_drewN | apply below_drew1 | refine below_set ?_ GE301.out | refine below_set ?_ GE302.out | refine below_set ?_ GE328.out | refine below_set ?_ GE335.out | refine below_set ?_ GE346.out | refine below_set ?_ GE354.out) | exact HB.out)⟩⟩
 case rest =>
  clear HC25
  obtain ⟨kq, x53_24, rfl, HA, HJ24, HO_329000, HO_329001, HO_336000, HO_336001, HO_347007, HO_355000, HO_355001, BK301, BK302, BK328, BK335, BK346, BK354, HB⟩ := hcut
  cases kq with
  | zero => exact absurd HA.out (by simp [laws_FnExactReturnCredits.j0])
  | succ kj24 =>
   have H := HA.out
   clear HA
   simp only [laws_FnExactReturnCredits.j0] at H
   by_cases c103 : x53_24 = true
   ·subst c103
    have H1 : (some false) = some r := by rw [if_pos rfl] at H; exact H
    clear H
    have H := H1
    clear H1
    exact absurd (H.trans (congrArg some hrt.out)) (by simp)
   replace c103 := Bool.eq_false_iff.mpr c103
   subst c103
   have H1 : ((laws_toCredits.f kj24 l0_0 l0_1).bind fun bt356 => ((laws_eqCredits.f kj24 t329 t332 bt356.1 bt356.2).bind fun t362 => (if t362 = true then ((laws_toPacket.f kj24 a1_0 a1_1 a1_2 a1_3 a1_4 a1_5 a1_6 l1_7).bind fun bt363 => ((laws_eqPacket.f kj24 t336 t337 t338 t339 t340 t341 t342 t343 bt363.1 bt363.2.1 bt363.2.2.1 bt363.2.2.2.1 bt363.2.2.2.2.1 bt363.2.2.2.2.2.1 bt363.2.2.2.2.2.2.1 bt363.2.2.2.2.2.2.2).bind fun t373 => (if t373 = true then ((laws_markCredits.f kj24 t329 t332 1).bind fun bt374 => ((laws_markPacket.f kj24 t336 t337 t338 t339 t340 t341 t342 t343 bt374.1).bind fun bt377 => (if bt377.1 < 0 then (laws_FnExactReturnCredits.j1 kj24 t327 true l0_0 l0_1 a1_0 a1_1 a1_2 a1_3 a1_4 a1_5 a1_6 l1_7 t321 t324 t347 t350) else ((laws_eqCredits.f kj24 t347 t350 t321 t324).bind fun t379 => (if t379 = true then (laws_FnExactReturnCredits.j1 kj24 t327 (t353 != t327) l0_0 l0_1 a1_0 a1_1 a1_2 a1_3 a1_4 a1_5 a1_6 l1_7 t321 t324 t347 t350) else (laws_FnExactReturnCredits.j1 kj24 t327 true l0_0 l0_1 a1_0 a1_1 a1_2 a1_3 a1_4 a1_5 a1_6 l1_7 t321 t324 t347 t350)))))) else (some false)))) else (some false)))) = some r := by rw [if_neg (show ¬ (false = true) by decide)] at H; exact H
   clear H
   have H := H1
   clear H1
   replace H := Option.bind_eq_some_iff.mp H
   obtain ⟨⟨t356, t359⟩, A1040, H⟩ := H
   replace H : ((laws_eqCredits.f kj24 t329 t332 t356 t359).bind fun t362 => (if t362 = true then ((laws_toPacket.f kj24 a1_0 a1_1 a1_2 a1_3 a1_4 a1_5 a1_6 l1_7).bind fun bt363 => ((laws_eqPacket.f kj24 t336 t337 t338 t339 t340 t341 t342 t343 bt363.1 bt363.2.1 bt363.2.2.1 bt363.2.2.2.1 bt363.2.2.2.2.1 bt363.2.2.2.2.2.1 bt363.2.2.2.2.2.2.1 bt363.2.2.2.2.2.2.2).bind fun t373 => (if t373 = true then ((laws_markCredits.f kj24 t329 t332 1).bind fun bt374 => ((laws_markPacket.f kj24 t336 t337 t338 t339 t340 t341 t342 t343 bt374.1).bind fun bt377 => (if bt377.1 < 0 then (laws_FnExactReturnCredits.j1 kj24 t327 true l0_0 l0_1 a1_0 a1_1 a1_2 a1_3 a1_4 a1_5 a1_6 l1_7 t321 t324 t347 t350) else ((laws_eqCredits.f kj24 t347 t350 t321 t324).bind fun t379 => (if t379 = true then (laws_FnExactReturnCredits.j1 kj24 t327 (t353 != t327) l0_0 l0_1 a1_0 a1_1 a1_2 a1_3 a1_4 a1_5 a1_6 l1_7 t321 t324 t347 t350) else (laws_FnExactReturnCredits.j1 kj24 t327 true l0_0 l0_1 a1_0 a1_1 a1_2 a1_3 a1_4 a1_5 a1_6 l1_7 t321 t324 t347 t350)))))) else (some false)))) else (some false))) = some r := H
   have A104 := Aside0.mk A1040
   clear A1040
   replace H := Option.bind_eq_some_iff.mp H
   obtain ⟨t362, A1050, H⟩ := H
   have A105 := Aside0.mk A1050
   clear A1050
   by_cases c106 : t362 = true
   rotate_left
   ·replace c106 := Bool.eq_false_iff.mpr c106
    subst c106
    have H1 : (some false) = some r := by rw [if_neg (show ¬ (false = true) by decide)] at H; exact H
    clear H
    have H := H1
    clear H1
    exact absurd (H.trans (congrArg some hrt.out)) (by simp)
   subst c106
   have H1 : ((laws_toPacket.f kj24 a1_0 a1_1 a1_2 a1_3 a1_4 a1_5 a1_6 l1_7).bind fun bt363 => ((laws_eqPacket.f kj24 t336 t337 t338 t339 t340 t341 t342 t343 bt363.1 bt363.2.1 bt363.2.2.1 bt363.2.2.2.1 bt363.2.2.2.2.1 bt363.2.2.2.2.2.1 bt363.2.2.2.2.2.2.1 bt363.2.2.2.2.2.2.2).bind fun t373 => (if t373 = true then ((laws_markCredits.f kj24 t329 t332 1).bind fun bt374 => ((laws_markPacket.f kj24 t336 t337 t338 t339 t340 t341 t342 t343 bt374.1).bind fun bt377 => (if bt377.1 < 0 then (laws_FnExactReturnCredits.j1 kj24 t327 true l0_0 l0_1 a1_0 a1_1 a1_2 a1_3 a1_4 a1_5 a1_6 l1_7 t321 t324 t347 t350) else ((laws_eqCredits.f kj24 t347 t350 t321 t324).bind fun t379 => (if t379 = true then (laws_FnExactReturnCredits.j1 kj24 t327 (t353 != t327) l0_0 l0_1 a1_0 a1_1 a1_2 a1_3 a1_4 a1_5 a1_6 l1_7 t321 t324 t347 t350) else (laws_FnExactReturnCredits.j1 kj24 t327 true l0_0 l0_1 a1_0 a1_1 a1_2 a1_3 a1_4 a1_5 a1_6 l1_7 t321 t324 t347 t350)))))) else (some false)))) = some r := by rw [if_pos rfl] at H; exact H
   clear H
   have H := H1
   clear H1
   replace H := Option.bind_eq_some_iff.mp H
   obtain ⟨⟨t363, t364, t365, t366, t367, t368, t369, t370⟩, A1070, H⟩ := H
   replace H : ((laws_eqPacket.f kj24 t336 t337 t338 t339 t340 t341 t342 t343 t363 t364 t365 t366 t367 t368 t369 t370).bind fun t373 => (if t373 = true then ((laws_markCredits.f kj24 t329 t332 1).bind fun bt374 => ((laws_markPacket.f kj24 t336 t337 t338 t339 t340 t341 t342 t343 bt374.1).bind fun bt377 => (if bt377.1 < 0 then (laws_FnExactReturnCredits.j1 kj24 t327 true l0_0 l0_1 a1_0 a1_1 a1_2 a1_3 a1_4 a1_5 a1_6 l1_7 t321 t324 t347 t350) else ((laws_eqCredits.f kj24 t347 t350 t321 t324).bind fun t379 => (if t379 = true then (laws_FnExactReturnCredits.j1 kj24 t327 (t353 != t327) l0_0 l0_1 a1_0 a1_1 a1_2 a1_3 a1_4 a1_5 a1_6 l1_7 t321 t324 t347 t350) else (laws_FnExactReturnCredits.j1 kj24 t327 true l0_0 l0_1 a1_0 a1_1 a1_2 a1_3 a1_4 a1_5 a1_6 l1_7 t321 t324 t347 t350)))))) else (some false))) = some r := H
   have A107 := Aside0.mk A1070
   clear A1070
   replace H := Option.bind_eq_some_iff.mp H
   obtain ⟨t373, A1080, H⟩ := H
   have A108 := Aside0.mk A1080
   clear A1080
   by_cases c109 : t373 = true
   rotate_left
   ·replace c109 := Bool.eq_false_iff.mpr c109
    subst c109
    have H1 : (some false) = some r := by rw [if_neg (show ¬ (false = true) by decide)] at H; exact H
    clear H
    have H := H1
    clear H1
    exact absurd (H.trans (congrArg some hrt.out)) (by simp)
   subst c109
   have H1 : ((laws_markCredits.f kj24 t329 t332 1).bind fun bt374 => ((laws_markPacket.f kj24 t336 t337 t338 t339 t340 t341 t342 t343 bt374.1).bind fun bt377 => (if bt377.1 < 0 then (laws_FnExactReturnCredits.j1 kj24 t327 true l0_0 l0_1 a1_0 a1_1 a1_2 a1_3 a1_4 a1_5 a1_6 l1_7 t321 t324 t347 t350) else ((laws_eqCredits.f kj24 t347 t350 t321 t324).bind fun t379 => (if t379 = true then (laws_FnExactReturnCredits.j1 kj24 t327 (t353 != t327) l0_0 l0_1 a1_0 a1_1 a1_2 a1_3 a1_4 a1_5 a1_6 l1_7 t321 t324 t347 t350) else (laws_FnExactReturnCredits.j1 kj24 t327 true l0_0 l0_1 a1_0 a1_1 a1_2 a1_3 a1_4 a1_5 a1_6 l1_7 t321 t324 t347 t350)))))) = some r := by rw [if_pos rfl] at H; exact H
   clear H
   have H := H1
   clear H1
   replace H := Option.bind_eq_some_iff.mp H
   obtain ⟨⟨t374, t375, t376⟩, A1100, H⟩ := H
   replace H : ((laws_markPacket.f kj24 t336 t337 t338 t339 t340 t341 t342 t343 t374).bind fun bt377 => (if bt377.1 < 0 then (laws_FnExactReturnCredits.j1 kj24 t327 true l0_0 l0_1 a1_0 a1_1 a1_2 a1_3 a1_4 a1_5 a1_6 l1_7 t321 t324 t347 t350) else ((laws_eqCredits.f kj24 t347 t350 t321 t324).bind fun t379 => (if t379 = true then (laws_FnExactReturnCredits.j1 kj24 t327 (t353 != t327) l0_0 l0_1 a1_0 a1_1 a1_2 a1_3 a1_4 a1_5 a1_6 l1_7 t321 t324 t347 t350) else (laws_FnExactReturnCredits.j1 kj24 t327 true l0_0 l0_1 a1_0 a1_1 a1_2 a1_3 a1_4 a1_5 a1_6 l1_7 t321 t324 t347 t350))))) = some r := H
   have A110 := Aside0.mk A1100
   clear A1100
   replace H := Option.bind_eq_some_iff.mp H
   obtain ⟨⟨t377, t378⟩, A1110, H⟩ := H
   replace H : (if t377 < 0 then (laws_FnExactReturnCredits.j1 kj24 t327 true l0_0 l0_1 a1_0 a1_1 a1_2 a1_3 a1_4 a1_5 a1_6 l1_7 t321 t324 t347 t350) else ((laws_eqCredits.f kj24 t347 t350 t321 t324).bind fun t379 => (if t379 = true then (laws_FnExactReturnCredits.j1 kj24 t327 (t353 != t327) l0_0 l0_1 a1_0 a1_1 a1_2 a1_3 a1_4 a1_5 a1_6 l1_7 t321 t324 t347 t350) else (laws_FnExactReturnCredits.j1 kj24 t327 true l0_0 l0_1 a1_0 a1_1 a1_2 a1_3 a1_4 a1_5 a1_6 l1_7 t321 t324 t347 t350)))) = some r := H
   have A111 := Aside0.mk A1110
   clear A1110
   have HC112 := Aside0.mk H
   clear H
   try go_wp2
   have n0_ := Aside0.mk (Kd.R_drew HO_329000.out)
   have n1_ := Aside0.mk (Kd.R_drew HO_329001.out)
   have n2_ := Aside0.mk (Kd.R_drew HO_336000.out)
   have n3_ := Aside0.mk (Kd.R_drew HO_336001.out)
   have n4_ := Aside0.mk (Kd.R_drew HO_347007.out)
   have n5_ := Aside0.mk (Kd.R_drew HO_355000.out)
   have n6_ := Aside0.mk (Kd.R_drew HO_355001.out)
   have n7_ := Aside0.mk (blk_drew BK301.out)
   have n8_ := Aside0.mk (blk_drew BK302.out)
   have n9_ := Aside0.mk (blk_drew BK328.out)
   have n10_ := Aside0.mk (blk_drew BK335.out)
   have n11_ := Aside0.mk (blk_drew BK346.out)
   have n12_ := Aside0.mk (blk_drew BK354.out)
   have n13_ := Aside0.mk (below_drew1 HB.out)
   clear HO_329000
   clear HO_329001
   clear HO_336000
   clear HO_336001
   clear HO_347007
   clear HO_355000
   clear HO_355001
   clear BK301
   clear BK302
   clear BK328
   clear BK335
   clear BK346
   clear BK354
   clear HB
   have HO_329000 := n0_
   have HO_329001 := n1_
   have HO_336000 := n2_
   have HO_336001 := n3_
   have HO_347007 := n4_
   have HO_355000 := n5_
   have HO_355001 := n6_
   have BK301 := n7_
   have BK302 := n8_
   have BK328 := n9_
   have BK335 := n10_
   have BK346 := n11_
   have BK354 := n12_
   have HB := n13_
   clear n0_ n1_ n2_ n3_ n4_ n5_ n6_ n7_ n8_ n9_ n10_ n11_ n12_ n13_
   refine start_ (n := 5) (S := fun w' => w'.cell? ⟨gb335, 0, none⟩ = some (.slice Ao50 t329.length co50) ∧ w'.cell? ⟨gb335, 1, none⟩ = some (.slice Ao55 t332.length co55) ∧ w'.cell? ⟨gb301, 0, none⟩ = some (.slice A0_0 l0_0.length c0_0) ∧ w'.cell? ⟨gb301, 1, none⟩ = some (.slice A0_1 l0_1.length c0_1)) (ds := []) #[F, F, F, F, F] (by kernel_rfl) rfl rfl ⟨(blk_cell BK335.out 0).trans rfl, (blk_cell BK335.out 1).trans rfl, (blk_cell BK301.out 0).trans rfl, (blk_cell BK301.out 1).trans rfl⟩ (fun hHeld => ?_)
   generalize wc.drew = w113 at HO_329000 HO_329001 HO_336000 HO_336001 HO_347007 HO_355000 HO_355001 BK301 BK302 BK328 BK335 BK346 BK354 HB hHeld ⊢
   refine take_ (i := 0) (N := some 54) (v := ?_) (a' := ?_) #[T, F, F, F, F] rfl rfl (by kernel_rfl) (fun _ _ _ h => h) (Or.inl ⟨by rfl, ?_⟩) hHeld ?_ ?_
   rotate_left
   ·rintro w' ⟨s0, s1, s2, s3⟩
    go_simp
    with_reducible rfl
   rotate_left
   ·simp only [pS]
    rfl
   refine take_ (i := 1) (N := some 55) (v := ?_) (a' := ?_) #[T, T, F, F, F] rfl rfl (by kernel_rfl) (fun _ _ _ h => h) (Or.inl ⟨by rfl, ?_⟩) hHeld ?_ ?_
   rotate_left
   ·rintro w' ⟨s0, s1, s2, s3⟩
    go_simp
    with_reducible rfl
   rotate_left
   ·simp only [pS]
    rfl
   refine one_ (i := 2) (N := some 56) #[T, T, T, F, F] rfl rfl (by kernel_rfl) (by decide) (fun K hK => ?_)
   refine goes_ Try.func17 (by kernel_rfl) rfl #[.agg #[.slice A0_0 l0_0.length c0_0, .slice A0_1 l0_1.length c0_1]] (by rfl) rfl rfl (by (try simp only [List.map_toArray, List.map_cons, List.map_nil]); first | done | rfl) ?_
   with_reducible refine (laws_toCredits.calls kj24 _ _ l0_0 _ _ l0_1 t356 t359 _ ?side1 ?side2 ?side3 ?side4 A104.out).mono ?_
   (case side1 => exact cY ((Kd.C_below HR0_0.out HB.out)))
   (case side2 => exact HC0_0.out)
   (case side3 => exact cY ((Kd.C_below HR0_1.out HB.out)))
   (case side4 => exact HC0_1.out)
   rintro e w114 ⟨v357, v360, rfl, ho0, ho1, hb⟩
   refine ⟨_, rfl, ?_⟩
   have n0_ := Aside0.mk (Kd.R_mono (Kd.R_told (Kd.R_told (Kd.R_old (rY HO_329000.out) hb) (Kd.R_base ho0)) (Kd.R_base ho1)) (fun _ h_ => h_.1))
   have n1_ := Aside0.mk (Kd.R_mono (Kd.R_told (Kd.R_told (Kd.R_old (rY HO_329001.out) hb) (Kd.R_base ho0)) (Kd.R_base ho1)) (fun _ h_ => h_.1))
   have n2_ := Aside0.mk (Kd.R_mono (Kd.R_told (Kd.R_told (Kd.R_old (rY HO_336000.out) hb) (Kd.R_base ho0)) (Kd.R_base ho1)) (fun _ h_ => h_.1))
   have n3_ := Aside0.mk (Kd.R_mono (Kd.R_told (Kd.R_told (Kd.R_old (rY HO_336001.out) hb) (Kd.R_base ho0)) (Kd.R_base ho1)) (fun _ h_ => h_.1))
   have n4_ := Aside0.mk (Kd.R_mono (Kd.R_told (Kd.R_told (Kd.R_old (rY HO_347007.out) hb) (Kd.R_base ho0)) (Kd.R_base ho1)) (fun _ h_ => h_.1))
   have n5_ := Aside0.mk (Kd.R_mono (Kd.R_told (Kd.R_told (Kd.R_old (rY HO_355000.out) hb) (Kd.R_base ho0)) (Kd.R_base ho1)) (fun _ h_ => h_.1))
   have n6_ := Aside0.mk (Kd.R_mono (Kd.R_told (Kd.R_told (Kd.R_old (rY HO_355001.out) hb) (Kd.R_base ho0)) (Kd.R_base ho1)) (fun _ h_ => h_.1))
   have n7_ := Aside0.mk (Kd.R_lower (Kd.R_new' (Kd.R_new' (Kd.R_new' (Kd.R_new' (Kd.R_new' (Kd.R_new' (Kd.R_new' ho0 (Kd.R_lt (rY HO_329000.out))) (Kd.R_lt (rY HO_329001.out))) (Kd.R_lt (rY HO_336000.out))) (Kd.R_lt (rY HO_336001.out))) (Kd.R_lt (rY HO_347007.out))) (Kd.R_lt (rY HO_355000.out))) (Kd.R_lt (rY HO_355001.out))) (below_size (by repeat (first | (with_reducible first | exact HB.out | apply below_alloc | apply pw_below_drewN | apply below_drew1 | refine below_set ?_ GE301.out | refine below_set ?_ GE302.out | refine below_set ?_ GE328.out | refine below_set ?_ GE335.out | refine below_set ?_ GE346.out | refine below_set ?_ GE354.out) | exact HB.out))))
   have n8_ := Aside0.mk (Kd.R_lower (Kd.R_new' (Kd.R_new' (Kd.R_new' (Kd.R_new' (Kd.R_new' (Kd.R_new' (Kd.R_new' ho1 (Kd.R_lt (rY HO_329000.out))) (Kd.R_lt (rY HO_329001.out))) (Kd.R_lt (rY HO_336000.out))) (Kd.R_lt (rY HO_336001.out))) (Kd.R_lt (rY HO_347007.out))) (Kd.R_lt (rY HO_355000.out))) (Kd.R_lt (rY HO_355001.out))) (below_size (by repeat (first | (with_reducible first | exact HB.out | apply below_alloc | apply pw_below_drewN | apply below_drew1 | refine below_set ?_ GE301.out | refine below_set ?_ GE302.out | refine below_set ?_ GE328.out | refine below_set ?_ GE335.out | refine below_set ?_ GE346.out | refine below_set ?_ GE354.out) | exact HB.out))))
   have n9_ := Aside0.mk (blk_below (bY BK301.out) hb)
   have n10_ := Aside0.mk (blk_below (bY BK302.out) hb)
   have n11_ := Aside0.mk (blk_below (bY BK328.out) hb)
   have n12_ := Aside0.mk (blk_below (bY BK335.out) hb)
   have n13_ := Aside0.mk (blk_below (bY BK346.out) hb)
   have n14_ := Aside0.mk (blk_below (bY BK354.out) hb)
   have n15_ := Aside0.mk (below_step (by repeat (first | (with_reducible first | exact HB.out | apply below_alloc | apply pw_below_drewN | apply below_drew1 | refine below_set ?_ GE301.out | refine below_set ?_ GE302.out | refine below_set ?_ GE328.out | refine below_set ?_ GE335.out | refine below_set ?_ GE346.out | refine below_set ?_ GE354.out) | exact HB.out)) hb)
   clear HO_329000
   clear HO_329001
   clear HO_336000
   clear HO_336001
   clear HO_347007
   clear HO_355000
   clear HO_355001
   clear BK301
   clear BK302
   clear BK328
   clear BK335
   clear BK346
   clear BK354
   clear HB
   have HO_329000 := n0_
   have HO_329001 := n1_
   have HO_336000 := n2_
   have HO_336001 := n3_
   have HO_347007 := n4_
   have HO_355000 := n5_
   have HO_355001 := n6_
   have HO358 := n7_
   have HO361 := n8_
   have BK301 := n9_
   have BK302 := n10_
   have BK328 := n11_
   have BK335 := n12_
   have BK346 := n13_
   have BK354 := n14_
   have HB := n15_
   clear n0_ n1_ n2_ n3_ n4_ n5_ n6_ n7_ n8_ n9_ n10_ n11_ n12_ n13_ n14_ n15_
   obtain ⟨Ao115, co115, eo115⟩ := Kd.R_slice HO358.out
   (first | subst eo115 | (injection eo115 with f1_ f2_ f3_; have f4_ := f1_.symm; have f5_ := f3_.symm; clear f1_ f2_ f3_; subst f4_; subst f5_))
   obtain ⟨Ao116, co116, eo116⟩ := Kd.R_slice HO361.out
   (first | subst eo116 | (injection eo116 with f1_ f2_ f3_; have f4_ := f1_.symm; have f5_ := f3_.symm; clear f1_ f2_ f3_; subst f4_; subst f5_))
   refine hK.out _ _ ⟨(blk_cell BK335.out 0).trans rfl, (blk_cell BK335.out 1).trans rfl, (blk_cell BK301.out 0).trans rfl, (blk_cell BK301.out 1).trans rfl⟩ (fun hHeld => ?_)
   clear hK K
   refine norm_ (a' := ?_) ?_ ?_
   rotate_left
   ·show Act.put _ (some 56) _ = _
    simp only [pS]
    rfl
   refine one_ (i := 3) (N := some 57) #[T, T, T, T, F] rfl rfl (by kernel_rfl) (by decide) (fun K hK => ?_)
   refine goes_ Try.func19 (by kernel_rfl) rfl #[.agg #[.slice Ao50 t329.length co50, .slice Ao55 t332.length co55], .agg #[.slice Ao115 t356.length co115, .slice Ao116 t359.length co116]] (by rfl) rfl rfl (by (try simp only [List.map_toArray, List.map_cons, List.map_nil]); first | done | rfl) ?_
   with_reducible refine (laws_eqCredits.calls kj24 _ _ t329 _ _ t332 _ _ t356 _ _ t359 true _ ?side1 ?side2 ?side3 ?side4 ?side5 ?side6 ?side7 ?side8 A105.out).mono ?_
   (case side1 => exact cY ((Kd.R_reads' HO_336000.out).2.2))
   (case side2 => exact (Kd.R_reads' HO_336000.out).2.1)
   (case side3 => exact cY ((Kd.R_reads' HO_336001.out).2.2))
   (case side4 => exact (Kd.R_reads' HO_336001.out).2.1)
   (case side5 => exact cY ((Kd.R_reads' HO358.out).2.2))
   (case side6 => exact (Kd.R_reads' HO358.out).2.1)
   (case side7 => exact cY ((Kd.R_reads' HO361.out).2.2))
   (case side8 => exact (Kd.R_reads' HO361.out).2.1)
   rintro e w117 ⟨rfl, hb⟩
   refine ⟨_, rfl, ?_⟩
   have n0_ := Aside0.mk (Kd.R_below (rY HO_329000.out) hb)
   have n1_ := Aside0.mk (Kd.R_below (rY HO_329001.out) hb)
   have n2_ := Aside0.mk (Kd.R_below (rY HO_336000.out) hb)
   have n3_ := Aside0.mk (Kd.R_below (rY HO_336001.out) hb)
   have n4_ := Aside0.mk (Kd.R_below (rY HO_347007.out) hb)
   have n5_ := Aside0.mk (Kd.R_below (rY HO_355000.out) hb)
   have n6_ := Aside0.mk (Kd.R_below (rY HO_355001.out) hb)
   have n7_ := Aside0.mk (Kd.R_below (rY HO358.out) hb)
   have n8_ := Aside0.mk (Kd.R_below (rY HO361.out) hb)
   have n9_ := Aside0.mk (blk_below (bY BK301.out) hb)
   have n10_ := Aside0.mk (blk_below (bY BK302.out) hb)
   have n11_ := Aside0.mk (blk_below (bY BK328.out) hb)
   have n12_ := Aside0.mk (blk_below (bY BK335.out) hb)
   have n13_ := Aside0.mk (blk_below (bY BK346.out) hb)
   have n14_ := Aside0.mk (blk_below (bY BK354.out) hb)
   have n15_ := Aside0.mk (below_step (by repeat (first | (with_reducible first | exact HB.out | apply below_alloc | apply pw_below_drewN | apply below_drew1 | refine below_set ?_ GE301.out | refine below_set ?_ GE302.out | refine below_set ?_ GE328.out | refine below_set ?_ GE335.out | refine below_set ?_ GE346.out | refine below_set ?_ GE354.out) | exact HB.out)) hb)
   clear HO_329000
   clear HO_329001
   clear HO_336000
   clear HO_336001
   clear HO_347007
   clear HO_355000
   clear HO_355001
   clear HO358
   clear HO361
   clear BK301
   clear BK302
   clear BK328
   clear BK335
   clear BK346
   clear BK354
   clear HB
   have HO_329000 := n0_
   have HO_329001 := n1_
   have HO_336000 := n2_
   have HO_336001 := n3_
   have HO_347007 := n4_
   have HO_355000 := n5_
   have HO_355001 := n6_
   have HO358 := n7_
   have HO361 := n8_
   have BK301 := n9_
   have BK302 := n10_
   have BK328 := n11_
   have BK335 := n12_
   have BK346 := n13_
   have BK354 := n14_
   have HB := n15_
   clear n0_ n1_ n2_ n3_ n4_ n5_ n6_ n7_ n8_ n9_ n10_ n11_ n12_ n13_ n14_ n15_
   refine hK.out _ _ ⟨(blk_cell BK335.out 0).trans rfl, (blk_cell BK335.out 1).trans rfl, (blk_cell BK301.out 0).trans rfl, (blk_cell BK301.out 1).trans rfl⟩ (fun hHeld => ?_)
   clear hK K
   refine norm_ (a' := ?_) ?_ ?_
   rotate_left
   ·show Act.put _ (some 57) _ = _
    simp only [pS]
    rfl
   refine pure_ (i := 4) (N := some 58) (v := ?_) (a' := ?_) #[T, T, T, T, T] rfl rfl (by kernel_rfl) (fun _ _ _ h => h) (Or.inl ⟨by rfl, ?_⟩) ?_ ?_
   rotate_left
   ·intro w'
    go_simp
    with_reducible rfl
   rotate_left
   ·simp only [pS]
    rfl
   refine done_ (by kernel_rfl) ?_
   try go_wp2
   have n0_ := Aside0.mk (Kd.R_drew HO_329000.out)
   have n1_ := Aside0.mk (Kd.R_drew HO_329001.out)
   have n2_ := Aside0.mk (Kd.R_drew HO_336000.out)
   have n3_ := Aside0.mk (Kd.R_drew HO_336001.out)
   have n4_ := Aside0.mk (Kd.R_drew HO_347007.out)
   have n5_ := Aside0.mk (Kd.R_drew HO_355000.out)
   have n6_ := Aside0.mk (Kd.R_drew HO_355001.out)
   have n7_ := Aside0.mk (Kd.R_drew HO358.out)
   have n8_ := Aside0.mk (Kd.R_drew HO361.out)
   have n9_ := Aside0.mk (blk_drew BK301.out)
   have n10_ := Aside0.mk (blk_drew BK302.out)
   have n11_ := Aside0.mk (blk_drew BK328.out)
   have n12_ := Aside0.mk (blk_drew BK335.out)
   have n13_ := Aside0.mk (blk_drew BK346.out)
   have n14_ := Aside0.mk (blk_drew BK354.out)
   have n15_ := Aside0.mk (below_drew1 HB.out)
   clear HO_329000
   clear HO_329001
   clear HO_336000
   clear HO_336001
   clear HO_347007
   clear HO_355000
   clear HO_355001
   clear HO358
   clear HO361
   clear BK301
   clear BK302
   clear BK328
   clear BK335
   clear BK346
   clear BK354
   clear HB
   have HO_329000 := n0_
   have HO_329001 := n1_
   have HO_336000 := n2_
   have HO_336001 := n3_
   have HO_347007 := n4_
   have HO_355000 := n5_
   have HO_355001 := n6_
   have HO358 := n7_
   have HO361 := n8_
   have BK301 := n9_
   have BK302 := n10_
   have BK328 := n11_
   have BK335 := n12_
   have BK346 := n13_
   have BK354 := n14_
   have HB := n15_
   clear n0_ n1_ n2_ n3_ n4_ n5_ n6_ n7_ n8_ n9_ n10_ n11_ n12_ n13_ n14_ n15_
   refine start_ (n := 5) (S := fun w' => w'.cell? ⟨gb346, 0, none⟩ = some (.int .i64 t336) ∧ w'.cell? ⟨gb346, 1, none⟩ = some (.int .i64 t337) ∧ w'.cell? ⟨gb346, 2, none⟩ = some (.int .i64 t338) ∧ w'.cell? ⟨gb346, 3, none⟩ = some (.int .i64 t339) ∧ w'.cell? ⟨gb346, 4, none⟩ = some (.int .i64 t340) ∧ w'.cell? ⟨gb346, 5, none⟩ = some (.int .i64 t341) ∧ w'.cell? ⟨gb346, 6, none⟩ = some (.int .i64 t342) ∧ w'.cell? ⟨gb346, 7, none⟩ = some (.slice Ao65 t343.length co65) ∧ w'.cell? ⟨gb302, 0, none⟩ = some (.int .i64 a1_0) ∧ w'.cell? ⟨gb302, 1, none⟩ = some (.int .i64 a1_1) ∧ w'.cell? ⟨gb302, 2, none⟩ = some (.int .i64 a1_2) ∧ w'.cell? ⟨gb302, 3, none⟩ = some (.int .i64 a1_3) ∧ w'.cell? ⟨gb302, 4, none⟩ = some (.int .i64 a1_4) ∧ w'.cell? ⟨gb302, 5, none⟩ = some (.int .i64 a1_5) ∧ w'.cell? ⟨gb302, 6, none⟩ = some (.int .i64 a1_6) ∧ w'.cell? ⟨gb302, 7, none⟩ = some (.slice A1_7 l1_7.length c1_7)) (ds := []) #[F, F, F, F, F] (by kernel_rfl) rfl rfl ⟨(blk_cell BK346.out 0).trans rfl, (blk_cell BK346.out 1).trans rfl, (blk_cell BK346.out 2).trans rfl, (blk_cell BK346.out 3).trans rfl, (blk_cell BK346.out 4).trans rfl, (blk_cell BK346.out 5).trans rfl, (blk_cell BK346.out 6).trans rfl, (blk_cell BK346.out 7).trans rfl, (blk_cell BK302.out 0).trans rfl, (blk_cell BK302.out 1).trans rfl, (blk_cell BK302.out 2).trans rfl, (blk_cell BK302.out 3).trans rfl, (blk_cell BK302.out 4).trans rfl, (blk_cell BK302.out 5).trans rfl, (blk_cell BK302.out 6).trans rfl, (blk_cell BK302.out 7).trans rfl⟩ (fun hHeld => ?_)
   generalize w117.drew = w118 at HO_329000 HO_329001 HO_336000 HO_336001 HO_347007 HO_355000 HO_355001 HO358 HO361 BK301 BK302 BK328 BK335 BK346 BK354 HB hHeld ⊢
   refine take_ (i := 0) (N := some 59) (v := ?_) (a' := ?_) #[T, F, F, F, F] rfl rfl (by kernel_rfl) (fun _ _ _ h => h) (Or.inl ⟨by rfl, ?_⟩) hHeld ?_ ?_
   rotate_left
   ·rintro w' ⟨s0, s1, s2, s3, s4, s5, s6, s7, s8, s9, s10, s11, s12, s13, s14, s15⟩
    go_simp
    with_reducible rfl
   rotate_left
   ·simp only [pS]
    rfl
   refine take_ (i := 1) (N := some 60) (v := ?_) (a' := ?_) #[T, T, F, F, F] rfl rfl (by kernel_rfl) (fun _ _ _ h => h) (Or.inl ⟨by rfl, ?_⟩) hHeld ?_ ?_
   rotate_left
   ·rintro w' ⟨s0, s1, s2, s3, s4, s5, s6, s7, s8, s9, s10, s11, s12, s13, s14, s15⟩
    go_simp
    with_reducible rfl
   rotate_left
   ·simp only [pS]
    rfl
   refine one_ (i := 2) (N := some 61) #[T, T, T, F, F] rfl rfl (by kernel_rfl) (by decide) (fun K hK => ?_)
   refine goes_ Try.func22 (by kernel_rfl) rfl #[.agg #[.int .i64 a1_0, .int .i64 a1_1, .int .i64 a1_2, .int .i64 a1_3, .int .i64 a1_4, .int .i64 a1_5, .int .i64 a1_6, .slice A1_7 l1_7.length c1_7]] (by rfl) rfl rfl (by (try simp only [List.map_toArray, List.map_cons, List.map_nil]); first | done | rfl) ?_
   with_reducible refine (laws_toPacket.calls kj24 a1_0 a1_1 a1_2 a1_3 a1_4 a1_5 a1_6 _ _ l1_7 t363 t364 t365 t366 t367 t368 t369 t370 _ ?side1 ?side2 A107.out).mono ?_
   (case side1 => exact cY ((Kd.C_below HR1_7.out HB.out)))
   (case side2 => exact HC1_7.out)
   rintro e w119 ⟨v371, rfl, ho0, hb⟩
   refine ⟨_, rfl, ?_⟩
   have n0_ := Aside0.mk (Kd.R_elder' (rY HO_329000.out) (Kd.R_base ho0) hb)
   have n1_ := Aside0.mk (Kd.R_elder' (rY HO_329001.out) (Kd.R_base ho0) hb)
   have n2_ := Aside0.mk (Kd.R_elder' (rY HO_336000.out) (Kd.R_base ho0) hb)
   have n3_ := Aside0.mk (Kd.R_elder' (rY HO_336001.out) (Kd.R_base ho0) hb)
   have n4_ := Aside0.mk (Kd.R_elder' (rY HO_347007.out) (Kd.R_base ho0) hb)
   have n5_ := Aside0.mk (Kd.R_elder' (rY HO_355000.out) (Kd.R_base ho0) hb)
   have n6_ := Aside0.mk (Kd.R_elder' (rY HO_355001.out) (Kd.R_base ho0) hb)
   have n7_ := Aside0.mk (Kd.R_elder' (rY HO358.out) (Kd.R_base ho0) hb)
   have n8_ := Aside0.mk (Kd.R_elder' (rY HO361.out) (Kd.R_base ho0) hb)
   have n9_ := Aside0.mk (Kd.R_lower (Kd.R_new' (Kd.R_new' (Kd.R_new' (Kd.R_new' (Kd.R_new' (Kd.R_new' (Kd.R_new' (Kd.R_new' (Kd.R_new' ho0 (Kd.R_lt (rY HO_329000.out))) (Kd.R_lt (rY HO_329001.out))) (Kd.R_lt (rY HO_336000.out))) (Kd.R_lt (rY HO_336001.out))) (Kd.R_lt (rY HO_347007.out))) (Kd.R_lt (rY HO_355000.out))) (Kd.R_lt (rY HO_355001.out))) (Kd.R_lt (rY HO358.out))) (Kd.R_lt (rY HO361.out))) (below_size (by repeat (first | (with_reducible first | exact HB.out | apply below_alloc | apply pw_below_drewN | apply below_drew1 | refine below_set ?_ GE301.out | refine below_set ?_ GE302.out | refine below_set ?_ GE328.out | refine below_set ?_ GE335.out | refine below_set ?_ GE346.out | refine below_set ?_ GE354.out) | exact HB.out))))
   have n10_ := Aside0.mk (blk_below (bY BK301.out) hb)
   have n11_ := Aside0.mk (blk_below (bY BK302.out) hb)
   have n12_ := Aside0.mk (blk_below (bY BK328.out) hb)
   have n13_ := Aside0.mk (blk_below (bY BK335.out) hb)
   have n14_ := Aside0.mk (blk_below (bY BK346.out) hb)
   have n15_ := Aside0.mk (blk_below (bY BK354.out) hb)
   have n16_ := Aside0.mk (below_step (by repeat (first | (with_reducible first | exact HB.out | apply below_alloc | apply pw_below_drewN | apply below_drew1 | refine below_set ?_ GE301.out | refine below_set ?_ GE302.out | refine below_set ?_ GE328.out | refine below_set ?_ GE335.out | refine below_set ?_ GE346.out | refine below_set ?_ GE354.out) | exact HB.out)) hb)
   clear HO_329000
   clear HO_329001
   clear HO_336000
   clear HO_336001
   clear HO_347007
   clear HO_355000
   clear HO_355001
   clear HO358
   clear HO361
   clear BK301
   clear BK302
   clear BK328
   clear BK335
   clear BK346
   clear BK354
   clear HB
   have HO_329000 := n0_
   have HO_329001 := n1_
   have HO_336000 := n2_
   have HO_336001 := n3_
   have HO_347007 := n4_
   have HO_355000 := n5_
   have HO_355001 := n6_
   have HO358 := n7_
   have HO361 := n8_
   have HO372 := n9_
   have BK301 := n10_
   have BK302 := n11_
   have BK328 := n12_
   have BK335 := n13_
   have BK346 := n14_
   have BK354 := n15_
   have HB := n16_
   clear n0_ n1_ n2_ n3_ n4_ n5_ n6_ n7_ n8_ n9_ n10_ n11_ n12_ n13_ n14_ n15_ n16_
   obtain ⟨Ao120, co120, eo120⟩ := Kd.R_slice HO372.out
   (first | subst eo120 | (injection eo120 with f1_ f2_ f3_; have f4_ := f1_.symm; have f5_ := f3_.symm; clear f1_ f2_ f3_; subst f4_; subst f5_))
   refine hK.out _ _ ⟨(blk_cell BK346.out 0).trans rfl, (blk_cell BK346.out 1).trans rfl, (blk_cell BK346.out 2).trans rfl, (blk_cell BK346.out 3).trans rfl, (blk_cell BK346.out 4).trans rfl, (blk_cell BK346.out 5).trans rfl, (blk_cell BK346.out 6).trans rfl, (blk_cell BK346.out 7).trans rfl, (blk_cell BK302.out 0).trans rfl, (blk_cell BK302.out 1).trans rfl, (blk_cell BK302.out 2).trans rfl, (blk_cell BK302.out 3).trans rfl, (blk_cell BK302.out 4).trans rfl, (blk_cell BK302.out 5).trans rfl, (blk_cell BK302.out 6).trans rfl, (blk_cell BK302.out 7).trans rfl⟩ (fun hHeld => ?_)
   clear hK K
   refine norm_ (a' := ?_) ?_ ?_
   rotate_left
   ·show Act.put _ (some 61) _ = _
    simp only [pS]
    rfl
   refine one_ (i := 3) (N := some 62) #[T, T, T, T, F] rfl rfl (by kernel_rfl) (by decide) (fun K hK => ?_)
   refine goes_ Try.func24 (by kernel_rfl) rfl #[.agg #[.int .i64 t336, .int .i64 t337, .int .i64 t338, .int .i64 t339, .int .i64 t340, .int .i64 t341, .int .i64 t342, .slice Ao65 t343.length co65], .agg #[.int .i64 t363, .int .i64 t364, .int .i64 t365, .int .i64 t366, .int .i64 t367, .int .i64 t368, .int .i64 t369, .slice Ao120 t370.length co120]] (by rfl) rfl rfl (by (try simp only [List.map_toArray, List.map_cons, List.map_nil]); first | done | rfl) ?_
   with_reducible refine (laws_eqPacket.calls kj24 t336 t337 t338 t339 t340 t341 t342 _ _ t343 t363 t364 t365 t366 t367 t368 t369 _ _ t370 true _ ?side1 ?side2 ?side3 ?side4 A108.out).mono ?_
   (case side1 => exact cY ((Kd.R_reads' HO_347007.out).2.2))
   (case side2 => exact (Kd.R_reads' HO_347007.out).2.1)
   (case side3 => exact cY ((Kd.R_reads' HO372.out).2.2))
   (case side4 => exact (Kd.R_reads' HO372.out).2.1)
   rintro e w121 ⟨rfl, hb⟩
   refine ⟨_, rfl, ?_⟩
   have n0_ := Aside0.mk (Kd.R_below (rY HO_329000.out) hb)
   have n1_ := Aside0.mk (Kd.R_below (rY HO_329001.out) hb)
   have n2_ := Aside0.mk (Kd.R_below (rY HO_336000.out) hb)
   have n3_ := Aside0.mk (Kd.R_below (rY HO_336001.out) hb)
   have n4_ := Aside0.mk (Kd.R_below (rY HO_347007.out) hb)
   have n5_ := Aside0.mk (Kd.R_below (rY HO_355000.out) hb)
   have n6_ := Aside0.mk (Kd.R_below (rY HO_355001.out) hb)
   have n7_ := Aside0.mk (Kd.R_below (rY HO358.out) hb)
   have n8_ := Aside0.mk (Kd.R_below (rY HO361.out) hb)
   have n9_ := Aside0.mk (Kd.R_below (rY HO372.out) hb)
   have n10_ := Aside0.mk (blk_below (bY BK301.out) hb)
   have n11_ := Aside0.mk (blk_below (bY BK302.out) hb)
   have n12_ := Aside0.mk (blk_below (bY BK328.out) hb)
   have n13_ := Aside0.mk (blk_below (bY BK335.out) hb)
   have n14_ := Aside0.mk (blk_below (bY BK346.out) hb)
   have n15_ := Aside0.mk (blk_below (bY BK354.out) hb)
   have n16_ := Aside0.mk (below_step (by repeat (first | (with_reducible first | exact HB.out | apply below_alloc | apply pw_below_drewN | apply below_drew1 | refine below_set ?_ GE301.out | refine below_set ?_ GE302.out | refine below_set ?_ GE328.out | refine below_set ?_ GE335.out | refine below_set ?_ GE346.out | refine below_set ?_ GE354.out) | exact HB.out)) hb)
   clear HO_329000
   clear HO_329001
   clear HO_336000
   clear HO_336001
   clear HO_347007
   clear HO_355000
   clear HO_355001
   clear HO358
   clear HO361
   clear HO372
   clear BK301
   clear BK302
   clear BK328
   clear BK335
   clear BK346
   clear BK354
   clear HB
   have HO_329000 := n0_
   have HO_329001 := n1_
   have HO_336000 := n2_
   have HO_336001 := n3_
   have HO_347007 := n4_
   have HO_355000 := n5_
   have HO_355001 := n6_
   have HO358 := n7_
   have HO361 := n8_
   have HO372 := n9_
   have BK301 := n10_
   have BK302 := n11_
   have BK328 := n12_
   have BK335 := n13_
   have BK346 := n14_
   have BK354 := n15_
   have HB := n16_
   clear n0_ n1_ n2_ n3_ n4_ n5_ n6_ n7_ n8_ n9_ n10_ n11_ n12_ n13_ n14_ n15_ n16_
   refine hK.out _ _ ⟨(blk_cell BK346.out 0).trans rfl, (blk_cell BK346.out 1).trans rfl, (blk_cell BK346.out 2).trans rfl, (blk_cell BK346.out 3).trans rfl, (blk_cell BK346.out 4).trans rfl, (blk_cell BK346.out 5).trans rfl, (blk_cell BK346.out 6).trans rfl, (blk_cell BK346.out 7).trans rfl, (blk_cell BK302.out 0).trans rfl, (blk_cell BK302.out 1).trans rfl, (blk_cell BK302.out 2).trans rfl, (blk_cell BK302.out 3).trans rfl, (blk_cell BK302.out 4).trans rfl, (blk_cell BK302.out 5).trans rfl, (blk_cell BK302.out 6).trans rfl, (blk_cell BK302.out 7).trans rfl⟩ (fun hHeld => ?_)
   clear hK K
   refine norm_ (a' := ?_) ?_ ?_
   rotate_left
   ·show Act.put _ (some 62) _ = _
    simp only [pS]
    rfl
   refine pure_ (i := 4) (N := some 63) (v := ?_) (a' := ?_) #[T, T, T, T, T] rfl rfl (by kernel_rfl) (fun _ _ _ h => h) (Or.inl ⟨by rfl, ?_⟩) ?_ ?_
   rotate_left
   ·intro w'
    go_simp
    with_reducible rfl
   rotate_left
   ·simp only [pS]
    rfl
   refine done_ (by kernel_rfl) ?_
   have hnb122 := NB335_301.out
   have hnc122 := NB301_335.out
   have hnb123 := NB335_302.out
   have hnc123 := NB302_335.out
   have hnb124 := NB335_328.out
   have hnc124 := NB328_335.out
   have hnb125 := NB335_346.out
   have hnc125 := NB346_335.out
   have hnb126 := NB335_354.out
   have hnc126 := NB354_335.out
   obtain ⟨hcz127_0, hcz127_1, hfz127_0, hfz127_1⟩ := b2 BK335.out
   go_upto_region 21 with (first | ((with_reducible refine gate_callee (f := 32) rfl ?_); refine goesL_ (some 66) rfl rfl Try.func32 (by kernel_rfl) rfl #[.agg #[.slice Ao50 t329.length co50, .slice Ao55 t332.length co55], .int .i64 1] rfl (by (try simp only [List.map_toArray, List.map_cons, List.map_nil]); first | done | rfl) ?_; (with_reducible refine (laws_markCredits.calls kj24 (fun k_ => some k_ = (.slice Ao50 t329.length co50 : Value).ownBlock) (.slice Ao50 t329.length co50) t329 (fun k_ => some k_ = (.slice Ao55 t332.length co55 : Value).ownBlock) (.slice Ao55 t332.length co55) t332 1 t374 t375 t376 w _ ?side1 ?side2 ?side3 ?side4 ?side5 A110.out).mono ?_); (case side1 => repeat (first | (with_reducible first | exact HB.out | apply below_alloc | apply pw_below_drewN | apply below_drew1 | refine below_set ?_ GE301.out | refine below_set ?_ GE302.out | refine below_set ?_ GE328.out | refine below_set ?_ GE335.out | refine below_set ?_ GE346.out | refine below_set ?_ GE354.out) | exact HB.out)); (case side2 => exact Kd.R_tight rfl HO_336000.out); (case side3 => exact fun k_ e_ => (HO_336000.out.1 k_ e_.symm).1.1.1.2.2.1); (case side4 => exact Kd.R_tight rfl HO_336001.out); (case side5 => exact fun k_ e_ => (HO_336001.out.1 k_ e_.symm).1.1.1.2.2.1); rintro e w128 ⟨rfl, hy0, hy1, hb, hkp⟩; refine ⟨_, rfl, ?_⟩; have n0_ := Aside0.mk (Kd.R_mono (ok' := fun k_ => some k_ ≠ (.slice Ao44 t324.length co44 : Value).ownBlock ∧ some k_ ≠ (.slice Ao50 t329.length co50 : Value).ownBlock ∧ some k_ ≠ (.slice Ao55 t332.length co55 : Value).ownBlock ∧ some k_ ≠ (.slice Ao65 t343.length co65 : Value).ownBlock ∧ some k_ ≠ (.slice Ao69 t347.length co69 : Value).ownBlock ∧ some k_ ≠ (.slice Ao76 t350.length co76 : Value).ownBlock ∧ some k_ ≠ (.slice Ao115 t356.length co115 : Value).ownBlock ∧ some k_ ≠ (.slice Ao116 t359.length co116 : Value).ownBlock ∧ some k_ ≠ (.slice Ao120 t370.length co120 : Value).ownBlock) (Kd.R_keptB (HO_329000.out) hkp (fun k_ hk_ hs_ => Or.elim hs_ (fun e_ => (hk_.1.1.1.2.1) e_) (fun e_ => (hk_.1.1.1.2.2.1) e_))) (fun k_ hk_ => ⟨hk_.1.1.1.1.1, hk_.1.1.1.1.2.1, hk_.1.1.1.1.2.2.1, hk_.1.1.1.1.2.2.2.1, hk_.1.1.1.1.2.2.2.2.1, hk_.1.1.1.1.2.2.2.2.2, hk_.1.1.1.2, hk_.1.1.2, hk_.1.2⟩)); have n1_ := Aside0.mk (Kd.R_mono (ok' := fun k_ => some k_ ≠ (.slice Ao42 t321.length co42 : Value).ownBlock ∧ some k_ ≠ (.slice Ao50 t329.length co50 : Value).ownBlock ∧ some k_ ≠ (.slice Ao55 t332.length co55 : Value).ownBlock ∧ some k_ ≠ (.slice Ao65 t343.length co65 : Value).ownBlock ∧ some k_ ≠ (.slice Ao69 t347.length co69 : Value).ownBlock ∧ some k_ ≠ (.slice Ao76 t350.length co76 : Value).ownBlock ∧ some k_ ≠ (.slice Ao115 t356.length co115 : Value).ownBlock ∧ some k_ ≠ (.slice Ao116 t359.length co116 : Value).ownBlock ∧ some k_ ≠ (.slice Ao120 t370.length co120 : Value).ownBlock) (Kd.R_keptB (HO_329001.out) hkp (fun k_ hk_ hs_ => Or.elim hs_ (fun e_ => (hk_.1.1.1.2.1) e_) (fun e_ => (hk_.1.1.1.2.2.1) e_))) (fun k_ hk_ => ⟨hk_.1.1.1.1.1, hk_.1.1.1.1.2.1, hk_.1.1.1.1.2.2.1, hk_.1.1.1.1.2.2.2.1, hk_.1.1.1.1.2.2.2.2.1, hk_.1.1.1.1.2.2.2.2.2, hk_.1.1.1.2, hk_.1.1.2, hk_.1.2⟩)); have n2_ := Aside0.mk (Kd.R_reok rfl hy0 (fun k_ e_ => HO_336000.out.1 k_ e_)); have n3_ := Aside0.mk (Kd.R_reok rfl hy1 (fun k_ e_ => HO_336001.out.1 k_ e_)); have n4_ := Aside0.mk (Kd.R_mono (ok' := fun k_ => some k_ ≠ (.slice Ao42 t321.length co42 : Value).ownBlock ∧ some k_ ≠ (.slice Ao44 t324.length co44 : Value).ownBlock ∧ some k_ ≠ (.slice Ao50 t329.length co50 : Value).ownBlock ∧ some k_ ≠ (.slice Ao55 t332.length co55 : Value).ownBlock ∧ some k_ ≠ (.slice Ao69 t347.length co69 : Value).ownBlock ∧ some k_ ≠ (.slice Ao76 t350.length co76 : Value).ownBlock ∧ some k_ ≠ (.slice Ao115 t356.length co115 : Value).ownBlock ∧ some k_ ≠ (.slice Ao116 t359.length co116 : Value).ownBlock ∧ some k_ ≠ (.slice Ao120 t370.length co120 : Value).ownBlock) (Kd.R_keptB (HO_347007.out) hkp (fun k_ hk_ hs_ => Or.elim hs_ (fun e_ => (hk_.1.1.1.2.2.1) e_) (fun e_ => (hk_.1.1.1.2.2.2.1) e_))) (fun k_ hk_ => ⟨hk_.1.1.1.1.1, hk_.1.1.1.1.2.1, hk_.1.1.1.1.2.2.1, hk_.1.1.1.1.2.2.2.1, hk_.1.1.1.1.2.2.2.2.1, hk_.1.1.1.1.2.2.2.2.2, hk_.1.1.1.2, hk_.1.1.2, hk_.1.2⟩)); have n5_ := Aside0.mk (Kd.R_mono (ok' := fun k_ => some k_ ≠ (.slice Ao42 t321.length co42 : Value).ownBlock ∧ some k_ ≠ (.slice Ao44 t324.length co44 : Value).ownBlock ∧ some k_ ≠ (.slice Ao50 t329.length co50 : Value).ownBlock ∧ some k_ ≠ (.slice Ao55 t332.length co55 : Value).ownBlock ∧ some k_ ≠ (.slice Ao65 t343.length co65 : Value).ownBlock ∧ some k_ ≠ (.slice Ao76 t350.length co76 : Value).ownBlock ∧ some k_ ≠ (.slice Ao115 t356.length co115 : Value).ownBlock ∧ some k_ ≠ (.slice Ao116 t359.length co116 : Value).ownBlock ∧ some k_ ≠ (.slice Ao120 t370.length co120 : Value).ownBlock) (Kd.R_keptB (HO_355000.out) hkp (fun k_ hk_ hs_ => Or.elim hs_ (fun e_ => (hk_.1.1.1.2.2.1) e_) (fun e_ => (hk_.1.1.1.2.2.2.1) e_))) (fun k_ hk_ => ⟨hk_.1.1.1.1.1, hk_.1.1.1.1.2.1, hk_.1.1.1.1.2.2.1, hk_.1.1.1.1.2.2.2.1, hk_.1.1.1.1.2.2.2.2.1, hk_.1.1.1.1.2.2.2.2.2, hk_.1.1.1.2, hk_.1.1.2, hk_.1.2⟩)); have n6_ := Aside0.mk (Kd.R_mono (ok' := fun k_ => some k_ ≠ (.slice Ao42 t321.length co42 : Value).ownBlock ∧ some k_ ≠ (.slice Ao44 t324.length co44 : Value).ownBlock ∧ some k_ ≠ (.slice Ao50 t329.length co50 : Value).ownBlock ∧ some k_ ≠ (.slice Ao55 t332.length co55 : Value).ownBlock ∧ some k_ ≠ (.slice Ao65 t343.length co65 : Value).ownBlock ∧ some k_ ≠ (.slice Ao69 t347.length co69 : Value).ownBlock ∧ some k_ ≠ (.slice Ao115 t356.length co115 : Value).ownBlock ∧ some k_ ≠ (.slice Ao116 t359.length co116 : Value).ownBlock ∧ some k_ ≠ (.slice Ao120 t370.length co120 : Value).ownBlock) (Kd.R_keptB (HO_355001.out) hkp (fun k_ hk_ hs_ => Or.elim hs_ (fun e_ => (hk_.1.1.1.2.2.1) e_) (fun e_ => (hk_.1.1.1.2.2.2.1) e_))) (fun k_ hk_ => ⟨hk_.1.1.1.1.1, hk_.1.1.1.1.2.1, hk_.1.1.1.1.2.2.1, hk_.1.1.1.1.2.2.2.1, hk_.1.1.1.1.2.2.2.2.1, hk_.1.1.1.1.2.2.2.2.2, hk_.1.1.1.2, hk_.1.1.2, hk_.1.2⟩)); have n7_ := Aside0.mk (blk_kept (bY BK301.out) hkp (fun hs_ => Or.elim hs_ (fun e_ => (fun e_ => (Kd.R_ne HO_336000.out BK301.out (by decide)) e_) e_) (fun e_ => (fun e_ => (Kd.R_ne HO_336001.out BK301.out (by decide)) e_) e_))); have n8_ := Aside0.mk (blk_kept (bY BK302.out) hkp (fun hs_ => Or.elim hs_ (fun e_ => (fun e_ => (Kd.R_ne HO_336000.out BK302.out (by decide)) e_) e_) (fun e_ => (fun e_ => (Kd.R_ne HO_336001.out BK302.out (by decide)) e_) e_))); have n9_ := Aside0.mk (blk_kept (bY BK328.out) hkp (fun hs_ => Or.elim hs_ (fun e_ => (fun e_ => (Kd.R_ne HO_336000.out BK328.out (by decide)) e_) e_) (fun e_ => (fun e_ => (Kd.R_ne HO_336001.out BK328.out (by decide)) e_) e_))); have n10_ := Aside0.mk (blk_kept (bY BK335.out) hkp (fun hs_ => Or.elim hs_ (fun e_ => (fun e_ => (Kd.R_ne HO_336000.out BK335.out (by decide)) e_) e_) (fun e_ => (fun e_ => (Kd.R_ne HO_336001.out BK335.out (by decide)) e_) e_))); have n11_ := Aside0.mk (blk_kept (bY BK346.out) hkp (fun hs_ => Or.elim hs_ (fun e_ => (fun e_ => (Kd.R_ne HO_336000.out BK346.out (by decide)) e_) e_) (fun e_ => (fun e_ => (Kd.R_ne HO_336001.out BK346.out (by decide)) e_) e_))); have n12_ := Aside0.mk (blk_kept (bY BK354.out) hkp (fun hs_ => Or.elim hs_ (fun e_ => (fun e_ => (Kd.R_ne HO_336000.out BK354.out (by decide)) e_) e_) (fun e_ => (fun e_ => (Kd.R_ne HO_336001.out BK354.out (by decide)) e_) e_))); have n13_ := Aside0.mk (Kd.R_mono (ok' := fun k_ => some k_ ≠ (.slice Ao42 t321.length co42 : Value).ownBlock ∧ some k_ ≠ (.slice Ao44 t324.length co44 : Value).ownBlock ∧ some k_ ≠ (.slice Ao50 t329.length co50 : Value).ownBlock ∧ some k_ ≠ (.slice Ao55 t332.length co55 : Value).ownBlock ∧ some k_ ≠ (.slice Ao65 t343.length co65 : Value).ownBlock ∧ some k_ ≠ (.slice Ao69 t347.length co69 : Value).ownBlock ∧ some k_ ≠ (.slice Ao76 t350.length co76 : Value).ownBlock ∧ some k_ ≠ (.slice Ao116 t359.length co116 : Value).ownBlock ∧ some k_ ≠ (.slice Ao120 t370.length co120 : Value).ownBlock) (Kd.R_keptB (HO358.out) hkp (fun k_ hk_ hs_ => Or.elim hs_ (fun e_ => (hk_.1.1.1.1.1.2) e_) (fun e_ => (hk_.1.1.1.1.2) e_))) (fun k_ hk_ => ⟨hk_.1.1.1.1.1.1.1.1.2, hk_.1.1.1.1.1.1.1.2, hk_.1.1.1.1.1.1.2, hk_.1.1.1.1.1.2, hk_.1.1.1.1.2, hk_.1.1.1.2, hk_.1.1.2, hk_.1.1.1.1.1.1.1.1.1, hk_.1.2⟩)); have n14_ := Aside0.mk (Kd.R_mono (ok' := fun k_ => some k_ ≠ (.slice Ao42 t321.length co42 : Value).ownBlock ∧ some k_ ≠ (.slice Ao44 t324.length co44 : Value).ownBlock ∧ some k_ ≠ (.slice Ao50 t329.length co50 : Value).ownBlock ∧ some k_ ≠ (.slice Ao55 t332.length co55 : Value).ownBlock ∧ some k_ ≠ (.slice Ao65 t343.length co65 : Value).ownBlock ∧ some k_ ≠ (.slice Ao69 t347.length co69 : Value).ownBlock ∧ some k_ ≠ (.slice Ao76 t350.length co76 : Value).ownBlock ∧ some k_ ≠ (.slice Ao115 t356.length co115 : Value).ownBlock ∧ some k_ ≠ (.slice Ao120 t370.length co120 : Value).ownBlock) (Kd.R_keptB (HO361.out) hkp (fun k_ hk_ hs_ => Or.elim hs_ (fun e_ => (hk_.1.1.1.1.1.2) e_) (fun e_ => (hk_.1.1.1.1.2) e_))) (fun k_ hk_ => ⟨hk_.1.1.1.1.1.1.1.1.2, hk_.1.1.1.1.1.1.1.2, hk_.1.1.1.1.1.1.2, hk_.1.1.1.1.1.2, hk_.1.1.1.1.2, hk_.1.1.1.2, hk_.1.1.2, hk_.1.1.1.1.1.1.1.1.1, hk_.1.2⟩)); have n15_ := Aside0.mk (Kd.R_mono (ok' := fun k_ => some k_ ≠ (.slice Ao42 t321.length co42 : Value).ownBlock ∧ some k_ ≠ (.slice Ao44 t324.length co44 : Value).ownBlock ∧ some k_ ≠ (.slice Ao50 t329.length co50 : Value).ownBlock ∧ some k_ ≠ (.slice Ao55 t332.length co55 : Value).ownBlock ∧ some k_ ≠ (.slice Ao65 t343.length co65 : Value).ownBlock ∧ some k_ ≠ (.slice Ao69 t347.length co69 : Value).ownBlock ∧ some k_ ≠ (.slice Ao76 t350.length co76 : Value).ownBlock ∧ some k_ ≠ (.slice Ao115 t356.length co115 : Value).ownBlock ∧ some k_ ≠ (.slice Ao116 t359.length co116 : Value).ownBlock) (Kd.R_keptB (HO372.out) hkp (fun k_ hk_ hs_ => Or.elim hs_ (fun e_ => (hk_.1.1.1.1.1.1.2) e_) (fun e_ => (hk_.1.1.1.1.1.2) e_))) (fun k_ hk_ => ⟨hk_.1.1.1.1.1.1.1.1.1.2, hk_.1.1.1.1.1.1.1.1.2, hk_.1.1.1.1.1.1.1.2, hk_.1.1.1.1.1.1.2, hk_.1.1.1.1.1.2, hk_.1.1.1.1.2, hk_.1.1.1.2, hk_.1.1.2, hk_.1.2⟩)); have n16_ := Aside0.mk (hb); clear HO_329000; clear HO_329001; clear HO_336000; clear HO_336001; clear HO_347007; clear HO_355000; clear HO_355001; clear BK301; clear BK302; clear BK328; clear BK335; clear BK346; clear BK354; clear HO358; clear HO361; clear HO372; clear HB; have HO_329000 := n0_; have HO_329001 := n1_; have HO_336000 := n2_; have HO_336001 := n3_; have HO_347007 := n4_; have HO_355000 := n5_; have HO_355001 := n6_; have BK301 := n7_; have BK302 := n8_; have BK328 := n9_; have BK335 := n10_; have BK346 := n11_; have BK354 := n12_; have HO358 := n13_; have HO361 := n14_; have HO372 := n15_; have HB := n16_; clear n0_ n1_ n2_ n3_ n4_ n5_ n6_ n7_ n8_ n9_ n10_ n11_ n12_ n13_ n14_ n15_ n16_; (try clear hb); (try clear hkp); (try clear hy0); (try clear hy1); have hnb129 := NB346_301.out; have hnc129 := NB301_346.out; have hnb130 := NB346_302.out; have hnc130 := NB302_346.out; have hnb131 := NB346_328.out; have hnc131 := NB328_346.out; have hnb132 := NB346_354.out; have hnc132 := NB354_346.out; have hcz133_0 : w128.cell? ⟨gb346, 0, none⟩ = some (.int .i64 t336) := (blk_cell BK346.out 0).trans rfl; have hcz133_1 : w128.cell? ⟨gb346, 1, none⟩ = some (.int .i64 t337) := (blk_cell BK346.out 1).trans rfl; have hcz133_2 : w128.cell? ⟨gb346, 2, none⟩ = some (.int .i64 t338) := (blk_cell BK346.out 2).trans rfl; have hcz133_3 : w128.cell? ⟨gb346, 3, none⟩ = some (.int .i64 t339) := (blk_cell BK346.out 3).trans rfl; have hcz133_4 : w128.cell? ⟨gb346, 4, none⟩ = some (.int .i64 t340) := (blk_cell BK346.out 4).trans rfl; have hcz133_5 : w128.cell? ⟨gb346, 5, none⟩ = some (.int .i64 t341) := (blk_cell BK346.out 5).trans rfl; have hcz133_6 : w128.cell? ⟨gb346, 6, none⟩ = some (.int .i64 t342) := (blk_cell BK346.out 6).trans rfl; have hcz133_7 : w128.cell? ⟨gb346, 7, none⟩ = some (.slice Ao65 t343.length co65) := (blk_cell BK346.out 7).trans rfl; have hfz133_0 := blk_frozen BK346.out 0; have hfz133_1 := blk_frozen BK346.out 1; have hfz133_2 := blk_frozen BK346.out 2; have hfz133_3 := blk_frozen BK346.out 3; have hfz133_4 := blk_frozen BK346.out 4; have hfz133_5 := blk_frozen BK346.out 5; have hfz133_6 := blk_frozen BK346.out 6; have hfz133_7 := blk_frozen BK346.out 7) | ((with_reducible refine gate_callee (f := 58) rfl ?_); refine goesL_ (some 69) rfl rfl Try.func58 (by kernel_rfl) rfl #[.agg #[.int .i64 t336, .int .i64 t337, .int .i64 t338, .int .i64 t339, .int .i64 t340, .int .i64 t341, .int .i64 t342, .slice Ao65 t343.length co65], .int .i64 t374] rfl (by (try simp only [List.map_toArray, List.map_cons, List.map_nil]); first | done | rfl) ?_; (with_reducible refine (laws_markPacket.calls kj24 t336 t337 t338 t339 t340 t341 t342 (fun k_ => some k_ = (.slice Ao65 t343.length co65 : Value).ownBlock) (.slice Ao65 t343.length co65) t343 t374 t377 t378 w _ ?side1 ?side2 A111.out).mono ?_); (case side1 => repeat (first | (with_reducible first | exact HB.out | apply below_alloc | apply pw_below_drewN | apply below_drew1 | refine below_set ?_ GE301.out | refine below_set ?_ GE302.out | refine below_set ?_ GE328.out | refine below_set ?_ GE335.out | refine below_set ?_ GE346.out | refine below_set ?_ GE354.out) | exact HB.out)); (case side2 => exact Kd.R_tight rfl HO_347007.out); rintro e w134 ⟨rfl, hy0, hb, hkp⟩; refine ⟨_, rfl, ?_⟩; have n0_ := Aside0.mk (Kd.R_mono (ok' := fun k_ => some k_ ≠ (.slice Ao44 t324.length co44 : Value).ownBlock ∧ some k_ ≠ (.slice Ao50 t329.length co50 : Value).ownBlock ∧ some k_ ≠ (.slice Ao55 t332.length co55 : Value).ownBlock ∧ some k_ ≠ (.slice Ao65 t343.length co65 : Value).ownBlock ∧ some k_ ≠ (.slice Ao69 t347.length co69 : Value).ownBlock ∧ some k_ ≠ (.slice Ao76 t350.length co76 : Value).ownBlock ∧ some k_ ≠ (.slice Ao115 t356.length co115 : Value).ownBlock ∧ some k_ ≠ (.slice Ao116 t359.length co116 : Value).ownBlock ∧ some k_ ≠ (.slice Ao120 t370.length co120 : Value).ownBlock) (Kd.R_keptB (HO_329000.out) hkp (fun k_ hk_ hs_ => (hk_.2.2.2.1) hs_)) (fun k_ hk_ => ⟨hk_.1.1, hk_.1.2.1, hk_.1.2.2.1, hk_.1.2.2.2.1, hk_.1.2.2.2.2.1, hk_.1.2.2.2.2.2.1, hk_.1.2.2.2.2.2.2.1, hk_.1.2.2.2.2.2.2.2.1, hk_.1.2.2.2.2.2.2.2.2⟩)); have n1_ := Aside0.mk (Kd.R_mono (ok' := fun k_ => some k_ ≠ (.slice Ao42 t321.length co42 : Value).ownBlock ∧ some k_ ≠ (.slice Ao50 t329.length co50 : Value).ownBlock ∧ some k_ ≠ (.slice Ao55 t332.length co55 : Value).ownBlock ∧ some k_ ≠ (.slice Ao65 t343.length co65 : Value).ownBlock ∧ some k_ ≠ (.slice Ao69 t347.length co69 : Value).ownBlock ∧ some k_ ≠ (.slice Ao76 t350.length co76 : Value).ownBlock ∧ some k_ ≠ (.slice Ao115 t356.length co115 : Value).ownBlock ∧ some k_ ≠ (.slice Ao116 t359.length co116 : Value).ownBlock ∧ some k_ ≠ (.slice Ao120 t370.length co120 : Value).ownBlock) (Kd.R_keptB (HO_329001.out) hkp (fun k_ hk_ hs_ => (hk_.2.2.2.1) hs_)) (fun k_ hk_ => ⟨hk_.1.1, hk_.1.2.1, hk_.1.2.2.1, hk_.1.2.2.2.1, hk_.1.2.2.2.2.1, hk_.1.2.2.2.2.2.1, hk_.1.2.2.2.2.2.2.1, hk_.1.2.2.2.2.2.2.2.1, hk_.1.2.2.2.2.2.2.2.2⟩)); have n2_ := Aside0.mk (Kd.R_mono (ok' := fun k_ => some k_ ≠ (.slice Ao42 t321.length co42 : Value).ownBlock ∧ some k_ ≠ (.slice Ao44 t324.length co44 : Value).ownBlock ∧ some k_ ≠ (.slice Ao55 t332.length co55 : Value).ownBlock ∧ some k_ ≠ (.slice Ao65 t343.length co65 : Value).ownBlock ∧ some k_ ≠ (.slice Ao69 t347.length co69 : Value).ownBlock ∧ some k_ ≠ (.slice Ao76 t350.length co76 : Value).ownBlock ∧ some k_ ≠ (.slice Ao115 t356.length co115 : Value).ownBlock ∧ some k_ ≠ (.slice Ao116 t359.length co116 : Value).ownBlock ∧ some k_ ≠ (.slice Ao120 t370.length co120 : Value).ownBlock) (Kd.R_keptB (HO_336000.out) hkp (fun k_ hk_ hs_ => (hk_.1.1.1.2.2.2.1) hs_)) (fun k_ hk_ => ⟨hk_.1.1.1.1.1, hk_.1.1.1.1.2.1, hk_.1.1.1.1.2.2.1, hk_.1.1.1.1.2.2.2.1, hk_.1.1.1.1.2.2.2.2.1, hk_.1.1.1.1.2.2.2.2.2, hk_.1.1.1.2, hk_.1.1.2, hk_.1.2⟩)); have n3_ := Aside0.mk (Kd.R_mono (ok' := fun k_ => some k_ ≠ (.slice Ao42 t321.length co42 : Value).ownBlock ∧ some k_ ≠ (.slice Ao44 t324.length co44 : Value).ownBlock ∧ some k_ ≠ (.slice Ao50 t329.length co50 : Value).ownBlock ∧ some k_ ≠ (.slice Ao65 t343.length co65 : Value).ownBlock ∧ some k_ ≠ (.slice Ao69 t347.length co69 : Value).ownBlock ∧ some k_ ≠ (.slice Ao76 t350.length co76 : Value).ownBlock ∧ some k_ ≠ (.slice Ao115 t356.length co115 : Value).ownBlock ∧ some k_ ≠ (.slice Ao116 t359.length co116 : Value).ownBlock ∧ some k_ ≠ (.slice Ao120 t370.length co120 : Value).ownBlock) (Kd.R_keptB (HO_336001.out) hkp (fun k_ hk_ hs_ => (hk_.1.1.1.2.2.2.1) hs_)) (fun k_ hk_ => ⟨hk_.1.1.1.1.1, hk_.1.1.1.1.2.1, hk_.1.1.1.1.2.2.1, hk_.1.1.1.1.2.2.2.1, hk_.1.1.1.1.2.2.2.2.1, hk_.1.1.1.1.2.2.2.2.2, hk_.1.1.1.2, hk_.1.1.2, hk_.1.2⟩)); have n4_ := Aside0.mk (Kd.R_reok rfl hy0 (fun k_ e_ => HO_347007.out.1 k_ e_)); have n5_ := Aside0.mk (Kd.R_mono (ok' := fun k_ => some k_ ≠ (.slice Ao42 t321.length co42 : Value).ownBlock ∧ some k_ ≠ (.slice Ao44 t324.length co44 : Value).ownBlock ∧ some k_ ≠ (.slice Ao50 t329.length co50 : Value).ownBlock ∧ some k_ ≠ (.slice Ao55 t332.length co55 : Value).ownBlock ∧ some k_ ≠ (.slice Ao65 t343.length co65 : Value).ownBlock ∧ some k_ ≠ (.slice Ao76 t350.length co76 : Value).ownBlock ∧ some k_ ≠ (.slice Ao115 t356.length co115 : Value).ownBlock ∧ some k_ ≠ (.slice Ao116 t359.length co116 : Value).ownBlock ∧ some k_ ≠ (.slice Ao120 t370.length co120 : Value).ownBlock) (Kd.R_keptB (HO_355000.out) hkp (fun k_ hk_ hs_ => (hk_.2.2.2.2.1) hs_)) (fun k_ hk_ => ⟨hk_.1.1, hk_.1.2.1, hk_.1.2.2.1, hk_.1.2.2.2.1, hk_.1.2.2.2.2.1, hk_.1.2.2.2.2.2.1, hk_.1.2.2.2.2.2.2.1, hk_.1.2.2.2.2.2.2.2.1, hk_.1.2.2.2.2.2.2.2.2⟩)); have n6_ := Aside0.mk (Kd.R_mono (ok' := fun k_ => some k_ ≠ (.slice Ao42 t321.length co42 : Value).ownBlock ∧ some k_ ≠ (.slice Ao44 t324.length co44 : Value).ownBlock ∧ some k_ ≠ (.slice Ao50 t329.length co50 : Value).ownBlock ∧ some k_ ≠ (.slice Ao55 t332.length co55 : Value).ownBlock ∧ some k_ ≠ (.slice Ao65 t343.length co65 : Value).ownBlock ∧ some k_ ≠ (.slice Ao69 t347.length co69 : Value).ownBlock ∧ some k_ ≠ (.slice Ao115 t356.length co115 : Value).ownBlock ∧ some k_ ≠ (.slice Ao116 t359.length co116 : Value).ownBlock ∧ some k_ ≠ (.slice Ao120 t370.length co120 : Value).ownBlock) (Kd.R_keptB (HO_355001.out) hkp (fun k_ hk_ hs_ => (hk_.2.2.2.2.1) hs_)) (fun k_ hk_ => ⟨hk_.1.1, hk_.1.2.1, hk_.1.2.2.1, hk_.1.2.2.2.1, hk_.1.2.2.2.2.1, hk_.1.2.2.2.2.2.1, hk_.1.2.2.2.2.2.2.1, hk_.1.2.2.2.2.2.2.2.1, hk_.1.2.2.2.2.2.2.2.2⟩)); have n7_ := Aside0.mk (blk_kept (bY BK301.out) hkp (fun hs_ => (fun e_ => (Kd.R_ne HO_347007.out BK301.out (by decide)) e_) hs_)); have n8_ := Aside0.mk (blk_kept (bY BK302.out) hkp (fun hs_ => (fun e_ => (Kd.R_ne HO_347007.out BK302.out (by decide)) e_) hs_)); have n9_ := Aside0.mk (blk_kept (bY BK328.out) hkp (fun hs_ => (fun e_ => (Kd.R_ne HO_347007.out BK328.out (by decide)) e_) hs_)); have n10_ := Aside0.mk (blk_kept (bY BK335.out) hkp (fun hs_ => (fun e_ => (Kd.R_ne HO_347007.out BK335.out (by decide)) e_) hs_)); have n11_ := Aside0.mk (blk_kept (bY BK346.out) hkp (fun hs_ => (fun e_ => (Kd.R_ne HO_347007.out BK346.out (by decide)) e_) hs_)); have n12_ := Aside0.mk (blk_kept (bY BK354.out) hkp (fun hs_ => (fun e_ => (Kd.R_ne HO_347007.out BK354.out (by decide)) e_) hs_)); have n13_ := Aside0.mk (Kd.R_mono (ok' := fun k_ => some k_ ≠ (.slice Ao42 t321.length co42 : Value).ownBlock ∧ some k_ ≠ (.slice Ao44 t324.length co44 : Value).ownBlock ∧ some k_ ≠ (.slice Ao50 t329.length co50 : Value).ownBlock ∧ some k_ ≠ (.slice Ao55 t332.length co55 : Value).ownBlock ∧ some k_ ≠ (.slice Ao65 t343.length co65 : Value).ownBlock ∧ some k_ ≠ (.slice Ao69 t347.length co69 : Value).ownBlock ∧ some k_ ≠ (.slice Ao76 t350.length co76 : Value).ownBlock ∧ some k_ ≠ (.slice Ao116 t359.length co116 : Value).ownBlock ∧ some k_ ≠ (.slice Ao120 t370.length co120 : Value).ownBlock) (Kd.R_keptB (HO358.out) hkp (fun k_ hk_ hs_ => (hk_.2.2.2.2.1) hs_)) (fun k_ hk_ => ⟨hk_.1.1, hk_.1.2.1, hk_.1.2.2.1, hk_.1.2.2.2.1, hk_.1.2.2.2.2.1, hk_.1.2.2.2.2.2.1, hk_.1.2.2.2.2.2.2.1, hk_.1.2.2.2.2.2.2.2.1, hk_.1.2.2.2.2.2.2.2.2⟩)); have n14_ := Aside0.mk (Kd.R_mono (ok' := fun k_ => some k_ ≠ (.slice Ao42 t321.length co42 : Value).ownBlock ∧ some k_ ≠ (.slice Ao44 t324.length co44 : Value).ownBlock ∧ some k_ ≠ (.slice Ao50 t329.length co50 : Value).ownBlock ∧ some k_ ≠ (.slice Ao55 t332.length co55 : Value).ownBlock ∧ some k_ ≠ (.slice Ao65 t343.length co65 : Value).ownBlock ∧ some k_ ≠ (.slice Ao69 t347.length co69 : Value).ownBlock ∧ some k_ ≠ (.slice Ao76 t350.length co76 : Value).ownBlock ∧ some k_ ≠ (.slice Ao115 t356.length co115 : Value).ownBlock ∧ some k_ ≠ (.slice Ao120 t370.length co120 : Value).ownBlock) (Kd.R_keptB (HO361.out) hkp (fun k_ hk_ hs_ => (hk_.2.2.2.2.1) hs_)) (fun k_ hk_ => ⟨hk_.1.1, hk_.1.2.1, hk_.1.2.2.1, hk_.1.2.2.2.1, hk_.1.2.2.2.2.1, hk_.1.2.2.2.2.2.1, hk_.1.2.2.2.2.2.2.1, hk_.1.2.2.2.2.2.2.2.1, hk_.1.2.2.2.2.2.2.2.2⟩)); have n15_ := Aside0.mk (Kd.R_mono (ok' := fun k_ => some k_ ≠ (.slice Ao42 t321.length co42 : Value).ownBlock ∧ some k_ ≠ (.slice Ao44 t324.length co44 : Value).ownBlock ∧ some k_ ≠ (.slice Ao50 t329.length co50 : Value).ownBlock ∧ some k_ ≠ (.slice Ao55 t332.length co55 : Value).ownBlock ∧ some k_ ≠ (.slice Ao65 t343.length co65 : Value).ownBlock ∧ some k_ ≠ (.slice Ao69 t347.length co69 : Value).ownBlock ∧ some k_ ≠ (.slice Ao76 t350.length co76 : Value).ownBlock ∧ some k_ ≠ (.slice Ao115 t356.length co115 : Value).ownBlock ∧ some k_ ≠ (.slice Ao116 t359.length co116 : Value).ownBlock) (Kd.R_keptB (HO372.out) hkp (fun k_ hk_ hs_ => (hk_.2.2.2.2.1) hs_)) (fun k_ hk_ => ⟨hk_.1.1, hk_.1.2.1, hk_.1.2.2.1, hk_.1.2.2.2.1, hk_.1.2.2.2.2.1, hk_.1.2.2.2.2.2.1, hk_.1.2.2.2.2.2.2.1, hk_.1.2.2.2.2.2.2.2.1, hk_.1.2.2.2.2.2.2.2.2⟩)); have n16_ := Aside0.mk (hb); clear HO_329000; clear HO_329001; clear HO_336000; clear HO_336001; clear HO_347007; clear HO_355000; clear HO_355001; clear BK301; clear BK302; clear BK328; clear BK335; clear BK346; clear BK354; clear HO358; clear HO361; clear HO372; clear HB; have HO_329000 := n0_; have HO_329001 := n1_; have HO_336000 := n2_; have HO_336001 := n3_; have HO_347007 := n4_; have HO_355000 := n5_; have HO_355001 := n6_; have BK301 := n7_; have BK302 := n8_; have BK328 := n9_; have BK335 := n10_; have BK346 := n11_; have BK354 := n12_; have HO358 := n13_; have HO361 := n14_; have HO372 := n15_; have HB := n16_; clear n0_ n1_ n2_ n3_ n4_ n5_ n6_ n7_ n8_ n9_ n10_ n11_ n12_ n13_ n14_ n15_ n16_; (try clear hb); (try clear hkp); (try clear hy0)))
   (try simp only [Act.put, List.setIfInBounds_toArray, List.set_cons_zero, List.set_cons_succ])
   go_cut [82] (fun v82 wc => ∃ (kq : Nat) (x82_111 : Bool), v82 = .bool x82_111 ∧ Aside0 (laws_FnExactReturnCredits.j1 kq t327 x82_111 l0_0 l0_1 a1_0 a1_1 a1_2 a1_3 a1_4 a1_5 a1_6 l1_7 t321 t324 t347 t350 = some r) ∧ Aside0 (kq ≤ kj24) ∧ Aside0 (Kd.R (Kd.int .i64) 3 wc w.heap.size (fun k_ => some k_ ≠ ((.slice Ao44 t324.length co44) : Value).ownBlock ∧ some k_ ≠ ((.slice Ao50 t329.length co50) : Value).ownBlock ∧ some k_ ≠ ((.slice Ao55 t332.length co55) : Value).ownBlock ∧ some k_ ≠ ((.slice Ao65 t343.length co65) : Value).ownBlock ∧ some k_ ≠ ((.slice Ao69 t347.length co69) : Value).ownBlock ∧ some k_ ≠ ((.slice Ao76 t350.length co76) : Value).ownBlock) (.slice Ao42 t321.length co42) t321) ∧ Aside0 (Kd.R (Kd.int .i64) 3 wc w.heap.size (fun k_ => some k_ ≠ ((.slice Ao42 t321.length co42) : Value).ownBlock ∧ some k_ ≠ ((.slice Ao50 t329.length co50) : Value).ownBlock ∧ some k_ ≠ ((.slice Ao55 t332.length co55) : Value).ownBlock ∧ some k_ ≠ ((.slice Ao65 t343.length co65) : Value).ownBlock ∧ some k_ ≠ ((.slice Ao69 t347.length co69) : Value).ownBlock ∧ some k_ ≠ ((.slice Ao76 t350.length co76) : Value).ownBlock) (.slice Ao44 t324.length co44) t324) ∧ Aside0 (Kd.R (Kd.int .i64) 3 wc w.heap.size (fun k_ => some k_ ≠ ((.slice Ao42 t321.length co42) : Value).ownBlock ∧ some k_ ≠ ((.slice Ao44 t324.length co44) : Value).ownBlock ∧ some k_ ≠ ((.slice Ao55 t332.length co55) : Value).ownBlock ∧ some k_ ≠ ((.slice Ao65 t343.length co65) : Value).ownBlock ∧ some k_ ≠ ((.slice Ao69 t347.length co69) : Value).ownBlock ∧ some k_ ≠ ((.slice Ao76 t350.length co76) : Value).ownBlock) (.slice Ao50 t329.length co50) t375) ∧ Aside0 (Kd.R (Kd.int .i64) 3 wc w.heap.size (fun k_ => some k_ ≠ ((.slice Ao42 t321.length co42) : Value).ownBlock ∧ some k_ ≠ ((.slice Ao44 t324.length co44) : Value).ownBlock ∧ some k_ ≠ ((.slice Ao50 t329.length co50) : Value).ownBlock ∧ some k_ ≠ ((.slice Ao65 t343.length co65) : Value).ownBlock ∧ some k_ ≠ ((.slice Ao69 t347.length co69) : Value).ownBlock ∧ some k_ ≠ ((.slice Ao76 t350.length co76) : Value).ownBlock) (.slice Ao55 t332.length co55) t376) ∧ Aside0 (Kd.R (Kd.int .i64) 3 wc w.heap.size (fun k_ => some k_ ≠ ((.slice Ao42 t321.length co42) : Value).ownBlock ∧ some k_ ≠ ((.slice Ao44 t324.length co44) : Value).ownBlock ∧ some k_ ≠ ((.slice Ao50 t329.length co50) : Value).ownBlock ∧ some k_ ≠ ((.slice Ao55 t332.length co55) : Value).ownBlock ∧ some k_ ≠ ((.slice Ao69 t347.length co69) : Value).ownBlock ∧ some k_ ≠ ((.slice Ao76 t350.length co76) : Value).ownBlock) (.slice Ao65 t343.length co65) t378) ∧ Aside0 (Kd.R (Kd.int .i64) 3 wc w.heap.size (fun k_ => some k_ ≠ ((.slice Ao42 t321.length co42) : Value).ownBlock ∧ some k_ ≠ ((.slice Ao44 t324.length co44) : Value).ownBlock ∧ some k_ ≠ ((.slice Ao50 t329.length co50) : Value).ownBlock ∧ some k_ ≠ ((.slice Ao55 t332.length co55) : Value).ownBlock ∧ some k_ ≠ ((.slice Ao65 t343.length co65) : Value).ownBlock ∧ some k_ ≠ ((.slice Ao76 t350.length co76) : Value).ownBlock) (.slice Ao69 t347.length co69) t347) ∧ Aside0 (Kd.R (Kd.int .i64) 3 wc w.heap.size (fun k_ => some k_ ≠ ((.slice Ao42 t321.length co42) : Value).ownBlock ∧ some k_ ≠ ((.slice Ao44 t324.length co44) : Value).ownBlock ∧ some k_ ≠ ((.slice Ao50 t329.length co50) : Value).ownBlock ∧ some k_ ≠ ((.slice Ao55 t332.length co55) : Value).ownBlock ∧ some k_ ≠ ((.slice Ao65 t343.length co65) : Value).ownBlock ∧ some k_ ≠ ((.slice Ao69 t347.length co69) : Value).ownBlock) (.slice Ao76 t350.length co76) t350) ∧ Aside0 (wc.heap[gb301]? = some (.cells #[(.slice A0_0 l0_0.length c0_0), (.slice A0_1 l0_1.length c0_1)] 24 (0, 0))) ∧ Aside0 (wc.heap[gb302]? = some (.cells #[.int .i64 a1_0, .int .i64 a1_1, .int .i64 a1_2, .int .i64 a1_3, .int .i64 a1_4, .int .i64 a1_5, .int .i64 a1_6, (.slice A1_7 l1_7.length c1_7)] 32 (0, 0))) ∧ Aside0 (wc.heap[gb328]? = some (.cells #[(.slice Ao42 t321.length co42), (.slice Ao44 t324.length co44)] 27 (0, 0))) ∧ Aside0 (wc.heap[gb335]? = some (.cells #[(.slice Ao50 t329.length co50), (.slice Ao55 t332.length co55)] 27 (0, 0))) ∧ Aside0 (wc.heap[gb346]? = some (.cells #[.int .i64 t336, .int .i64 t337, .int .i64 t338, .int .i64 t339, .int .i64 t340, .int .i64 t341, .int .i64 t342, (.slice Ao65 t343.length co65)] 35 (0, 0))) ∧ Aside0 (wc.heap[gb354]? = some (.cells #[(.slice Ao69 t347.length co69), (.slice Ao76 t350.length co76)] 27 (0, 0))) ∧ Aside0 (Below w.heap.size w wc))
   case first =>
    have H := HC112.out
    clear HC112
    by_cases c135 : t377 < 0
    ·rw [if_pos c135] at H
     have c135b0 : decide (t377 < 0) = true := decide_eq_true c135
     clear c135
     (first | rw [c135b0] | (simp only [i64_w, i32_w]; rw [c135b0]) | skip)
     have H' := Aside0.mk H
     clear H
     go_wp2
     go_meet
     case rel => exact ⟨_, (true), (by first | rfl | (simp; done) | (simp [*]; done)), H', ⟨by have := HJ24.out; first | omega | exact Nat.le_refl _⟩, ⟨by (repeat apply rX); exact Kd.R_mono HO_329000.out (fun _ hk => ⟨hk.1, ⟨hk.2.1, ⟨hk.2.2.1, ⟨hk.2.2.2.1, ⟨hk.2.2.2.2.1, hk.2.2.2.2.2.1⟩⟩⟩⟩⟩)⟩, ⟨by (repeat apply rX); exact Kd.R_mono HO_329001.out (fun _ hk => ⟨hk.1, ⟨hk.2.1, ⟨hk.2.2.1, ⟨hk.2.2.2.1, ⟨hk.2.2.2.2.1, hk.2.2.2.2.2.1⟩⟩⟩⟩⟩)⟩, ⟨by (repeat apply rX); exact Kd.R_mono HO_336000.out (fun _ hk => ⟨hk.1, ⟨hk.2.1, ⟨hk.2.2.1, ⟨hk.2.2.2.1, ⟨hk.2.2.2.2.1, hk.2.2.2.2.2.1⟩⟩⟩⟩⟩)⟩, ⟨by (repeat apply rX); exact Kd.R_mono HO_336001.out (fun _ hk => ⟨hk.1, ⟨hk.2.1, ⟨hk.2.2.1, ⟨hk.2.2.2.1, ⟨hk.2.2.2.2.1, hk.2.2.2.2.2.1⟩⟩⟩⟩⟩)⟩, ⟨by (repeat apply rX); exact Kd.R_mono HO_347007.out (fun _ hk => ⟨hk.1, ⟨hk.2.1, ⟨hk.2.2.1, ⟨hk.2.2.2.1, ⟨hk.2.2.2.2.1, hk.2.2.2.2.2.1⟩⟩⟩⟩⟩)⟩, ⟨by (repeat apply rX); exact Kd.R_mono HO_355000.out (fun _ hk => ⟨hk.1, ⟨hk.2.1, ⟨hk.2.2.1, ⟨hk.2.2.2.1, ⟨hk.2.2.2.2.1, hk.2.2.2.2.2.1⟩⟩⟩⟩⟩)⟩, ⟨by (repeat apply rX); exact Kd.R_mono HO_355001.out (fun _ hk => ⟨hk.1, ⟨hk.2.1, ⟨hk.2.2.1, ⟨hk.2.2.2.1, ⟨hk.2.2.2.2.1, hk.2.2.2.2.2.1⟩⟩⟩⟩⟩)⟩, ⟨by (repeat apply bX); exact BK301.out⟩, ⟨by (repeat apply bX); exact BK302.out⟩, ⟨by (repeat apply bX); exact BK328.out⟩, ⟨by (repeat apply bX); exact BK335.out⟩, ⟨by (repeat apply bX); exact BK346.out⟩, ⟨by (repeat apply bX); exact BK354.out⟩, ⟨by repeat (first | (with_reducible first | exact HB.out | apply below_alloc | apply pw_below_drewN | apply below_drew1 | refine below_set ?_ GE301.out | refine below_set ?_ GE302.out | refine below_set ?_ GE328.out | refine below_set ?_ GE335.out | refine below_set ?_ GE346.out | refine below_set ?_ GE354.out) | exact HB.out)⟩⟩
    rw [if_neg c135] at H
    have c135b0 : decide (t377 < 0) = false := decide_eq_false c135
    clear c135
    (first | rw [c135b0] | (simp only [i64_w, i32_w]; rw [c135b0]) | skip)
    replace H := Option.bind_eq_some_iff.mp H
    obtain ⟨t379, A1360, H⟩ := H
    have A136 := Aside0.mk A1360
    clear A1360
    by_cases c137 : t379 = true
    ·subst c137
     have H1 : (laws_FnExactReturnCredits.j1 kj24 t327 (t353 != t327) l0_0 l0_1 a1_0 a1_1 a1_2 a1_3 a1_4 a1_5 a1_6 l1_7 t321 t324 t347 t350) = some r := by rw [if_pos rfl] at H; exact H
     clear H
     have H := H1
     clear H1
     have H' := Aside0.mk H
     clear H
     have hnb138 := NB354_301.out
     have hnc138 := NB301_354.out
     have hnb139 := NB354_302.out
     have hnc139 := NB302_354.out
     have hnb140 := NB354_328.out
     have hnc140 := NB328_354.out
     have hnb141 := NB354_335.out
     have hnc141 := NB335_354.out
     have hnb142 := NB354_346.out
     have hnc142 := NB346_354.out
     obtain ⟨hcz143_0, hcz143_1, hfz143_0, hfz143_1⟩ := b2 BK354.out
     have hnb144 := NB328_301.out
     have hnc144 := NB301_328.out
     have hnb145 := NB328_302.out
     have hnc145 := NB302_328.out
     have hnb146 := NB328_335.out
     have hnc146 := NB335_328.out
     have hnb147 := NB328_346.out
     have hnc147 := NB346_328.out
     obtain ⟨hcz148_0, hcz148_1, hfz148_0, hfz148_1⟩ := b2 BK328.out
     go_wp2_with (first | (go_at_call 19; (with_reducible refine (laws_eqCredits.calls kj24 _ _ t347 _ _ t350 _ _ t321 _ _ t324 true _ ?side1 ?side2 ?side3 ?side4 ?side5 ?side6 ?side7 ?side8 A136.out).mono ?_); (case side1 => exact cY ((Kd.R_reads' HO_355000.out).2.2)); (case side2 => exact (Kd.R_reads' HO_355000.out).2.1); (case side3 => exact cY ((Kd.R_reads' HO_355001.out).2.2)); (case side4 => exact (Kd.R_reads' HO_355001.out).2.1); (case side5 => exact cY ((Kd.R_reads' HO_329000.out).2.2)); (case side6 => exact (Kd.R_reads' HO_329000.out).2.1); (case side7 => exact cY ((Kd.R_reads' HO_329001.out).2.2)); (case side8 => exact (Kd.R_reads' HO_329001.out).2.1); rintro e w149 ⟨rfl, hb⟩; have n0_ := Aside0.mk (Kd.R_below (rY HO_329000.out) hb); have n1_ := Aside0.mk (Kd.R_below (rY HO_329001.out) hb); have n2_ := Aside0.mk (Kd.R_below (rY HO_336000.out) hb); have n3_ := Aside0.mk (Kd.R_below (rY HO_336001.out) hb); have n4_ := Aside0.mk (Kd.R_below (rY HO_347007.out) hb); have n5_ := Aside0.mk (Kd.R_below (rY HO_355000.out) hb); have n6_ := Aside0.mk (Kd.R_below (rY HO_355001.out) hb); have n7_ := Aside0.mk (Kd.R_below (rY HO358.out) hb); have n8_ := Aside0.mk (Kd.R_below (rY HO361.out) hb); have n9_ := Aside0.mk (Kd.R_below (rY HO372.out) hb); have n10_ := Aside0.mk (blk_below (bY BK301.out) hb); have n11_ := Aside0.mk (blk_below (bY BK302.out) hb); have n12_ := Aside0.mk (blk_below (bY BK328.out) hb); have n13_ := Aside0.mk (blk_below (bY BK335.out) hb); have n14_ := Aside0.mk (blk_below (bY BK346.out) hb); have n15_ := Aside0.mk (blk_below (bY BK354.out) hb); have n16_ := Aside0.mk (below_step (by repeat (first | (with_reducible first | exact HB.out | apply below_alloc | apply pw_below_drewN | apply below_drew1 | refine below_set ?_ GE301.out | refine below_set ?_ GE302.out | refine below_set ?_ GE328.out | refine below_set ?_ GE335.out | refine below_set ?_ GE346.out | refine below_set ?_ GE354.out) | exact HB.out)) hb); clear HO_329000; clear HO_329001; clear HO_336000; clear HO_336001; clear HO_347007; clear HO_355000; clear HO_355001; clear HO358; clear HO361; clear HO372; clear BK301; clear BK302; clear BK328; clear BK335; clear BK346; clear BK354; clear HB; have HO_329000 := n0_; have HO_329001 := n1_; have HO_336000 := n2_; have HO_336001 := n3_; have HO_347007 := n4_; have HO_355000 := n5_; have HO_355001 := n6_; have HO358 := n7_; have HO361 := n8_; have HO372 := n9_; have BK301 := n10_; have BK302 := n11_; have BK328 := n12_; have BK335 := n13_; have BK346 := n14_; have BK354 := n15_; have HB := n16_; clear n0_ n1_ n2_ n3_ n4_ n5_ n6_ n7_ n8_ n9_ n10_ n11_ n12_ n13_ n14_ n15_ n16_; (try clear hb); (try clear hb2); (try clear hk); (try clear hi)))
     go_meet
     case rel => exact ⟨_, ((t353 != t327)), (by first | rfl | (simp; done) | (simp [*]; done)), H', ⟨by have := HJ24.out; first | omega | exact Nat.le_refl _⟩, ⟨by (repeat apply rX); exact Kd.R_mono HO_329000.out (fun _ hk => ⟨hk.1, ⟨hk.2.1, ⟨hk.2.2.1, ⟨hk.2.2.2.1, ⟨hk.2.2.2.2.1, hk.2.2.2.2.2.1⟩⟩⟩⟩⟩)⟩, ⟨by (repeat apply rX); exact Kd.R_mono HO_329001.out (fun _ hk => ⟨hk.1, ⟨hk.2.1, ⟨hk.2.2.1, ⟨hk.2.2.2.1, ⟨hk.2.2.2.2.1, hk.2.2.2.2.2.1⟩⟩⟩⟩⟩)⟩, ⟨by (repeat apply rX); exact Kd.R_mono HO_336000.out (fun _ hk => ⟨hk.1, ⟨hk.2.1, ⟨hk.2.2.1, ⟨hk.2.2.2.1, ⟨hk.2.2.2.2.1, hk.2.2.2.2.2.1⟩⟩⟩⟩⟩)⟩, ⟨by (repeat apply rX); exact Kd.R_mono HO_336001.out (fun _ hk => ⟨hk.1, ⟨hk.2.1, ⟨hk.2.2.1, ⟨hk.2.2.2.1, ⟨hk.2.2.2.2.1, hk.2.2.2.2.2.1⟩⟩⟩⟩⟩)⟩, ⟨by (repeat apply rX); exact Kd.R_mono HO_347007.out (fun _ hk => ⟨hk.1, ⟨hk.2.1, ⟨hk.2.2.1, ⟨hk.2.2.2.1, ⟨hk.2.2.2.2.1, hk.2.2.2.2.2.1⟩⟩⟩⟩⟩)⟩, ⟨by (repeat apply rX); exact Kd.R_mono HO_355000.out (fun _ hk => ⟨hk.1, ⟨hk.2.1, ⟨hk.2.2.1, ⟨hk.2.2.2.1, ⟨hk.2.2.2.2.1, hk.2.2.2.2.2.1⟩⟩⟩⟩⟩)⟩, ⟨by (repeat apply rX); exact Kd.R_mono HO_355001.out (fun _ hk => ⟨hk.1, ⟨hk.2.1, ⟨hk.2.2.1, ⟨hk.2.2.2.1, ⟨hk.2.2.2.2.1, hk.2.2.2.2.2.1⟩⟩⟩⟩⟩)⟩, ⟨by (repeat apply bX); exact BK301.out⟩, ⟨by (repeat apply bX); exact BK302.out⟩, ⟨by (repeat apply bX); exact BK328.out⟩, ⟨by (repeat apply bX); exact BK335.out⟩, ⟨by (repeat apply bX); exact BK346.out⟩, ⟨by (repeat apply bX); exact BK354.out⟩, ⟨by repeat (first | (with_reducible first | exact HB.out | apply below_alloc | apply pw_below_drewN | apply below_drew1 | refine below_set ?_ GE301.out | refine below_set ?_ GE302.out | refine below_set ?_ GE328.out | refine below_set ?_ GE335.out | refine below_set ?_ GE346.out | refine below_set ?_ GE354.out) | exact HB.out)⟩⟩
    replace c137 := Bool.eq_false_iff.mpr c137
    subst c137
    have H1 : (laws_FnExactReturnCredits.j1 kj24 t327 true l0_0 l0_1 a1_0 a1_1 a1_2 a1_3 a1_4 a1_5 a1_6 l1_7 t321 t324 t347 t350) = some r := by rw [if_neg (show ¬ (false = true) by decide)] at H; exact H
    clear H
    have H := H1
    clear H1
    have H' := Aside0.mk H
    clear H
    have hnb150 := NB354_301.out
    have hnc150 := NB301_354.out
    have hnb151 := NB354_302.out
    have hnc151 := NB302_354.out
    have hnb152 := NB354_328.out
    have hnc152 := NB328_354.out
    have hnb153 := NB354_335.out
    have hnc153 := NB335_354.out
    have hnb154 := NB354_346.out
    have hnc154 := NB346_354.out
    obtain ⟨hcz155_0, hcz155_1, hfz155_0, hfz155_1⟩ := b2 BK354.out
    have hnb156 := NB328_301.out
    have hnc156 := NB301_328.out
    have hnb157 := NB328_302.out
    have hnc157 := NB302_328.out
    have hnb158 := NB328_335.out
    have hnc158 := NB335_328.out
    have hnb159 := NB328_346.out
    have hnc159 := NB346_328.out
    obtain ⟨hcz160_0, hcz160_1, hfz160_0, hfz160_1⟩ := b2 BK328.out
    go_wp2_with (first | (go_at_call 19; (with_reducible refine (laws_eqCredits.calls kj24 _ _ t347 _ _ t350 _ _ t321 _ _ t324 false _ ?side1 ?side2 ?side3 ?side4 ?side5 ?side6 ?side7 ?side8 A136.out).mono ?_); (case side1 => exact cY ((Kd.R_reads' HO_355000.out).2.2)); (case side2 => exact (Kd.R_reads' HO_355000.out).2.1); (case side3 => exact cY ((Kd.R_reads' HO_355001.out).2.2)); (case side4 => exact (Kd.R_reads' HO_355001.out).2.1); (case side5 => exact cY ((Kd.R_reads' HO_329000.out).2.2)); (case side6 => exact (Kd.R_reads' HO_329000.out).2.1); (case side7 => exact cY ((Kd.R_reads' HO_329001.out).2.2)); (case side8 => exact (Kd.R_reads' HO_329001.out).2.1); rintro e w161 ⟨rfl, hb⟩; have n0_ := Aside0.mk (Kd.R_below (rY HO_329000.out) hb); have n1_ := Aside0.mk (Kd.R_below (rY HO_329001.out) hb); have n2_ := Aside0.mk (Kd.R_below (rY HO_336000.out) hb); have n3_ := Aside0.mk (Kd.R_below (rY HO_336001.out) hb); have n4_ := Aside0.mk (Kd.R_below (rY HO_347007.out) hb); have n5_ := Aside0.mk (Kd.R_below (rY HO_355000.out) hb); have n6_ := Aside0.mk (Kd.R_below (rY HO_355001.out) hb); have n7_ := Aside0.mk (Kd.R_below (rY HO358.out) hb); have n8_ := Aside0.mk (Kd.R_below (rY HO361.out) hb); have n9_ := Aside0.mk (Kd.R_below (rY HO372.out) hb); have n10_ := Aside0.mk (blk_below (bY BK301.out) hb); have n11_ := Aside0.mk (blk_below (bY BK302.out) hb); have n12_ := Aside0.mk (blk_below (bY BK328.out) hb); have n13_ := Aside0.mk (blk_below (bY BK335.out) hb); have n14_ := Aside0.mk (blk_below (bY BK346.out) hb); have n15_ := Aside0.mk (blk_below (bY BK354.out) hb); have n16_ := Aside0.mk (below_step (by repeat (first | (with_reducible first | exact HB.out | apply below_alloc | apply pw_below_drewN | apply below_drew1 | refine below_set ?_ GE301.out | refine below_set ?_ GE302.out | refine below_set ?_ GE328.out | refine below_set ?_ GE335.out | refine below_set ?_ GE346.out | refine below_set ?_ GE354.out) | exact HB.out)) hb); clear HO_329000; clear HO_329001; clear HO_336000; clear HO_336001; clear HO_347007; clear HO_355000; clear HO_355001; clear HO358; clear HO361; clear HO372; clear BK301; clear BK302; clear BK328; clear BK335; clear BK346; clear BK354; clear HB; have HO_329000 := n0_; have HO_329001 := n1_; have HO_336000 := n2_; have HO_336001 := n3_; have HO_347007 := n4_; have HO_355000 := n5_; have HO_355001 := n6_; have HO358 := n7_; have HO361 := n8_; have HO372 := n9_; have BK301 := n10_; have BK302 := n11_; have BK328 := n12_; have BK335 := n13_; have BK346 := n14_; have BK354 := n15_; have HB := n16_; clear n0_ n1_ n2_ n3_ n4_ n5_ n6_ n7_ n8_ n9_ n10_ n11_ n12_ n13_ n14_ n15_ n16_; (try clear hb); (try clear hb2); (try clear hk); (try clear hi)))
    go_meet
    case rel => exact ⟨_, (true), (by first | rfl | (simp; done) | (simp [*]; done)), H', ⟨by have := HJ24.out; first | omega | exact Nat.le_refl _⟩, ⟨by (repeat apply rX); exact Kd.R_mono HO_329000.out (fun _ hk => ⟨hk.1, ⟨hk.2.1, ⟨hk.2.2.1, ⟨hk.2.2.2.1, ⟨hk.2.2.2.2.1, hk.2.2.2.2.2.1⟩⟩⟩⟩⟩)⟩, ⟨by (repeat apply rX); exact Kd.R_mono HO_329001.out (fun _ hk => ⟨hk.1, ⟨hk.2.1, ⟨hk.2.2.1, ⟨hk.2.2.2.1, ⟨hk.2.2.2.2.1, hk.2.2.2.2.2.1⟩⟩⟩⟩⟩)⟩, ⟨by (repeat apply rX); exact Kd.R_mono HO_336000.out (fun _ hk => ⟨hk.1, ⟨hk.2.1, ⟨hk.2.2.1, ⟨hk.2.2.2.1, ⟨hk.2.2.2.2.1, hk.2.2.2.2.2.1⟩⟩⟩⟩⟩)⟩, ⟨by (repeat apply rX); exact Kd.R_mono HO_336001.out (fun _ hk => ⟨hk.1, ⟨hk.2.1, ⟨hk.2.2.1, ⟨hk.2.2.2.1, ⟨hk.2.2.2.2.1, hk.2.2.2.2.2.1⟩⟩⟩⟩⟩)⟩, ⟨by (repeat apply rX); exact Kd.R_mono HO_347007.out (fun _ hk => ⟨hk.1, ⟨hk.2.1, ⟨hk.2.2.1, ⟨hk.2.2.2.1, ⟨hk.2.2.2.2.1, hk.2.2.2.2.2.1⟩⟩⟩⟩⟩)⟩, ⟨by (repeat apply rX); exact Kd.R_mono HO_355000.out (fun _ hk => ⟨hk.1, ⟨hk.2.1, ⟨hk.2.2.1, ⟨hk.2.2.2.1, ⟨hk.2.2.2.2.1, hk.2.2.2.2.2.1⟩⟩⟩⟩⟩)⟩, ⟨by (repeat apply rX); exact Kd.R_mono HO_355001.out (fun _ hk => ⟨hk.1, ⟨hk.2.1, ⟨hk.2.2.1, ⟨hk.2.2.2.1, ⟨hk.2.2.2.2.1, hk.2.2.2.2.2.1⟩⟩⟩⟩⟩)⟩, ⟨by (repeat apply bX); exact BK301.out⟩, ⟨by (repeat apply bX); exact BK302.out⟩, ⟨by (repeat apply bX); exact BK328.out⟩, ⟨by (repeat apply bX); exact BK335.out⟩, ⟨by (repeat apply bX); exact BK346.out⟩, ⟨by (repeat apply bX); exact BK354.out⟩, ⟨by repeat (first | (with_reducible first | exact HB.out | apply below_alloc | apply pw_below_drewN | apply below_drew1 | refine below_set ?_ GE301.out | refine below_set ?_ GE302.out | refine below_set ?_ GE328.out | refine below_set ?_ GE335.out | refine below_set ?_ GE346.out | refine below_set ?_ GE354.out) | exact HB.out)⟩⟩
   case rest => exact laws_FnExactReturnCredits.rest2 k A0_0 c0_0 l0_0 A0_1 c0_1 l0_1 a1_0 a1_1 a1_2 a1_3 a1_4 a1_5 a1_6 A1_7 c1_7 l1_7 r w hrt hu24 hu32 hu27 hu35 HR0_0 HC0_0 HR0_1 HC0_1 HR1_7 HC1_7 t303 A3 c4b0 t304 A10 c11b0 t305 t308 A19 t311 t312 t313 t314 t315 t316 t317 t318 A20 t321 t324 t327 A21 t329 t332 A22 t336 t337 t338 t339 t340 t341 t342 t343 A23 t347 t350 t353 A24 gb301 GW301 GE301 gb302 GW302 GE302 NB301_302 NB302_301 hnb28 hnc28 HT_ HW_ v306 v309 v319 gb328 GW328 GE328 NB301_328 NB328_301 NB302_328 NB328_302 Ao42 co42 Ao44 co44 hns43_0 hns43_1 hms43_0 hms43_1 hns45_0 hns45_1 hms45_0 hms45_1 hnb46 hnc46 gb335 GW335 GE335 NB301_335 NB335_301 NB302_335 NB335_302 NB328_335 NB335_328 Ao50 co50 hnb51 hnc51 hnb52 hnc52 hnb53 hnc53 Ao55 co55 hnb56 hnc56 gb346 GW346 GE346 NB301_346 NB346_301 NB302_346 NB346_302 NB328_346 NB346_328 NB335_346 NB346_335 hnb60 hnc60 hnb61 hnc61 hnb62 hnc62 hnb63 hnc63 Ao65 co65 gb354 GW354 GE354 NB301_354 NB354_301 NB302_354 NB354_302 NB328_354 NB354_328 NB335_354 NB354_335 NB346_354 NB354_346 Ao69 co69 hnb70 hnc70 hnb71 hnc71 hnb72 hnc72 hnb73 hnc73 hnb74 hnc74 Ao76 co76 kj24 HJ24 t356 t359 A104 A105 t363 t364 t365 t366 t367 t368 t369 t370 A107 A108 t374 t375 t376 A110 t377 t378 A111 Ao115 co115 Ao116 co116 Ao120 co120 hnb122 hnc122 hnb123 hnc123 hnb124 hnc124 hnb125 hnc125 hnb126 hnc126 hnb129 hnc129 hnb130 hnc130 hnb131 hnc131 hnb132 hnc132 wc u17 u18 u19 u20 u21 u22 u23 u24 u25 u26 u27 u28 u29 u30 u31 u32 u33 u34 u35 u36 u37 u38 u39 u40 u41 u42 u43 u44 u45 u46 u47 u48 u49 u50 u51 u52 u53 u54 u55 u56 u57 u58 u59 u60 u61 u62 u63 u64 u65 u66 u67 u68 u69 u70 u71 u72 u73 u74 u75 u76 u77 u78 u79 u80 u81 u82 u83 u84 u85 u86 u87 u88 u89 u90 u91 u92 u93 u94 u95 u96 u97 u98 u99 u100 u101 u102 u103 u104 u105 u106 u107 u108 u109 u110 u111 u112 u113 u114 u115 u116 u117 u118 hcut _ (by assumption) _ (by assumption)
/-- THE ONE PURE STATEMENT of laws_FnExactReturnCredits. -/
def laws_FnExactReturnCredits.Pure : Prop := ∀ (l0_0 : List Int) (l0_1 : List Int) (a1_0 : Int) (a1_1 : Int) (a1_2 : Int) (a1_3 : Int) (a1_4 : Int) (a1_5 : Int) (a1_6 : Int) (l1_7 : List Int), (l0_0.length ≤ 9223372036854775807 ∧ ∀ e410 ∈ l0_0, (Lit.int .i64 e410).wf = true) → (l0_1.length ≤ 9223372036854775807 ∧ ∀ e411 ∈ l0_1, (Lit.int .i64 e411).wf = true) → ((Lit.int .i64 a1_0).wf = true) → ((Lit.int .i64 a1_1).wf = true) → ((Lit.int .i64 a1_2).wf = true) → ((Lit.int .i64 a1_3).wf = true) → ((Lit.int .i64 a1_4).wf = true) → ((Lit.int .i64 a1_5).wf = true) → ((Lit.int .i64 a1_6).wf = true) → (l1_7.length ≤ 9223372036854775807 ∧ ∀ e412 ∈ l1_7, (Lit.int .i64 e412).wf = true) → ∃ k, laws_FnExactReturnCredits.f k l0_0 l0_1 a1_0 a1_1 a1_2 a1_3 a1_4 a1_5 a1_6 l1_7 = some true

end Go.Proofs.Ytkapncihoabnmaa.PFnExactReturnCredits
