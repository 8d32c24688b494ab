-- Written by a program of this session (wip/xp): not trusted, Lean checks it.
import Derived.Test.YtkapncihoabnmaaPFnExactSpendCreditsy13
namespace Go.Proofs.Ytkapncihoabnmaa.PFnExactSpendCredits
open Go.RowKit Go.Proofs.YtkapncihoabnmaaW.PrintWords Go.Proofs.YtkapncihoabnmaaW.PrintLast Go.Proofs.YtkapncihoabnmaaW.PrintMore
attribute [local go_sem] max2_int min2_int max_two min_two max_three min_three max_four min_four   -- for this text's walks alone
set_option linter.unusedVariables false
set_option linter.unusedSimpArgs false

set_option maxHeartbeats 8000000 in
set_option maxRecDepth 100000 in
theorem laws_FnExactSpendCredits.calls (k : Nat) (A0_0 : Option Addr) (c0_0 : Nat) (l0_0 : List Int) (A0_1 : Option Addr) (c0_1 : Nat) (l0_1 : List Int) (a1_0 : Int) (a1_1 : Int) (a1_2 : Int) (a1_3 : Int) (a1_4 : Int) (a1_5 : Int) (a1_6 : Int) (A1_7 : Option Addr) (c1_7 : Nat) (l1_7 : List Int) (r : Bool) (w : World) (hr0_0 : Kd.C (Kd.int .i64) w A0_0 l0_0.length l0_0) (hc0_0 : l0_0.length ≤ c0_0) (hr0_1 : Kd.C (Kd.int .i64) w A0_1 l0_1.length l0_1) (hc0_1 : l0_1.length ≤ c0_1) (hr1_7 : Kd.C (Kd.int .i64) w A1_7 l1_7.length l1_7) (hc1_7 : l1_7.length ≤ c1_7) (hrt : Aside0 (r = true)) (h : laws_FnExactSpendCredits.f k l0_0 l0_1 a1_0 a1_1 a1_2 a1_3 a1_4 a1_5 a1_6 l1_7 = some r) :
  Calls Try.prog 13 #[.agg #[.slice A0_0 l0_0.length c0_0, .slice A0_1 l0_1.length c0_1], .agg #[.int .i64 a1_0, .int .i64 a1_1, .int .i64 a1_2, .int .i64 a1_3, .int .i64 a1_4, .int .i64 a1_5, .int .i64 a1_6, .slice A1_7 l1_7.length c1_7]] w fun e w' => e = .returned (.bool r) ∧ Below w.heap.size w w' := by
 have hu24 := Try.underlying24
 have hu32 := Try.underlying32
 have hu27 := Try.underlying27
 have hu35 := Try.underlying35
 have HR0_0 := Aside0.mk hr0_0
 have HC0_0 := Aside0.mk hc0_0
 clear hr0_0 hc0_0
 have HR0_1 := Aside0.mk hr0_1
 have HC0_1 := Aside0.mk hc0_1
 clear hr0_1 hc0_1
 have HR1_7 := Aside0.mk hr1_7
 have HC1_7 := Aside0.mk hc1_7
 clear hr1_7 hc1_7
 have HB := Aside0.mk (Below.refl w.heap.size w)
 have H : ((laws_szCredits.f l0_0 l0_1 1048576).bind fun t307 => (if t307 < 0 then (some true) else ((laws_szPacket.f a1_0 a1_1 a1_2 a1_3 a1_4 a1_5 a1_6 l1_7 t307).bind fun t308 => (if t308 < 0 then (some true) else ((laws_toCredits.f k l0_0 l0_1).bind fun bt309 => ((laws_toPacket.f k a1_0 a1_1 a1_2 a1_3 a1_4 a1_5 a1_6 l1_7).bind fun bt315 => ((spec_SpendCredits.f k bt309.1 bt309.2 bt315.1 bt315.2.1 bt315.2.2.1 bt315.2.2.2.1 bt315.2.2.2.2.1 bt315.2.2.2.2.2.1 bt315.2.2.2.2.2.2.1 bt315.2.2.2.2.2.2.2).bind fun bt325 => ((laws_toCredits.f k l0_0 l0_1).bind fun bt333 => ((laws_toPacket.f k a1_0 a1_1 a1_2 a1_3 a1_4 a1_5 a1_6 l1_7).bind fun bt340 => ((impl_SpendCredits.f k bt333.1 bt333.2 bt340.1 bt340.2.1 bt340.2.2.1 bt340.2.2.2.1 bt340.2.2.2.2.1 bt340.2.2.2.2.2.1 bt340.2.2.2.2.2.2.1 bt340.2.2.2.2.2.2.2).bind fun bt351 => ((laws_eqCredits.f k bt351.1 bt351.2.1 bt325.1 bt325.2.1).bind fun t359 => (if t359 = true then (laws_FnExactSpendCredits.j0 k bt325.2.2 bt351.2.2 (bt351.2.2 != bt325.2.2) l0_0 l0_1 a1_0 a1_1 a1_2 a1_3 a1_4 a1_5 a1_6 l1_7 bt325.1 bt325.2.1 bt333.1 bt333.2 bt340.1 bt340.2.1 bt340.2.2.1 bt340.2.2.2.1 bt340.2.2.2.2.1 bt340.2.2.2.2.2.1 bt340.2.2.2.2.2.2.1 bt340.2.2.2.2.2.2.2 bt351.1 bt351.2.1) else (laws_FnExactSpendCredits.j0 k bt325.2.2 bt351.2.2 true l0_0 l0_1 a1_0 a1_1 a1_2 a1_3 a1_4 a1_5 a1_6 l1_7 bt325.1 bt325.2.1 bt333.1 bt333.2 bt340.1 bt340.2.1 bt340.2.2.1 bt340.2.2.2.1 bt340.2.2.2.2.1 bt340.2.2.2.2.2.1 bt340.2.2.2.2.2.2.1 bt340.2.2.2.2.2.2.2 bt351.1 bt351.2.1))))))))))))) = some r := h
 clear h
 replace H := Option.bind_eq_some_iff.mp H
 obtain ⟨t307, A30, H⟩ := H
 have A3 := Aside0.mk A30
 clear A30
 by_cases c4 : t307 < 0
 ·rw [if_pos c4] at H
  have c4b0 : decide (t307 < 0) = true := decide_eq_true c4
  clear c4
  obtain rfl := Option.some.inj H
  go_enter Try.func13, Try.ntmps13
  go_wp2_with (first | ((with_reducible refine gate_dst (N := 2) rfl ?_); refine box_event ?hg (N := 2) ?hd (cs := #[.slice A0_0 l0_0.length c0_0, .slice A0_1 l0_1.length c0_1]) (t := 24) ?hr ?_; (case hd => rfl); (case hg => rfl); (case hr => first | (go_simp; done) | (go_simp; rfl)); intro gb305 hg w5 hbox hb; have n0_ := Aside0.mk (below_step (beY HB.out) hb); have n1_ := Aside0.mk (hbox); have n2_ := Aside0.mk ((by rw [hg]; exact (below_size (beY HB.out)) : w.heap.size ≤ gb305)); have n3_ := Aside0.mk ((by rw [hg]; exact (below_size (beY HB.out)) : w.heap.size ≤ gb305)); clear HB; have HB := n0_; have BK305 := n1_; have GW305 := n2_; have GE305 := n3_; clear n0_ n1_ n2_ n3_; clear hb hbox hg) | ((with_reducible refine gate_dst (N := 3) rfl ?_); refine box_event ?hg (N := 3) ?hd (cs := #[.int .i64 a1_0, .int .i64 a1_1, .int .i64 a1_2, .int .i64 a1_3, .int .i64 a1_4, .int .i64 a1_5, .int .i64 a1_6, .slice A1_7 l1_7.length c1_7]) (t := 32) ?hr ?_; (case hd => rfl); (case hg => rfl); (case hr => first | (go_simp; done) | (go_simp; rfl)); intro gb306 hg w6 hbox hb; have n0_ := Aside0.mk (blk_below (bY BK305.out) hb); have n1_ := Aside0.mk (below_step (by repeat (first | (with_reducible first | exact HB.out | apply below_alloc | apply pw_below_drewN | apply below_drew1 | refine below_set ?_ GE305.out) | exact HB.out)) hb); have n2_ := Aside0.mk (hbox); have n3_ := Aside0.mk ((by rw [hg]; exact (below_size (by repeat (first | (with_reducible first | exact HB.out | apply below_alloc | apply pw_below_drewN | apply below_drew1 | refine below_set ?_ GE305.out) | exact HB.out))) : w.heap.size ≤ gb306)); have n4_ := Aside0.mk ((by rw [hg]; exact (below_size (by repeat (first | (with_reducible first | exact HB.out | apply below_alloc | apply pw_below_drewN | apply below_drew1 | refine below_set ?_ GE305.out) | exact HB.out))) : w.heap.size ≤ gb306)); have n5_ := Aside0.mk ((by rw [hg]; exact Nat.ne_of_lt (blk_lt (bY BK305.out)) : gb305 ≠ gb306)); have n6_ := Aside0.mk ((by rw [hg]; exact Nat.ne_of_gt (blk_lt (bY BK305.out)) : gb306 ≠ gb305)); clear BK305; clear HB; have BK305 := n0_; have HB := n1_; have BK306 := n2_; have GW306 := n3_; have GE306 := n4_; have NB305_306 := n5_; have NB306_305 := n6_; clear n0_ n1_ n2_ n3_ n4_ n5_ n6_; clear hb hbox hg; have hnb7 := NB305_306.out; have hnc7 := NB306_305.out; have hcz8_0 : w6.cell? ⟨gb305, 0, none⟩ = some (.slice A0_0 l0_0.length c0_0) := (blk_cell BK305.out 0).trans rfl; have hcz8_1 : w6.cell? ⟨gb305, 1, none⟩ = some (.slice A0_1 l0_1.length c0_1) := (blk_cell BK305.out 1).trans rfl; have hfz8_0 := blk_frozen BK305.out 0; have hfz8_1 := blk_frozen BK305.out 1) | ((with_reducible refine gate_callee (f := 15) rfl ?_); refine goesL_ (some 19) rfl rfl Try.func15 (by kernel_rfl) rfl #[.agg #[.slice A0_0 l0_0.length c0_0, .slice A0_1 l0_1.length c0_1], .int .i64 1048576] rfl (by (try simp only [List.map_toArray, List.map_cons, List.map_nil]); first | done | rfl) ?_; (with_reducible refine (laws_szCredits.calls _ _ l0_0 _ _ l0_1 1048576 t307 _ ?side1 ?side2 ?side3 ?side4 A3.out).mono ?_); (case side1 => exact cY ((Kd.C_below HR0_0.out HB.out))); (case side2 => exact HC0_0.out); (case side3 => exact cY ((Kd.C_below HR0_1.out HB.out))); (case side4 => exact HC0_1.out); rintro e w9 ⟨rfl, hb⟩; refine ⟨_, rfl, ?_⟩; have n0_ := Aside0.mk (blk_below (bY BK305.out) hb); have n1_ := Aside0.mk (blk_below (bY BK306.out) hb); have n2_ := Aside0.mk (below_step (by repeat (first | (with_reducible first | exact HB.out | apply below_alloc | apply pw_below_drewN | apply below_drew1 | refine below_set ?_ GE305.out | refine below_set ?_ GE306.out) | exact HB.out)) hb); clear BK305; clear BK306; clear HB; have BK305 := n0_; have BK306 := n1_; have HB := n2_; clear n0_ n1_ n2_; (try clear hb); (try clear hb2); (try clear hk); (try clear hi)))
  go_ret
  exact ⟨by first | rfl | (simp [errW_none, errW_some] <;> rfl) | (simp [*, errW_none, errW_some] <;> rfl), by repeat (first | (with_reducible first | exact HB.out | apply below_alloc | apply pw_below_drewN | apply below_drew1 | refine below_set ?_ GE305.out | refine below_set ?_ GE306.out) | exact HB.out)⟩
 rw [if_neg c4] at H
 have c4b0 : decide (t307 < 0) = false := decide_eq_false c4
 clear c4
 replace H := Option.bind_eq_some_iff.mp H
 obtain ⟨t308, A100, H⟩ := H
 have A10 := Aside0.mk A100
 clear A100
 by_cases c11 : t308 < 0
 ·rw [if_pos c11] at H
  have c11b0 : decide (t308 < 0) = true := decide_eq_true c11
  clear c11
  obtain rfl := Option.some.inj H
  go_enter Try.func13, Try.ntmps13
  go_wp2_with (first | ((with_reducible refine gate_dst (N := 2) rfl ?_); refine box_event ?hg (N := 2) ?hd (cs := #[.slice A0_0 l0_0.length c0_0, .slice A0_1 l0_1.length c0_1]) (t := 24) ?hr ?_; (case hd => rfl); (case hg => rfl); (case hr => first | (go_simp; done) | (go_simp; rfl)); intro gb305 hg w12 hbox hb; have n0_ := Aside0.mk (below_step (beY HB.out) hb); have n1_ := Aside0.mk (hbox); have n2_ := Aside0.mk ((by rw [hg]; exact (below_size (beY HB.out)) : w.heap.size ≤ gb305)); have n3_ := Aside0.mk ((by rw [hg]; exact (below_size (beY HB.out)) : w.heap.size ≤ gb305)); clear HB; have HB := n0_; have BK305 := n1_; have GW305 := n2_; have GE305 := n3_; clear n0_ n1_ n2_ n3_; clear hb hbox hg) | ((with_reducible refine gate_dst (N := 3) rfl ?_); refine box_event ?hg (N := 3) ?hd (cs := #[.int .i64 a1_0, .int .i64 a1_1, .int .i64 a1_2, .int .i64 a1_3, .int .i64 a1_4, .int .i64 a1_5, .int .i64 a1_6, .slice A1_7 l1_7.length c1_7]) (t := 32) ?hr ?_; (case hd => rfl); (case hg => rfl); (case hr => first | (go_simp; done) | (go_simp; rfl)); intro gb306 hg w13 hbox hb; have n0_ := Aside0.mk (blk_below (bY BK305.out) hb); have n1_ := Aside0.mk (below_step (by repeat (first | (with_reducible first | exact HB.out | apply below_alloc | apply pw_below_drewN | apply below_drew1 | refine below_set ?_ GE305.out) | exact HB.out)) hb); have n2_ := Aside0.mk (hbox); have n3_ := Aside0.mk ((by rw [hg]; exact (below_size (by repeat (first | (with_reducible first | exact HB.out | apply below_alloc | apply pw_below_drewN | apply below_drew1 | refine below_set ?_ GE305.out) | exact HB.out))) : w.heap.size ≤ gb306)); have n4_ := Aside0.mk ((by rw [hg]; exact (below_size (by repeat (first | (with_reducible first | exact HB.out | apply below_alloc | apply pw_below_drewN | apply below_drew1 | refine below_set ?_ GE305.out) | exact HB.out))) : w.heap.size ≤ gb306)); have n5_ := Aside0.mk ((by rw [hg]; exact Nat.ne_of_lt (blk_lt (bY BK305.out)) : gb305 ≠ gb306)); have n6_ := Aside0.mk ((by rw [hg]; exact Nat.ne_of_gt (blk_lt (bY BK305.out)) : gb306 ≠ gb305)); clear BK305; clear HB; have BK305 := n0_; have HB := n1_; have BK306 := n2_; have GW306 := n3_; have GE306 := n4_; have NB305_306 := n5_; have NB306_305 := n6_; clear n0_ n1_ n2_ n3_ n4_ n5_ n6_; clear hb hbox hg; have hnb14 := NB305_306.out; have hnc14 := NB306_305.out; have hcz15_0 : w13.cell? ⟨gb305, 0, none⟩ = some (.slice A0_0 l0_0.length c0_0) := (blk_cell BK305.out 0).trans rfl; have hcz15_1 : w13.cell? ⟨gb305, 1, none⟩ = some (.slice A0_1 l0_1.length c0_1) := (blk_cell BK305.out 1).trans rfl; have hfz15_0 := blk_frozen BK305.out 0; have hfz15_1 := blk_frozen BK305.out 1) | ((with_reducible refine gate_callee (f := 15) rfl ?_); refine goesL_ (some 19) rfl rfl Try.func15 (by kernel_rfl) rfl #[.agg #[.slice A0_0 l0_0.length c0_0, .slice A0_1 l0_1.length c0_1], .int .i64 1048576] rfl (by (try simp only [List.map_toArray, List.map_cons, List.map_nil]); first | done | rfl) ?_; (with_reducible refine (laws_szCredits.calls _ _ l0_0 _ _ l0_1 1048576 t307 _ ?side1 ?side2 ?side3 ?side4 A3.out).mono ?_); (case side1 => exact cY ((Kd.C_below HR0_0.out HB.out))); (case side2 => exact HC0_0.out); (case side3 => exact cY ((Kd.C_below HR0_1.out HB.out))); (case side4 => exact HC0_1.out); rintro e w16 ⟨rfl, hb⟩; refine ⟨_, rfl, ?_⟩; have n0_ := Aside0.mk (blk_below (bY BK305.out) hb); have n1_ := Aside0.mk (blk_below (bY BK306.out) hb); have n2_ := Aside0.mk (below_step (by repeat (first | (with_reducible first | exact HB.out | apply below_alloc | apply pw_below_drewN | apply below_drew1 | refine below_set ?_ GE305.out | refine below_set ?_ GE306.out) | exact HB.out)) hb); clear BK305; clear BK306; clear HB; have BK305 := n0_; have BK306 := n1_; have HB := n2_; clear n0_ n1_ n2_; (try clear hb); (try clear hb2); (try clear hk); (try clear hi); have hcz17_0 : w16.cell? ⟨gb306, 0, none⟩ = some (.int .i64 a1_0) := (blk_cell BK306.out 0).trans rfl; have hcz17_1 : w16.cell? ⟨gb306, 1, none⟩ = some (.int .i64 a1_1) := (blk_cell BK306.out 1).trans rfl; have hcz17_2 : w16.cell? ⟨gb306, 2, none⟩ = some (.int .i64 a1_2) := (blk_cell BK306.out 2).trans rfl; have hcz17_3 : w16.cell? ⟨gb306, 3, none⟩ = some (.int .i64 a1_3) := (blk_cell BK306.out 3).trans rfl; have hcz17_4 : w16.cell? ⟨gb306, 4, none⟩ = some (.int .i64 a1_4) := (blk_cell BK306.out 4).trans rfl; have hcz17_5 : w16.cell? ⟨gb306, 5, none⟩ = some (.int .i64 a1_5) := (blk_cell BK306.out 5).trans rfl; have hcz17_6 : w16.cell? ⟨gb306, 6, none⟩ = some (.int .i64 a1_6) := (blk_cell BK306.out 6).trans rfl; have hcz17_7 : w16.cell? ⟨gb306, 7, none⟩ = some (.slice A1_7 l1_7.length c1_7) := (blk_cell BK306.out 7).trans rfl; have hfz17_0 := blk_frozen BK306.out 0; have hfz17_1 := blk_frozen BK306.out 1; have hfz17_2 := blk_frozen BK306.out 2; have hfz17_3 := blk_frozen BK306.out 3; have hfz17_4 := blk_frozen BK306.out 4; have hfz17_5 := blk_frozen BK306.out 5; have hfz17_6 := blk_frozen BK306.out 6; have hfz17_7 := blk_frozen BK306.out 7) | ((with_reducible refine gate_callee (f := 20) rfl ?_); refine goesL_ (some 24) rfl rfl Try.func20 (by kernel_rfl) rfl #[.agg #[.int .i64 a1_0, .int .i64 a1_1, .int .i64 a1_2, .int .i64 a1_3, .int .i64 a1_4, .int .i64 a1_5, .int .i64 a1_6, .slice A1_7 l1_7.length c1_7], .int .i64 t307] rfl (by (try simp only [List.map_toArray, List.map_cons, List.map_nil]); first | done | rfl) ?_; (with_reducible refine (laws_szPacket.calls a1_0 a1_1 a1_2 a1_3 a1_4 a1_5 a1_6 _ _ l1_7 t307 t308 _ ?side1 ?side2 A10.out).mono ?_); (case side1 => exact cY ((Kd.C_below HR1_7.out HB.out))); (case side2 => exact HC1_7.out); rintro e w18 ⟨rfl, hb⟩; refine ⟨_, rfl, ?_⟩; have n0_ := Aside0.mk (blk_below (bY BK305.out) hb); have n1_ := Aside0.mk (blk_below (bY BK306.out) hb); have n2_ := Aside0.mk (below_step (by repeat (first | (with_reducible first | exact HB.out | apply below_alloc | apply pw_below_drewN | apply below_drew1 | refine below_set ?_ GE305.out | refine below_set ?_ GE306.out) | exact HB.out)) hb); clear BK305; clear BK306; clear HB; have BK305 := n0_; have BK306 := n1_; have HB := n2_; clear n0_ n1_ n2_; (try clear hb); (try clear hb2); (try clear hk); (try clear hi)))
  go_ret
  exact ⟨by first | rfl | (simp [errW_none, errW_some] <;> rfl) | (simp [*, errW_none, errW_some] <;> rfl), by repeat (first | (with_reducible first | exact HB.out | apply below_alloc | apply pw_below_drewN | apply below_drew1 | refine below_set ?_ GE305.out | refine below_set ?_ GE306.out) | exact HB.out)⟩
 rw [if_neg c11] at H
 have c11b0 : decide (t308 < 0) = false := decide_eq_false c11
 clear c11
 replace H := Option.bind_eq_some_iff.mp H
 obtain ⟨⟨t309, t312⟩, A190, H⟩ := H
 replace H : ((laws_toPacket.f k a1_0 a1_1 a1_2 a1_3 a1_4 a1_5 a1_6 l1_7).bind fun bt315 => ((spec_SpendCredits.f k t309 t312 bt315.1 bt315.2.1 bt315.2.2.1 bt315.2.2.2.1 bt315.2.2.2.2.1 bt315.2.2.2.2.2.1 bt315.2.2.2.2.2.2.1 bt315.2.2.2.2.2.2.2).bind fun bt325 => ((laws_toCredits.f k l0_0 l0_1).bind fun bt333 => ((laws_toPacket.f k a1_0 a1_1 a1_2 a1_3 a1_4 a1_5 a1_6 l1_7).bind fun bt340 => ((impl_SpendCredits.f k bt333.1 bt333.2 bt340.1 bt340.2.1 bt340.2.2.1 bt340.2.2.2.1 bt340.2.2.2.2.1 bt340.2.2.2.2.2.1 bt340.2.2.2.2.2.2.1 bt340.2.2.2.2.2.2.2).bind fun bt351 => ((laws_eqCredits.f k bt351.1 bt351.2.1 bt325.1 bt325.2.1).bind fun t359 => (if t359 = true then (laws_FnExactSpendCredits.j0 k bt325.2.2 bt351.2.2 (bt351.2.2 != bt325.2.2) l0_0 l0_1 a1_0 a1_1 a1_2 a1_3 a1_4 a1_5 a1_6 l1_7 bt325.1 bt325.2.1 bt333.1 bt333.2 bt340.1 bt340.2.1 bt340.2.2.1 bt340.2.2.2.1 bt340.2.2.2.2.1 bt340.2.2.2.2.2.1 bt340.2.2.2.2.2.2.1 bt340.2.2.2.2.2.2.2 bt351.1 bt351.2.1) else (laws_FnExactSpendCredits.j0 k bt325.2.2 bt351.2.2 true l0_0 l0_1 a1_0 a1_1 a1_2 a1_3 a1_4 a1_5 a1_6 l1_7 bt325.1 bt325.2.1 bt333.1 bt333.2 bt340.1 bt340.2.1 bt340.2.2.1 bt340.2.2.2.1 bt340.2.2.2.2.1 bt340.2.2.2.2.2.1 bt340.2.2.2.2.2.2.1 bt340.2.2.2.2.2.2.2 bt351.1 bt351.2.1)))))))) = some r := H
 have A19 := Aside0.mk A190
 clear A190
 replace H := Option.bind_eq_some_iff.mp H
 obtain ⟨⟨t315, t316, t317, t318, t319, t320, t321, t322⟩, A200, H⟩ := H
 replace H : ((spec_SpendCredits.f k t309 t312 t315 t316 t317 t318 t319 t320 t321 t322).bind fun bt325 => ((laws_toCredits.f k l0_0 l0_1).bind fun bt333 => ((laws_toPacket.f k a1_0 a1_1 a1_2 a1_3 a1_4 a1_5 a1_6 l1_7).bind fun bt340 => ((impl_SpendCredits.f k bt333.1 bt333.2 bt340.1 bt340.2.1 bt340.2.2.1 bt340.2.2.2.1 bt340.2.2.2.2.1 bt340.2.2.2.2.2.1 bt340.2.2.2.2.2.2.1 bt340.2.2.2.2.2.2.2).bind fun bt351 => ((laws_eqCredits.f k bt351.1 bt351.2.1 bt325.1 bt325.2.1).bind fun t359 => (if t359 = true then (laws_FnExactSpendCredits.j0 k bt325.2.2 bt351.2.2 (bt351.2.2 != bt325.2.2) l0_0 l0_1 a1_0 a1_1 a1_2 a1_3 a1_4 a1_5 a1_6 l1_7 bt325.1 bt325.2.1 bt333.1 bt333.2 bt340.1 bt340.2.1 bt340.2.2.1 bt340.2.2.2.1 bt340.2.2.2.2.1 bt340.2.2.2.2.2.1 bt340.2.2.2.2.2.2.1 bt340.2.2.2.2.2.2.2 bt351.1 bt351.2.1) else (laws_FnExactSpendCredits.j0 k bt325.2.2 bt351.2.2 true l0_0 l0_1 a1_0 a1_1 a1_2 a1_3 a1_4 a1_5 a1_6 l1_7 bt325.1 bt325.2.1 bt333.1 bt333.2 bt340.1 bt340.2.1 bt340.2.2.1 bt340.2.2.2.1 bt340.2.2.2.2.1 bt340.2.2.2.2.2.1 bt340.2.2.2.2.2.2.1 bt340.2.2.2.2.2.2.2 bt351.1 bt351.2.1))))))) = some r := H
 have A20 := Aside0.mk A200
 clear A200
 replace H := Option.bind_eq_some_iff.mp H
 obtain ⟨⟨t325, t328, t331⟩, A210, H⟩ := H
 replace H : ((laws_toCredits.f k l0_0 l0_1).bind fun bt333 => ((laws_toPacket.f k a1_0 a1_1 a1_2 a1_3 a1_4 a1_5 a1_6 l1_7).bind fun bt340 => ((impl_SpendCredits.f k bt333.1 bt333.2 bt340.1 bt340.2.1 bt340.2.2.1 bt340.2.2.2.1 bt340.2.2.2.2.1 bt340.2.2.2.2.2.1 bt340.2.2.2.2.2.2.1 bt340.2.2.2.2.2.2.2).bind fun bt351 => ((laws_eqCredits.f k bt351.1 bt351.2.1 t325 t328).bind fun t359 => (if t359 = true then (laws_FnExactSpendCredits.j0 k t331 bt351.2.2 (bt351.2.2 != t331) l0_0 l0_1 a1_0 a1_1 a1_2 a1_3 a1_4 a1_5 a1_6 l1_7 t325 t328 bt333.1 bt333.2 bt340.1 bt340.2.1 bt340.2.2.1 bt340.2.2.2.1 bt340.2.2.2.2.1 bt340.2.2.2.2.2.1 bt340.2.2.2.2.2.2.1 bt340.2.2.2.2.2.2.2 bt351.1 bt351.2.1) else (laws_FnExactSpendCredits.j0 k t331 bt351.2.2 true l0_0 l0_1 a1_0 a1_1 a1_2 a1_3 a1_4 a1_5 a1_6 l1_7 t325 t328 bt333.1 bt333.2 bt340.1 bt340.2.1 bt340.2.2.1 bt340.2.2.2.1 bt340.2.2.2.2.1 bt340.2.2.2.2.2.1 bt340.2.2.2.2.2.2.1 bt340.2.2.2.2.2.2.2 bt351.1 bt351.2.1)))))) = some r := H
 have A21 := Aside0.mk A210
 clear A210
 replace H := Option.bind_eq_some_iff.mp H
 obtain ⟨⟨t333, t336⟩, A220, H⟩ := H
 replace H : ((laws_toPacket.f k a1_0 a1_1 a1_2 a1_3 a1_4 a1_5 a1_6 l1_7).bind fun bt340 => ((impl_SpendCredits.f k t333 t336 bt340.1 bt340.2.1 bt340.2.2.1 bt340.2.2.2.1 bt340.2.2.2.2.1 bt340.2.2.2.2.2.1 bt340.2.2.2.2.2.2.1 bt340.2.2.2.2.2.2.2).bind fun bt351 => ((laws_eqCredits.f k bt351.1 bt351.2.1 t325 t328).bind fun t359 => (if t359 = true then (laws_FnExactSpendCredits.j0 k t331 bt351.2.2 (bt351.2.2 != t331) l0_0 l0_1 a1_0 a1_1 a1_2 a1_3 a1_4 a1_5 a1_6 l1_7 t325 t328 t333 t336 bt340.1 bt340.2.1 bt340.2.2.1 bt340.2.2.2.1 bt340.2.2.2.2.1 bt340.2.2.2.2.2.1 bt340.2.2.2.2.2.2.1 bt340.2.2.2.2.2.2.2 bt351.1 bt351.2.1) else (laws_FnExactSpendCredits.j0 k t331 bt351.2.2 true l0_0 l0_1 a1_0 a1_1 a1_2 a1_3 a1_4 a1_5 a1_6 l1_7 t325 t328 t333 t336 bt340.1 bt340.2.1 bt340.2.2.1 bt340.2.2.2.1 bt340.2.2.2.2.1 bt340.2.2.2.2.2.1 bt340.2.2.2.2.2.2.1 bt340.2.2.2.2.2.2.2 bt351.1 bt351.2.1))))) = some r := H
 have A22 := Aside0.mk A220
 clear A220
 replace H := Option.bind_eq_some_iff.mp H
 obtain ⟨⟨t340, t341, t342, t343, t344, t345, t346, t347⟩, A230, H⟩ := H
 replace H : ((impl_SpendCredits.f k t333 t336 t340 t341 t342 t343 t344 t345 t346 t347).bind fun bt351 => ((laws_eqCredits.f k bt351.1 bt351.2.1 t325 t328).bind fun t359 => (if t359 = true then (laws_FnExactSpendCredits.j0 k t331 bt351.2.2 (bt351.2.2 != t331) l0_0 l0_1 a1_0 a1_1 a1_2 a1_3 a1_4 a1_5 a1_6 l1_7 t325 t328 t333 t336 t340 t341 t342 t343 t344 t345 t346 t347 bt351.1 bt351.2.1) else (laws_FnExactSpendCredits.j0 k t331 bt351.2.2 true l0_0 l0_1 a1_0 a1_1 a1_2 a1_3 a1_4 a1_5 a1_6 l1_7 t325 t328 t333 t336 t340 t341 t342 t343 t344 t345 t346 t347 bt351.1 bt351.2.1)))) = some r := H
 have A23 := Aside0.mk A230
 clear A230
 replace H := Option.bind_eq_some_iff.mp H
 obtain ⟨⟨t351, t354, t357⟩, A240, H⟩ := H
 replace H : ((laws_eqCredits.f k t351 t354 t325 t328).bind fun t359 => (if t359 = true then (laws_FnExactSpendCredits.j0 k t331 t357 (t357 != t331) l0_0 l0_1 a1_0 a1_1 a1_2 a1_3 a1_4 a1_5 a1_6 l1_7 t325 t328 t333 t336 t340 t341 t342 t343 t344 t345 t346 t347 t351 t354) else (laws_FnExactSpendCredits.j0 k t331 t357 true l0_0 l0_1 a1_0 a1_1 a1_2 a1_3 a1_4 a1_5 a1_6 l1_7 t325 t328 t333 t336 t340 t341 t342 t343 t344 t345 t346 t347 t351 t354))) = some r := H
 have A24 := Aside0.mk A240
 clear A240
 have HC25 := Aside0.mk H
 clear H
 go_enter Try.func13, Try.ntmps13
 try go_wp2_with (first | ((with_reducible refine gate_dst (N := 2) rfl ?_); refine box_event ?hg (N := 2) ?hd (cs := #[.slice A0_0 l0_0.length c0_0, .slice A0_1 l0_1.length c0_1]) (t := 24) ?hr ?_; (case hd => rfl); (case hg => rfl); (case hr => first | (go_simp; done) | (go_simp; rfl)); intro gb305 hg w26 hbox hb; have n0_ := Aside0.mk (below_step (beY HB.out) hb); have n1_ := Aside0.mk (hbox); have n2_ := Aside0.mk ((by rw [hg]; exact (below_size (beY HB.out)) : w.heap.size ≤ gb305)); have n3_ := Aside0.mk ((by rw [hg]; exact (below_size (beY HB.out)) : w.heap.size ≤ gb305)); clear HB; have HB := n0_; have BK305 := n1_; have GW305 := n2_; have GE305 := n3_; clear n0_ n1_ n2_ n3_; clear hb hbox hg) | ((with_reducible refine gate_dst (N := 3) rfl ?_); refine box_event ?hg (N := 3) ?hd (cs := #[.int .i64 a1_0, .int .i64 a1_1, .int .i64 a1_2, .int .i64 a1_3, .int .i64 a1_4, .int .i64 a1_5, .int .i64 a1_6, .slice A1_7 l1_7.length c1_7]) (t := 32) ?hr ?_; (case hd => rfl); (case hg => rfl); (case hr => first | (go_simp; done) | (go_simp; rfl)); intro gb306 hg w27 hbox hb; have n0_ := Aside0.mk (blk_below (bY BK305.out) hb); have n1_ := Aside0.mk (below_step (by repeat (first | (with_reducible first | exact HB.out | apply below_alloc | apply pw_below_drewN | apply below_drew1 | refine below_set ?_ GE305.out) | exact HB.out)) hb); have n2_ := Aside0.mk (hbox); have n3_ := Aside0.mk ((by rw [hg]; exact (below_size (by repeat (first | (with_reducible first | exact HB.out | apply below_alloc | apply pw_below_drewN | apply below_drew1 | refine below_set ?_ GE305.out) | exact HB.out))) : w.heap.size ≤ gb306)); have n4_ := Aside0.mk ((by rw [hg]; exact (below_size (by repeat (first | (with_reducible first | exact HB.out | apply below_alloc | apply pw_below_drewN | apply below_drew1 | refine below_set ?_ GE305.out) | exact HB.out))) : w.heap.size ≤ gb306)); have n5_ := Aside0.mk ((by rw [hg]; exact Nat.ne_of_lt (blk_lt (bY BK305.out)) : gb305 ≠ gb306)); have n6_ := Aside0.mk ((by rw [hg]; exact Nat.ne_of_gt (blk_lt (bY BK305.out)) : gb306 ≠ gb305)); clear BK305; clear HB; have BK305 := n0_; have HB := n1_; have BK306 := n2_; have GW306 := n3_; have GE306 := n4_; have NB305_306 := n5_; have NB306_305 := n6_; clear n0_ n1_ n2_ n3_ n4_ n5_ n6_; clear hb hbox hg; have hnb28 := NB305_306.out; have hnc28 := NB306_305.out; have hcz29_0 : w27.cell? ⟨gb305, 0, none⟩ = some (.slice A0_0 l0_0.length c0_0) := (blk_cell BK305.out 0).trans rfl; have hcz29_1 : w27.cell? ⟨gb305, 1, none⟩ = some (.slice A0_1 l0_1.length c0_1) := (blk_cell BK305.out 1).trans rfl; have hfz29_0 := blk_frozen BK305.out 0; have hfz29_1 := blk_frozen BK305.out 1) | ((with_reducible refine gate_callee (f := 15) rfl ?_); refine goesL_ (some 19) rfl rfl Try.func15 (by kernel_rfl) rfl #[.agg #[.slice A0_0 l0_0.length c0_0, .slice A0_1 l0_1.length c0_1], .int .i64 1048576] rfl (by (try simp only [List.map_toArray, List.map_cons, List.map_nil]); first | done | rfl) ?_; (with_reducible refine (laws_szCredits.calls _ _ l0_0 _ _ l0_1 1048576 t307 _ ?side1 ?side2 ?side3 ?side4 A3.out).mono ?_); (case side1 => exact cY ((Kd.C_below HR0_0.out HB.out))); (case side2 => exact HC0_0.out); (case side3 => exact cY ((Kd.C_below HR0_1.out HB.out))); (case side4 => exact HC0_1.out); rintro e w30 ⟨rfl, hb⟩; refine ⟨_, rfl, ?_⟩; have n0_ := Aside0.mk (blk_below (bY BK305.out) hb); have n1_ := Aside0.mk (blk_below (bY BK306.out) hb); have n2_ := Aside0.mk (below_step (by repeat (first | (with_reducible first | exact HB.out | apply below_alloc | apply pw_below_drewN | apply below_drew1 | refine below_set ?_ GE305.out | refine below_set ?_ GE306.out) | exact HB.out)) hb); clear BK305; clear BK306; clear HB; have BK305 := n0_; have BK306 := n1_; have HB := n2_; clear n0_ n1_ n2_; (try clear hb); (try clear hb2); (try clear hk); (try clear hi); have hcz31_0 : w30.cell? ⟨gb306, 0, none⟩ = some (.int .i64 a1_0) := (blk_cell BK306.out 0).trans rfl; have hcz31_1 : w30.cell? ⟨gb306, 1, none⟩ = some (.int .i64 a1_1) := (blk_cell BK306.out 1).trans rfl; have hcz31_2 : w30.cell? ⟨gb306, 2, none⟩ = some (.int .i64 a1_2) := (blk_cell BK306.out 2).trans rfl; have hcz31_3 : w30.cell? ⟨gb306, 3, none⟩ = some (.int .i64 a1_3) := (blk_cell BK306.out 3).trans rfl; have hcz31_4 : w30.cell? ⟨gb306, 4, none⟩ = some (.int .i64 a1_4) := (blk_cell BK306.out 4).trans rfl; have hcz31_5 : w30.cell? ⟨gb306, 5, none⟩ = some (.int .i64 a1_5) := (blk_cell BK306.out 5).trans rfl; have hcz31_6 : w30.cell? ⟨gb306, 6, none⟩ = some (.int .i64 a1_6) := (blk_cell BK306.out 6).trans rfl; have hcz31_7 : w30.cell? ⟨gb306, 7, none⟩ = some (.slice A1_7 l1_7.length c1_7) := (blk_cell BK306.out 7).trans rfl; have hfz31_0 := blk_frozen BK306.out 0; have hfz31_1 := blk_frozen BK306.out 1; have hfz31_2 := blk_frozen BK306.out 2; have hfz31_3 := blk_frozen BK306.out 3; have hfz31_4 := blk_frozen BK306.out 4; have hfz31_5 := blk_frozen BK306.out 5; have hfz31_6 := blk_frozen BK306.out 6; have hfz31_7 := blk_frozen BK306.out 7) | ((with_reducible refine gate_callee (f := 20) rfl ?_); refine goesL_ (some 24) rfl rfl Try.func20 (by kernel_rfl) rfl #[.agg #[.int .i64 a1_0, .int .i64 a1_1, .int .i64 a1_2, .int .i64 a1_3, .int .i64 a1_4, .int .i64 a1_5, .int .i64 a1_6, .slice A1_7 l1_7.length c1_7], .int .i64 t307] rfl (by (try simp only [List.map_toArray, List.map_cons, List.map_nil]); first | done | rfl) ?_; (with_reducible refine (laws_szPacket.calls a1_0 a1_1 a1_2 a1_3 a1_4 a1_5 a1_6 _ _ l1_7 t307 t308 _ ?side1 ?side2 A10.out).mono ?_); (case side1 => exact cY ((Kd.C_below HR1_7.out HB.out))); (case side2 => exact HC1_7.out); rintro e w32 ⟨rfl, hb⟩; refine ⟨_, rfl, ?_⟩; have n0_ := Aside0.mk (blk_below (bY BK305.out) hb); have n1_ := Aside0.mk (blk_below (bY BK306.out) hb); have n2_ := Aside0.mk (below_step (by repeat (first | (with_reducible first | exact HB.out | apply below_alloc | apply pw_below_drewN | apply below_drew1 | refine below_set ?_ GE305.out | refine below_set ?_ GE306.out) | exact HB.out)) hb); clear BK305; clear BK306; clear HB; have BK305 := n0_; have BK306 := n1_; have HB := n2_; clear n0_ n1_ n2_; (try clear hb); (try clear hb2); (try clear hk); (try clear hi)))
 have n0_ := Aside0.mk (blk_drew BK305.out)
 have n1_ := Aside0.mk (blk_drew BK306.out)
 have n2_ := Aside0.mk (below_drew1 HB.out)
 clear BK305
 clear BK306
 clear HB
 have BK305 := n0_
 have BK306 := n1_
 have HB := n2_
 clear n0_ n1_ n2_
 refine start_ (n := 11) (S := fun w' => w'.cell? ⟨gb305, 0, none⟩ = some (.slice A0_0 l0_0.length c0_0) ∧ w'.cell? ⟨gb305, 1, none⟩ = some (.slice A0_1 l0_1.length c0_1) ∧ w'.cell? ⟨gb306, 0, none⟩ = some (.int .i64 a1_0) ∧ w'.cell? ⟨gb306, 1, none⟩ = some (.int .i64 a1_1) ∧ w'.cell? ⟨gb306, 2, none⟩ = some (.int .i64 a1_2) ∧ w'.cell? ⟨gb306, 3, none⟩ = some (.int .i64 a1_3) ∧ w'.cell? ⟨gb306, 4, none⟩ = some (.int .i64 a1_4) ∧ w'.cell? ⟨gb306, 5, none⟩ = some (.int .i64 a1_5) ∧ w'.cell? ⟨gb306, 6, none⟩ = some (.int .i64 a1_6) ∧ w'.cell? ⟨gb306, 7, none⟩ = some (.slice A1_7 l1_7.length c1_7)) (ds := []) #[F, F, F, F, F, F, F, F, F, F, F] (by kernel_rfl) rfl rfl ⟨(blk_cell BK305.out 0).trans rfl, (blk_cell BK305.out 1).trans rfl, (blk_cell BK306.out 0).trans rfl, (blk_cell BK306.out 1).trans rfl, (blk_cell BK306.out 2).trans rfl, (blk_cell BK306.out 3).trans rfl, (blk_cell BK306.out 4).trans rfl, (blk_cell BK306.out 5).trans rfl, (blk_cell BK306.out 6).trans rfl, (blk_cell BK306.out 7).trans rfl⟩ (fun hHeld => ?_); refine with_tabW laws_FnExactSpendCredits.tab8 laws_FnExactSpendCredits.bits8 (fun HT_ HW_ => ?_)
 generalize w32.drew = w33 at BK305 BK306 HB hHeld ⊢
 refine take_ (i := 0) (N := some 28) (v := ?_) (a' := ?_) #[T, F, F, F, F, F, F, F, F, F, F] rfl rfl (take_ofW HT_.out HW_.out (by kernel_rfl)) (fun _ _ _ h => h) (Or.inl ⟨by rfl, ?_⟩) hHeld ?_ ?_
 rotate_left
 ·rintro w' ⟨s0, s1, s2, s3, s4, s5, s6, s7, s8, s9⟩
  go_simp
  with_reducible rfl
 rotate_left
 ·simp only [pS]
  rfl
 refine take_ (i := 2) (N := some 30) (v := ?_) (a' := ?_) #[T, F, T, F, F, F, F, F, F, F, F] rfl rfl (take_ofW HT_.out HW_.out (by kernel_rfl)) (fun _ _ _ h => h) (Or.inl ⟨by rfl, ?_⟩) hHeld ?_ ?_
 rotate_left
 ·rintro w' ⟨s0, s1, s2, s3, s4, s5, s6, s7, s8, s9⟩
  go_simp
  with_reducible rfl
 rotate_left
 ·simp only [pS]
  rfl
 refine join_ (σ := Value × Value × Value × Value × Value × Nat) 2 #[T, T, T, T, T, T, T, T, T, F, F] (fun s_ => [(29, .agg #[s_.1, s_.2.1]), (31, .agg #[.int .i64 t315, .int .i64 t316, .int .i64 t317, .int .i64 t318, .int .i64 t319, .int .i64 t320, .int .i64 t321, s_.2.2.1]), (32, .tuple #[.agg #[s_.2.2.2.1, s_.2.2.2.2.1], .bool t331]), (6, .pointer (some ⟨s_.2.2.2.2.2, 0, none⟩)), (27, .tuple #[.agg #[s_.2.2.2.1, s_.2.2.2.2.1], .bool t331]), (33, .agg #[s_.2.2.2.1, s_.2.2.2.2.1]), (34, .bool t331)]) (fun s_ w' => (w'.cell? ⟨gb305, 0, none⟩ = some (.slice A0_0 l0_0.length c0_0) ∧ w'.cell? ⟨gb305, 1, none⟩ = some (.slice A0_1 l0_1.length c0_1) ∧ w'.cell? ⟨gb306, 0, none⟩ = some (.int .i64 a1_0) ∧ w'.cell? ⟨gb306, 1, none⟩ = some (.int .i64 a1_1) ∧ w'.cell? ⟨gb306, 2, none⟩ = some (.int .i64 a1_2) ∧ w'.cell? ⟨gb306, 3, none⟩ = some (.int .i64 a1_3) ∧ w'.cell? ⟨gb306, 4, none⟩ = some (.int .i64 a1_4) ∧ w'.cell? ⟨gb306, 5, none⟩ = some (.int .i64 a1_5) ∧ w'.cell? ⟨gb306, 6, none⟩ = some (.int .i64 a1_6) ∧ w'.cell? ⟨gb306, 7, none⟩ = some (.slice A1_7 l1_7.length c1_7)) ∧ (Kd.R (Kd.int .i64) 3 w' w.heap.size (fun k_ => some k_ ≠ (s_.2.1 : Value).ownBlock ∧ some k_ ≠ (s_.2.2.1 : Value).ownBlock ∧ some k_ ≠ (s_.2.2.2.1 : Value).ownBlock ∧ some k_ ≠ (s_.2.2.2.2.1 : Value).ownBlock) s_.1 t309) ∧ (Kd.R (Kd.int .i64) 3 w' w.heap.size (fun k_ => some k_ ≠ (s_.1 : Value).ownBlock ∧ some k_ ≠ (s_.2.2.1 : Value).ownBlock ∧ some k_ ≠ (s_.2.2.2.1 : Value).ownBlock ∧ some k_ ≠ (s_.2.2.2.2.1 : Value).ownBlock) s_.2.1 t312) ∧ (Kd.R (Kd.int .i64) 3 w' w.heap.size (fun k_ => some k_ ≠ (s_.1 : Value).ownBlock ∧ some k_ ≠ (s_.2.1 : Value).ownBlock ∧ some k_ ≠ (s_.2.2.2.1 : Value).ownBlock ∧ some k_ ≠ (s_.2.2.2.2.1 : Value).ownBlock) s_.2.2.1 t322) ∧ (Kd.R (Kd.int .i64) 3 w' w.heap.size (fun k_ => some k_ ≠ (s_.1 : Value).ownBlock ∧ some k_ ≠ (s_.2.1 : Value).ownBlock ∧ some k_ ≠ (s_.2.2.1 : Value).ownBlock ∧ some k_ ≠ (s_.2.2.2.2.1 : Value).ownBlock) s_.2.2.2.1 t325) ∧ (Kd.R (Kd.int .i64) 3 w' w.heap.size (fun k_ => some k_ ≠ (s_.1 : Value).ownBlock ∧ some k_ ≠ (s_.2.1 : Value).ownBlock ∧ some k_ ≠ (s_.2.2.1 : Value).ownBlock ∧ some k_ ≠ (s_.2.2.2.1 : Value).ownBlock) s_.2.2.2.2.1 t328) ∧ (w'.heap[gb305]? = some (.cells #[.slice A0_0 l0_0.length c0_0, .slice A0_1 l0_1.length c0_1] 24 (0, 0))) ∧ (w'.heap[gb306]? = some (.cells #[.int .i64 a1_0, .int .i64 a1_1, .int .i64 a1_2, .int .i64 a1_3, .int .i64 a1_4, .int .i64 a1_5, .int .i64 a1_6, .slice A1_7 l1_7.length c1_7] 32 (0, 0))) ∧ (w'.heap[s_.2.2.2.2.2]? = some (.cells #[.slice none 0 0, .slice none 0 0] 27 (0, 0))) ∧ (w.heap.size ≤ s_.2.2.2.2.2) ∧ (w.heap.size ≤ s_.2.2.2.2.2) ∧ (gb305 ≠ s_.2.2.2.2.2) ∧ (s_.2.2.2.2.2 ≠ gb305) ∧ (gb306 ≠ s_.2.2.2.2.2) ∧ (s_.2.2.2.2.2 ≠ gb306) ∧ (Below w.heap.size w w')) ?_ ?_
 rotate_left
 ·intro hCont
  refine two_ (i := 1) (j := 8) (Ni := some 29) (Nj := some 6) #[T, T, T, F, F, F, F, F, F, F, F] #[T, F, T, F, F, F, F, F, T, F, F] rfl rfl rfl rfl (two_of HT_.out (by kernel_rfl)) (by decide) (by decide) (fun K hK => ?_) (fun K hK => ?_)
  ·skip
   refine goes_ Try.func17 (by kernel_rfl) rfl #[.agg #[.slice A0_0 l0_0.length c0_0, .slice A0_1 l0_1.length c0_1]] (by rfl) rfl rfl (by (try simp only [List.map_toArray, List.map_cons, List.map_nil]); first | done | rfl) ?_
   with_reducible refine (laws_toCredits.calls k _ _ l0_0 _ _ l0_1 t309 t312 _ ?side1 ?side2 ?side3 ?side4 A19.out).mono ?_
   (case side1 => exact cY ((Kd.C_below HR0_0.out HB.out)))
   (case side2 => exact HC0_0.out)
   (case side3 => exact cY ((Kd.C_below HR0_1.out HB.out)))
   (case side4 => exact HC0_1.out)
   rintro e w34 ⟨v310, v313, rfl, ho0, ho1, hb⟩
   refine ⟨_, rfl, ?_⟩
   have n0_ := Aside0.mk (Kd.R_lower ho0 (below_size (by repeat (first | (with_reducible first | exact HB.out | apply below_alloc | apply pw_below_drewN | apply below_drew1 | refine below_set ?_ GE305.out | refine below_set ?_ GE306.out) | exact HB.out))))
   have n1_ := Aside0.mk (Kd.R_lower ho1 (below_size (by repeat (first | (with_reducible first | exact HB.out | apply below_alloc | apply pw_below_drewN | apply below_drew1 | refine below_set ?_ GE305.out | refine below_set ?_ GE306.out) | exact HB.out))))
   have n2_ := Aside0.mk (blk_below (bY BK305.out) hb)
   have n3_ := Aside0.mk (blk_below (bY BK306.out) hb)
   have n4_ := Aside0.mk (below_step (by repeat (first | (with_reducible first | exact HB.out | apply below_alloc | apply pw_below_drewN | apply below_drew1 | refine below_set ?_ GE305.out | refine below_set ?_ GE306.out) | exact HB.out)) hb)
   clear BK305
   clear BK306
   clear HB
   have HO311 := n0_
   have HO314 := n1_
   have BK305 := n2_
   have BK306 := n3_
   have HB := n4_
   clear n0_ n1_ n2_ n3_ n4_
   refine hK.out _ _ ⟨(blk_cell BK305.out 0).trans rfl, (blk_cell BK305.out 1).trans rfl, (blk_cell BK306.out 0).trans rfl, (blk_cell BK306.out 1).trans rfl, (blk_cell BK306.out 2).trans rfl, (blk_cell BK306.out 3).trans rfl, (blk_cell BK306.out 4).trans rfl, (blk_cell BK306.out 5).trans rfl, (blk_cell BK306.out 6).trans rfl, (blk_cell BK306.out 7).trans rfl⟩ (fun hHeld => ?_)
   clear hK K
   refine norm_ (a' := ?_) ?_ ?_
   rotate_left
   ·show Act.put _ (some 29) _ = _
    simp only [pS]
    rfl
   refine two_ (i := 3) (j := 8) (Ni := some 31) (Nj := some 6) #[T, T, T, T, F, F, F, F, F, F, F] #[T, T, T, F, F, F, F, F, T, F, F] rfl rfl rfl rfl (two_of HT_.out (by kernel_rfl)) (by decide) (by decide) (fun K hK => ?_) (fun K hK => ?_)
   ·skip
    refine goes_ Try.func22 (by kernel_rfl) rfl #[.agg #[.int .i64 a1_0, .int .i64 a1_1, .int .i64 a1_2, .int .i64 a1_3, .int .i64 a1_4, .int .i64 a1_5, .int .i64 a1_6, .slice A1_7 l1_7.length c1_7]] (by rfl) rfl rfl (by (try simp only [List.map_toArray, List.map_cons, List.map_nil]); first | done | rfl) ?_
    with_reducible refine (laws_toPacket.calls k a1_0 a1_1 a1_2 a1_3 a1_4 a1_5 a1_6 _ _ l1_7 t315 t316 t317 t318 t319 t320 t321 t322 _ ?side1 ?side2 A20.out).mono ?_
    (case side1 => exact cY ((Kd.C_below HR1_7.out HB.out)))
    (case side2 => exact HC1_7.out)
    rintro e w35 ⟨v323, rfl, ho0, hb⟩
    refine ⟨_, rfl, ?_⟩
    have n0_ := Aside0.mk (Kd.R_elder' (rY HO311.out) (Kd.R_base ho0) hb)
    have n1_ := Aside0.mk (Kd.R_elder' (rY HO314.out) (Kd.R_base ho0) hb)
    have n2_ := Aside0.mk (Kd.R_lower (Kd.R_new' (Kd.R_new' ho0 (Kd.R_lt (rY HO311.out))) (Kd.R_lt (rY HO314.out))) (below_size (by repeat (first | (with_reducible first | exact HB.out | apply below_alloc | apply pw_below_drewN | apply below_drew1 | refine below_set ?_ GE305.out | refine below_set ?_ GE306.out) | exact HB.out))))
    have n3_ := Aside0.mk (blk_below (bY BK305.out) hb)
    have n4_ := Aside0.mk (blk_below (bY BK306.out) hb)
    have n5_ := Aside0.mk (below_step (by repeat (first | (with_reducible first | exact HB.out | apply below_alloc | apply pw_below_drewN | apply below_drew1 | refine below_set ?_ GE305.out | refine below_set ?_ GE306.out) | exact HB.out)) hb)
    clear HO311
    clear HO314
    clear BK305
    clear BK306
    clear HB
    have HO311 := n0_
    have HO314 := n1_
    have HO324 := n2_
    have BK305 := n3_
    have BK306 := n4_
    have HB := n5_
    clear n0_ n1_ n2_ n3_ n4_ n5_
    obtain ⟨Ao36, co36, eo36⟩ := Kd.R_slice HO311.out
    (first | subst eo36 | (injection eo36 with f1_ f2_ f3_; have f4_ := f1_.symm; have f5_ := f3_.symm; clear f1_ f2_ f3_; subst f4_; subst f5_))
    obtain ⟨Ao37, co37, eo37⟩ := Kd.R_slice HO314.out
    (first | subst eo37 | (injection eo37 with f1_ f2_ f3_; have f4_ := f1_.symm; have f5_ := f3_.symm; clear f1_ f2_ f3_; subst f4_; subst f5_))
    obtain ⟨Ao38, co38, eo38⟩ := Kd.R_slice HO324.out
    (first | subst eo38 | (injection eo38 with f1_ f2_ f3_; have f4_ := f1_.symm; have f5_ := f3_.symm; clear f1_ f2_ f3_; subst f4_; subst f5_))
    refine hK.out _ _ ⟨(blk_cell BK305.out 0).trans rfl, (blk_cell BK305.out 1).trans rfl, (blk_cell BK306.out 0).trans rfl, (blk_cell BK306.out 1).trans rfl, (blk_cell BK306.out 2).trans rfl, (blk_cell BK306.out 3).trans rfl, (blk_cell BK306.out 4).trans rfl, (blk_cell BK306.out 5).trans rfl, (blk_cell BK306.out 6).trans rfl, (blk_cell BK306.out 7).trans rfl⟩ (fun hHeld => ?_)
    clear hK K
    refine norm_ (a' := ?_) ?_ ?_
    rotate_left
    ·show Act.put _ (some 31) _ = _
     simp only [pS]
     rfl
    refine two_ (i := 4) (j := 8) (Ni := some 32) (Nj := some 6) #[T, T, T, T, T, F, F, F, F, F, F] #[T, T, T, T, F, F, F, F, T, F, F] rfl rfl rfl rfl (two_of HT_.out (by kernel_rfl)) (by decide) (by decide) (fun K hK => ?_) (fun K hK => ?_)
    ·skip
     refine goes_ Try.func60 (by kernel_rfl) rfl #[.agg #[.slice Ao36 t309.length co36, .slice Ao37 t312.length co37], .agg #[.int .i64 t315, .int .i64 t316, .int .i64 t317, .int .i64 t318, .int .i64 t319, .int .i64 t320, .int .i64 t321, .slice Ao38 t322.length co38]] (by rfl) rfl rfl (by (try simp only [List.map_toArray, List.map_cons, List.map_nil]); first | done | rfl) ?_
     with_reducible refine (spec_SpendCredits.calls k _ _ t309 _ _ t312 t315 t316 t317 t318 t319 t320 t321 _ _ t322 t325 t328 t331 _ ?side1 ?side2 ?side3 ?side4 ?side5 ?side6 A21.out).mono ?_
     (case side1 => exact cY ((Kd.R_reads' HO311.out).2.2))
     (case side2 => exact (Kd.R_reads' HO311.out).2.1)
     (case side3 => exact cY ((Kd.R_reads' HO314.out).2.2))
     (case side4 => exact (Kd.R_reads' HO314.out).2.1)
     (case side5 => exact cY ((Kd.R_reads' HO324.out).2.2))
     (case side6 => exact (Kd.R_reads' HO324.out).2.1)
     rintro e w39 ⟨v326, v329, rfl, ho0, ho1, hb⟩
     refine ⟨_, rfl, ?_⟩
     have n0_ := Aside0.mk (Kd.R_mono (Kd.R_told (Kd.R_told (Kd.R_old (rY HO311.out) hb) (Kd.R_base ho0)) (Kd.R_base ho1)) (fun _ h_ => h_.1))
     have n1_ := Aside0.mk (Kd.R_mono (Kd.R_told (Kd.R_told (Kd.R_old (rY HO314.out) hb) (Kd.R_base ho0)) (Kd.R_base ho1)) (fun _ h_ => h_.1))
     have n2_ := Aside0.mk (Kd.R_mono (Kd.R_told (Kd.R_told (Kd.R_old (rY HO324.out) hb) (Kd.R_base ho0)) (Kd.R_base ho1)) (fun _ h_ => h_.1))
     have n3_ := Aside0.mk (Kd.R_lower (Kd.R_new' (Kd.R_new' (Kd.R_new' ho0 (Kd.R_lt (rY HO311.out))) (Kd.R_lt (rY HO314.out))) (Kd.R_lt (rY HO324.out))) (below_size (by repeat (first | (with_reducible first | exact HB.out | apply below_alloc | apply pw_below_drewN | apply below_drew1 | refine below_set ?_ GE305.out | refine below_set ?_ GE306.out) | exact HB.out))))
     have n4_ := Aside0.mk (Kd.R_lower (Kd.R_new' (Kd.R_new' (Kd.R_new' ho1 (Kd.R_lt (rY HO311.out))) (Kd.R_lt (rY HO314.out))) (Kd.R_lt (rY HO324.out))) (below_size (by repeat (first | (with_reducible first | exact HB.out | apply below_alloc | apply pw_below_drewN | apply below_drew1 | refine below_set ?_ GE305.out | refine below_set ?_ GE306.out) | exact HB.out))))
     have n5_ := Aside0.mk (blk_below (bY BK305.out) hb)
     have n6_ := Aside0.mk (blk_below (bY BK306.out) hb)
     have n7_ := Aside0.mk (below_step (by repeat (first | (with_reducible first | exact HB.out | apply below_alloc | apply pw_below_drewN | apply below_drew1 | refine below_set ?_ GE305.out | refine below_set ?_ GE306.out) | exact HB.out)) hb)
     clear HO311
     clear HO314
     clear HO324
     clear BK305
     clear BK306
     clear HB
     have HO311 := n0_
     have HO314 := n1_
     have HO324 := n2_
     have HO327 := n3_
     have HO330 := n4_
     have BK305 := n5_
     have BK306 := n6_
     have HB := n7_
     clear n0_ n1_ n2_ n3_ n4_ n5_ n6_ n7_
     refine hK.out _ _ ⟨(blk_cell BK305.out 0).trans rfl, (blk_cell BK305.out 1).trans rfl, (blk_cell BK306.out 0).trans rfl, (blk_cell BK306.out 1).trans rfl, (blk_cell BK306.out 2).trans rfl, (blk_cell BK306.out 3).trans rfl, (blk_cell BK306.out 4).trans rfl, (blk_cell BK306.out 5).trans rfl, (blk_cell BK306.out 6).trans rfl, (blk_cell BK306.out 7).trans rfl⟩ (fun hHeld => ?_)
     clear hK K
     refine norm_ (a' := ?_) ?_ ?_
     rotate_left
     ·show Act.put _ (some 32) _ = _
      simp only [pS]
      rfl
     refine pure_ (i := 5) (N := some 27) (v := ?_) (a' := ?_) #[T, T, T, T, T, T, F, F, F, F, F] rfl rfl (any_of HT_.out (by kernel_rfl)) (fun _ _ _ h => h) (Or.inl ⟨by rfl, ?_⟩) ?_ ?_
     rotate_left
     ·intro w'
      go_simp
      with_reducible rfl
     rotate_left
     ·simp only [pS]
      rfl
     refine pure_ (i := 6) (N := some 33) (v := ?_) (a' := ?_) #[T, T, T, T, T, T, T, F, F, F, F] rfl rfl (any_of HT_.out (by kernel_rfl)) (fun _ _ _ h => h) (Or.inl ⟨by rfl, ?_⟩) ?_ ?_
     rotate_left
     ·intro w'
      go_simp
      with_reducible rfl
     rotate_left
     ·simp only [pS]
      rfl
     refine pure_ (i := 7) (N := some 34) (v := ?_) (a' := ?_) #[T, T, T, T, T, T, T, T, F, F, F] rfl rfl (any_of HT_.out (by kernel_rfl)) (fun _ _ _ h => h) (Or.inl ⟨by rfl, ?_⟩) ?_ ?_
     rotate_left
     ·intro w'
      go_simp
      with_reducible rfl
     rotate_left
     ·simp only [pS]
      rfl
     refine one_ (i := 8) (N := some 6) #[T, T, T, T, T, T, T, T, T, F, F] rfl rfl (one_of HT_.out (by kernel_rfl)) (by decide) (fun K hK => ?_)
     refine box_step ?hg (N := 6) ?hd (cs := #[.slice none 0 0, .slice none 0 0]) (t := 27) ?hr ?_; (case hd => rfl); (case hg => rfl); (case hr => first | (go_simp; done) | (go_simp; rfl))
     intro gb332 hg w40 hbox hb
     have n0_ := Aside0.mk (Kd.R_below (rY HO311.out) hb)
     have n1_ := Aside0.mk (Kd.R_below (rY HO314.out) hb)
     have n2_ := Aside0.mk (Kd.R_below (rY HO324.out) hb)
     have n3_ := Aside0.mk (Kd.R_below (rY HO327.out) hb)
     have n4_ := Aside0.mk (Kd.R_below (rY HO330.out) hb)
     have n5_ := Aside0.mk (blk_below (bY BK305.out) hb)
     have n6_ := Aside0.mk (blk_below (bY BK306.out) hb)
     have n7_ := Aside0.mk (below_step (by repeat (first | (with_reducible first | exact HB.out | apply below_alloc | apply pw_below_drewN | apply below_drew1 | refine below_set ?_ GE305.out | refine below_set ?_ GE306.out) | exact HB.out)) hb)
     have n8_ := Aside0.mk (hbox)
     have n9_ := Aside0.mk ((by rw [hg]; exact (below_size (by repeat (first | (with_reducible first | exact HB.out | apply below_alloc | apply pw_below_drewN | apply below_drew1 | refine below_set ?_ GE305.out | refine below_set ?_ GE306.out) | exact HB.out))) : w.heap.size ≤ gb332))
     have n10_ := Aside0.mk ((by rw [hg]; exact (below_size (by repeat (first | (with_reducible first | exact HB.out | apply below_alloc | apply pw_below_drewN | apply below_drew1 | refine below_set ?_ GE305.out | refine below_set ?_ GE306.out) | exact HB.out))) : w.heap.size ≤ gb332))
     have n11_ := Aside0.mk ((by rw [hg]; exact Nat.ne_of_lt (blk_lt (bY BK305.out)) : gb305 ≠ gb332))
     have n12_ := Aside0.mk ((by rw [hg]; exact Nat.ne_of_gt (blk_lt (bY BK305.out)) : gb332 ≠ gb305))
     have n13_ := Aside0.mk ((by rw [hg]; exact Nat.ne_of_lt (blk_lt (bY BK306.out)) : gb306 ≠ gb332))
     have n14_ := Aside0.mk ((by rw [hg]; exact Nat.ne_of_gt (blk_lt (bY BK306.out)) : gb332 ≠ gb306))
     clear HO311
     clear HO314
     clear HO324
     clear HO327
     clear HO330
     clear BK305
     clear BK306
     clear HB
     have HO311 := n0_
     have HO314 := n1_
     have HO324 := n2_
     have HO327 := n3_
     have HO330 := n4_
     have BK305 := n5_
     have BK306 := n6_
     have HB := n7_
     have BK332 := n8_
     have GW332 := n9_
     have GE332 := n10_
     have NB305_332 := n11_
     have NB332_305 := n12_
     have NB306_332 := n13_
     have NB332_306 := n14_
     clear n0_ n1_ n2_ n3_ n4_ n5_ n6_ n7_ n8_ n9_ n10_ n11_ n12_ n13_ n14_
     clear hb hbox hg
     refine hK.out _ _ ⟨(blk_cell BK305.out 0).trans rfl, (blk_cell BK305.out 1).trans rfl, (blk_cell BK306.out 0).trans rfl, (blk_cell BK306.out 1).trans rfl, (blk_cell BK306.out 2).trans rfl, (blk_cell BK306.out 3).trans rfl, (blk_cell BK306.out 4).trans rfl, (blk_cell BK306.out 5).trans rfl, (blk_cell BK306.out 6).trans rfl, (blk_cell BK306.out 7).trans rfl⟩ (fun hHeld => ?_)
     clear hK K
     refine norm_ (a' := ?_) ?_ ?_
     rotate_left
     ·show Act.put _ (some 6) _ = _
      simp only [pS]
      rfl
     exact norm_ (by simp only [putAll, Act.put, List.setIfInBounds_toArray, List.set_cons_zero, List.set_cons_succ]) (hCont (.slice Ao36 t309.length co36, .slice Ao37 t312.length co37, .slice Ao38 t322.length co38, v326, v329, gb332) _ ⟨hHeld, (by (repeat apply rX); exact Kd.R_mono HO311.out (fun _ hk => ⟨hk.1.1.1, ⟨hk.1.1.2, ⟨hk.1.2, hk.2⟩⟩⟩)), (by (repeat apply rX); exact Kd.R_mono HO314.out (fun _ hk => ⟨hk.1.1.1, ⟨hk.1.1.2, ⟨hk.1.2, hk.2⟩⟩⟩)), (by (repeat apply rX); exact Kd.R_mono HO324.out (fun _ hk => ⟨hk.1.1.1.2, ⟨hk.1.1.2, ⟨hk.1.2, hk.2⟩⟩⟩)), (by (repeat apply rX); exact Kd.R_mono HO327.out (fun _ hk => ⟨hk.1.1.2, ⟨hk.1.2, ⟨hk.2, hk.1.1.1⟩⟩⟩)), (by (repeat apply rX); exact Kd.R_mono HO330.out (fun _ hk => ⟨hk.1.1.2, ⟨hk.1.2, ⟨hk.2, hk.1.1.1⟩⟩⟩)), (bY BK305.out), (bY BK306.out), (bY BK332.out), GW332.out, GE332.out, NB305_332.out, NB332_305.out, NB306_332.out, NB332_306.out, (by repeat (first | (with_reducible first | exact HB.out | apply below_alloc | apply pw_below_drewN | apply below_drew1 | refine below_set ?_ GE305.out | refine below_set ?_ GE306.out | refine below_set ?_ GE332.out) | exact HB.out))⟩)
    ·skip
     refine box_step ?hg (N := 6) ?hd (cs := #[.slice none 0 0, .slice none 0 0]) (t := 27) ?hr ?_; (case hd => rfl); (case hg => rfl); (case hr => first | (go_simp; done) | (go_simp; rfl))
     intro gb332 hg w36 hbox hb
     have n0_ := Aside0.mk (Kd.R_below (rY HO311.out) hb)
     have n1_ := Aside0.mk (Kd.R_below (rY HO314.out) hb)
     have n2_ := Aside0.mk (Kd.R_below (rY HO324.out) hb)
     have n3_ := Aside0.mk (blk_below (bY BK305.out) hb)
     have n4_ := Aside0.mk (blk_below (bY BK306.out) hb)
     have n5_ := Aside0.mk (below_step (by repeat (first | (with_reducible first | exact HB.out | apply below_alloc | apply pw_below_drewN | apply below_drew1 | refine below_set ?_ GE305.out | refine below_set ?_ GE306.out) | exact HB.out)) hb)
     have n6_ := Aside0.mk (hbox)
     have n7_ := Aside0.mk ((by rw [hg]; exact (below_size (by repeat (first | (with_reducible first | exact HB.out | apply below_alloc | apply pw_below_drewN | apply below_drew1 | refine below_set ?_ GE305.out | refine below_set ?_ GE306.out) | exact HB.out))) : w.heap.size ≤ gb332))
     have n8_ := Aside0.mk ((by rw [hg]; exact (below_size (by repeat (first | (with_reducible first | exact HB.out | apply below_alloc | apply pw_below_drewN | apply below_drew1 | refine below_set ?_ GE305.out | refine below_set ?_ GE306.out) | exact HB.out))) : w.heap.size ≤ gb332))
     have n9_ := Aside0.mk ((by rw [hg]; exact Nat.ne_of_lt (blk_lt (bY BK305.out)) : gb305 ≠ gb332))
     have n10_ := Aside0.mk ((by rw [hg]; exact Nat.ne_of_gt (blk_lt (bY BK305.out)) : gb332 ≠ gb305))
     have n11_ := Aside0.mk ((by rw [hg]; exact Nat.ne_of_lt (blk_lt (bY BK306.out)) : gb306 ≠ gb332))
     have n12_ := Aside0.mk ((by rw [hg]; exact Nat.ne_of_gt (blk_lt (bY BK306.out)) : gb332 ≠ gb306))
     clear HO311
     clear HO314
     clear HO324
     clear BK305
     clear BK306
     clear HB
     have HO311 := n0_
     have HO314 := n1_
     have HO324 := n2_
     have BK305 := n3_
     have BK306 := n4_
     have HB := n5_
     have BK332 := n6_
     have GW332 := n7_
     have GE332 := n8_
     have NB305_332 := n9_
     have NB332_305 := n10_
     have NB306_332 := n11_
     have NB332_306 := n12_
     clear n0_ n1_ n2_ n3_ n4_ n5_ n6_ n7_ n8_ n9_ n10_ n11_ n12_
     clear hb hbox hg
     obtain ⟨Ao37, co37, eo37⟩ := Kd.R_slice HO311.out
     (first | subst eo37 | (injection eo37 with f1_ f2_ f3_; have f4_ := f1_.symm; have f5_ := f3_.symm; clear f1_ f2_ f3_; subst f4_; subst f5_))
     obtain ⟨Ao38, co38, eo38⟩ := Kd.R_slice HO314.out
     (first | subst eo38 | (injection eo38 with f1_ f2_ f3_; have f4_ := f1_.symm; have f5_ := f3_.symm; clear f1_ f2_ f3_; subst f4_; subst f5_))
     obtain ⟨Ao39, co39, eo39⟩ := Kd.R_slice HO324.out
     (first | subst eo39 | (injection eo39 with f1_ f2_ f3_; have f4_ := f1_.symm; have f5_ := f3_.symm; clear f1_ f2_ f3_; subst f4_; subst f5_))
     refine hK.out _ _ ⟨(blk_cell BK305.out 0).trans rfl, (blk_cell BK305.out 1).trans rfl, (blk_cell BK306.out 0).trans rfl, (blk_cell BK306.out 1).trans rfl, (blk_cell BK306.out 2).trans rfl, (blk_cell BK306.out 3).trans rfl, (blk_cell BK306.out 4).trans rfl, (blk_cell BK306.out 5).trans rfl, (blk_cell BK306.out 6).trans rfl, (blk_cell BK306.out 7).trans rfl⟩ (fun hHeld => ?_)
     clear hK K
     refine norm_ (a' := ?_) ?_ ?_
     rotate_left
     ·show Act.put _ (some 6) _ = _
      simp only [pS]
      rfl
     refine one_ (i := 4) (N := some 32) #[T, T, T, T, T, F, F, F, T, F, F] rfl rfl (one_of HT_.out (by kernel_rfl)) (by decide) (fun K hK => ?_)
     refine goes_ Try.func60 (by kernel_rfl) rfl #[.agg #[.slice Ao37 t309.length co37, .slice Ao38 t312.length co38], .agg #[.int .i64 t315, .int .i64 t316, .int .i64 t317, .int .i64 t318, .int .i64 t319, .int .i64 t320, .int .i64 t321, .slice Ao39 t322.length co39]] (by rfl) rfl rfl (by (try simp only [List.map_toArray, List.map_cons, List.map_nil]); first | done | rfl) ?_
     with_reducible refine (spec_SpendCredits.calls k _ _ t309 _ _ t312 t315 t316 t317 t318 t319 t320 t321 _ _ t322 t325 t328 t331 _ ?side1 ?side2 ?side3 ?side4 ?side5 ?side6 A21.out).mono ?_
     (case side1 => exact cY ((Kd.R_reads' HO311.out).2.2))
     (case side2 => exact (Kd.R_reads' HO311.out).2.1)
     (case side3 => exact cY ((Kd.R_reads' HO314.out).2.2))
     (case side4 => exact (Kd.R_reads' HO314.out).2.1)
     (case side5 => exact cY ((Kd.R_reads' HO324.out).2.2))
     (case side6 => exact (Kd.R_reads' HO324.out).2.1)
     rintro e w40 ⟨v326, v329, rfl, ho0, ho1, hb⟩
     refine ⟨_, rfl, ?_⟩
     have n0_ := Aside0.mk (Kd.R_mono (Kd.R_told (Kd.R_told (Kd.R_old (rY HO311.out) hb) (Kd.R_base ho0)) (Kd.R_base ho1)) (fun _ h_ => h_.1))
     have n1_ := Aside0.mk (Kd.R_mono (Kd.R_told (Kd.R_told (Kd.R_old (rY HO314.out) hb) (Kd.R_base ho0)) (Kd.R_base ho1)) (fun _ h_ => h_.1))
     have n2_ := Aside0.mk (Kd.R_mono (Kd.R_told (Kd.R_told (Kd.R_old (rY HO324.out) hb) (Kd.R_base ho0)) (Kd.R_base ho1)) (fun _ h_ => h_.1))
     have n3_ := Aside0.mk (Kd.R_lower (Kd.R_new' (Kd.R_new' (Kd.R_new' ho0 (Kd.R_lt (rY HO311.out))) (Kd.R_lt (rY HO314.out))) (Kd.R_lt (rY HO324.out))) (below_size (by repeat (first | (with_reducible first | exact HB.out | apply below_alloc | apply pw_below_drewN | apply below_drew1 | refine below_set ?_ GE305.out | refine below_set ?_ GE306.out | refine below_set ?_ GE332.out) | exact HB.out))))
     have n4_ := Aside0.mk (Kd.R_lower (Kd.R_new' (Kd.R_new' (Kd.R_new' ho1 (Kd.R_lt (rY HO311.out))) (Kd.R_lt (rY HO314.out))) (Kd.R_lt (rY HO324.out))) (below_size (by repeat (first | (with_reducible first | exact HB.out | apply below_alloc | apply pw_below_drewN | apply below_drew1 | refine below_set ?_ GE305.out | refine below_set ?_ GE306.out | refine below_set ?_ GE332.out) | exact HB.out))))
     have n5_ := Aside0.mk (blk_below (bY BK305.out) hb)
     have n6_ := Aside0.mk (blk_below (bY BK306.out) hb)
     have n7_ := Aside0.mk (blk_below (bY BK332.out) hb)
     have n8_ := Aside0.mk (below_step (by repeat (first | (with_reducible first | exact HB.out | apply below_alloc | apply pw_below_drewN | apply below_drew1 | refine below_set ?_ GE305.out | refine below_set ?_ GE306.out | refine below_set ?_ GE332.out) | exact HB.out)) hb)
     clear HO311
     clear HO314
     clear HO324
     clear BK305
     clear BK306
     clear BK332
     clear HB
     have HO311 := n0_
     have HO314 := n1_
     have HO324 := n2_
     have HO327 := n3_
     have HO330 := n4_
     have BK305 := n5_
     have BK306 := n6_
     have BK332 := n7_
     have HB := n8_
     clear n0_ n1_ n2_ n3_ n4_ n5_ n6_ n7_ n8_
     refine hK.out _ _ ⟨(blk_cell BK305.out 0).trans rfl, (blk_cell BK305.out 1).trans rfl, (blk_cell BK306.out 0).trans rfl, (blk_cell BK306.out 1).trans rfl, (blk_cell BK306.out 2).trans rfl, (blk_cell BK306.out 3).trans rfl, (blk_cell BK306.out 4).trans rfl, (blk_cell BK306.out 5).trans rfl, (blk_cell BK306.out 6).trans rfl, (blk_cell BK306.out 7).trans rfl⟩ (fun hHeld => ?_)
     clear hK K
     refine norm_ (a' := ?_) ?_ ?_
     rotate_left
     ·show Act.put _ (some 32) _ = _
      simp only [pS]
      rfl
     refine pure_ (i := 5) (N := some 27) (v := ?_) (a' := ?_) #[T, T, T, T, T, T, F, F, T, F, F] rfl rfl (any_of HT_.out (by kernel_rfl)) (fun _ _ _ h => h) (Or.inl ⟨by rfl, ?_⟩) ?_ ?_
     rotate_left
     ·intro w'
      go_simp
      with_reducible rfl
     rotate_left
     ·simp only [pS]
      rfl
     refine pure_ (i := 6) (N := some 33) (v := ?_) (a' := ?_) #[T, T, T, T, T, T, T, F, T, F, F] rfl rfl (any_of HT_.out (by kernel_rfl)) (fun _ _ _ h => h) (Or.inl ⟨by rfl, ?_⟩) ?_ ?_
     rotate_left
     ·intro w'
      go_simp
      with_reducible rfl
     rotate_left
     ·simp only [pS]
      rfl
     refine pure_ (i := 7) (N := some 34) (v := ?_) (a' := ?_) #[T, T, T, T, T, T, T, T, T, F, F] rfl rfl (any_of HT_.out (by kernel_rfl)) (fun _ _ _ h => h) (Or.inl ⟨by rfl, ?_⟩) ?_ ?_
     rotate_left
     ·intro w'
      go_simp
      with_reducible rfl
     rotate_left
     ·simp only [pS]
      rfl
     exact norm_ (by simp only [putAll, Act.put, List.setIfInBounds_toArray, List.set_cons_zero, List.set_cons_succ]) (hCont (.slice Ao37 t309.length co37, .slice Ao38 t312.length co38, .slice Ao39 t322.length co39, v326, v329, gb332) _ ⟨hHeld, (by (repeat apply rX); exact Kd.R_mono HO311.out (fun _ hk => ⟨hk.1.1.1, ⟨hk.1.1.2, ⟨hk.1.2, hk.2⟩⟩⟩)), (by (repeat apply rX); exact Kd.R_mono HO314.out (fun _ hk => ⟨hk.1.1.1, ⟨hk.1.1.2, ⟨hk.1.2, hk.2⟩⟩⟩)), (by (repeat apply rX); exact Kd.R_mono HO324.out (fun _ hk => ⟨hk.1.1.1.2, ⟨hk.1.1.2, ⟨hk.1.2, hk.2⟩⟩⟩)), (by (repeat apply rX); exact Kd.R_mono HO327.out (fun _ hk => ⟨hk.1.1.2, ⟨hk.1.2, ⟨hk.2, hk.1.1.1⟩⟩⟩)), (by (repeat apply rX); exact Kd.R_mono HO330.out (fun _ hk => ⟨hk.1.1.2, ⟨hk.1.2, ⟨hk.2, hk.1.1.1⟩⟩⟩)), (bY BK305.out), (bY BK306.out), (bY BK332.out), GW332.out, GE332.out, NB305_332.out, NB332_305.out, NB306_332.out, NB332_306.out, (by repeat (first | (with_reducible first | exact HB.out | apply below_alloc | apply pw_below_drewN | apply below_drew1 | refine below_set ?_ GE305.out | refine below_set ?_ GE306.out | refine below_set ?_ GE332.out) | exact HB.out))⟩)
   ·skip
    refine box_step ?hg (N := 6) ?hd (cs := #[.slice none 0 0, .slice none 0 0]) (t := 27) ?hr ?_; (case hd => rfl); (case hg => rfl); (case hr => first | (go_simp; done) | (go_simp; rfl))
    intro gb332 hg w35 hbox hb
    have n0_ := Aside0.mk (Kd.R_below (rY HO311.out) hb)
    have n1_ := Aside0.mk (Kd.R_below (rY HO314.out) hb)
    have n2_ := Aside0.mk (blk_below (bY BK305.out) hb)
    have n3_ := Aside0.mk (blk_below (bY BK306.out) hb)
    have n4_ := Aside0.mk (below_step (by repeat (first | (with_reducible first | exact HB.out | apply below_alloc | apply pw_below_drewN | apply below_drew1 | refine below_set ?_ GE305.out | refine below_set ?_ GE306.out) | exact HB.out)) hb)
    have n5_ := Aside0.mk (hbox)
    have n6_ := Aside0.mk ((by rw [hg]; exact (below_size (by repeat (first | (with_reducible first | exact HB.out | apply below_alloc | apply pw_below_drewN | apply below_drew1 | refine below_set ?_ GE305.out | refine below_set ?_ GE306.out) | exact HB.out))) : w.heap.size ≤ gb332))
    have n7_ := Aside0.mk ((by rw [hg]; exact (below_size (by repeat (first | (with_reducible first | exact HB.out | apply below_alloc | apply pw_below_drewN | apply below_drew1 | refine below_set ?_ GE305.out | refine below_set ?_ GE306.out) | exact HB.out))) : w.heap.size ≤ gb332))
    have n8_ := Aside0.mk ((by rw [hg]; exact Nat.ne_of_lt (blk_lt (bY BK305.out)) : gb305 ≠ gb332))
    have n9_ := Aside0.mk ((by rw [hg]; exact Nat.ne_of_gt (blk_lt (bY BK305.out)) : gb332 ≠ gb305))
    have n10_ := Aside0.mk ((by rw [hg]; exact Nat.ne_of_lt (blk_lt (bY BK306.out)) : gb306 ≠ gb332))
    have n11_ := Aside0.mk ((by rw [hg]; exact Nat.ne_of_gt (blk_lt (bY BK306.out)) : gb332 ≠ gb306))
    clear HO311
    clear HO314
    clear BK305
    clear BK306
    clear HB
    have HO311 := n0_
    have HO314 := n1_
    have BK305 := n2_
    have BK306 := n3_
    have HB := n4_
    have BK332 := n5_
    have GW332 := n6_
    have GE332 := n7_
    have NB305_332 := n8_
    have NB332_305 := n9_
    have NB306_332 := n10_
    have NB332_306 := n11_
    clear n0_ n1_ n2_ n3_ n4_ n5_ n6_ n7_ n8_ n9_ n10_ n11_
    clear hb hbox hg
    refine hK.out _ _ ⟨(blk_cell BK305.out 0).trans rfl, (blk_cell BK305.out 1).trans rfl, (blk_cell BK306.out 0).trans rfl, (blk_cell BK306.out 1).trans rfl, (blk_cell BK306.out 2).trans rfl, (blk_cell BK306.out 3).trans rfl, (blk_cell BK306.out 4).trans rfl, (blk_cell BK306.out 5).trans rfl, (blk_cell BK306.out 6).trans rfl, (blk_cell BK306.out 7).trans rfl⟩ (fun hHeld => ?_)
    clear hK K
    refine norm_ (a' := ?_) ?_ ?_
    rotate_left
    ·show Act.put _ (some 6) _ = _
     simp only [pS]
     rfl
    refine one_ (i := 3) (N := some 31) #[T, T, T, T, F, F, F, F, T, F, F] rfl rfl (one_of HT_.out (by kernel_rfl)) (by decide) (fun K hK => ?_)
    refine goes_ Try.func22 (by kernel_rfl) rfl #[.agg #[.int .i64 a1_0, .int .i64 a1_1, .int .i64 a1_2, .int .i64 a1_3, .int .i64 a1_4, .int .i64 a1_5, .int .i64 a1_6, .slice A1_7 l1_7.length c1_7]] (by rfl) rfl rfl (by (try simp only [List.map_toArray, List.map_cons, List.map_nil]); first | done | rfl) ?_
    with_reducible refine (laws_toPacket.calls k a1_0 a1_1 a1_2 a1_3 a1_4 a1_5 a1_6 _ _ l1_7 t315 t316 t317 t318 t319 t320 t321 t322 _ ?side1 ?side2 A20.out).mono ?_
    (case side1 => exact cY ((Kd.C_below HR1_7.out HB.out)))
    (case side2 => exact HC1_7.out)
    rintro e w36 ⟨v323, rfl, ho0, hb⟩
    refine ⟨_, rfl, ?_⟩
    have n0_ := Aside0.mk (Kd.R_elder' (rY HO311.out) (Kd.R_base ho0) hb)
    have n1_ := Aside0.mk (Kd.R_elder' (rY HO314.out) (Kd.R_base ho0) hb)
    have n2_ := Aside0.mk (Kd.R_lower (Kd.R_new' (Kd.R_new' ho0 (Kd.R_lt (rY HO311.out))) (Kd.R_lt (rY HO314.out))) (below_size (by repeat (first | (with_reducible first | exact HB.out | apply below_alloc | apply pw_below_drewN | apply below_drew1 | refine below_set ?_ GE305.out | refine below_set ?_ GE306.out | refine below_set ?_ GE332.out) | exact HB.out))))
    have n3_ := Aside0.mk (blk_below (bY BK305.out) hb)
    have n4_ := Aside0.mk (blk_below (bY BK306.out) hb)
    have n5_ := Aside0.mk (blk_below (bY BK332.out) hb)
    have n6_ := Aside0.mk (below_step (by repeat (first | (with_reducible first | exact HB.out | apply below_alloc | apply pw_below_drewN | apply below_drew1 | refine below_set ?_ GE305.out | refine below_set ?_ GE306.out | refine below_set ?_ GE332.out) | exact HB.out)) hb)
    clear HO311
    clear HO314
    clear BK305
    clear BK306
    clear BK332
    clear HB
    have HO311 := n0_
    have HO314 := n1_
    have HO324 := n2_
    have BK305 := n3_
    have BK306 := n4_
    have BK332 := n5_
    have HB := n6_
    clear n0_ n1_ n2_ n3_ n4_ n5_ n6_
    obtain ⟨Ao37, co37, eo37⟩ := Kd.R_slice HO311.out
    (first | subst eo37 | (injection eo37 with f1_ f2_ f3_; have f4_ := f1_.symm; have f5_ := f3_.symm; clear f1_ f2_ f3_; subst f4_; subst f5_))
    obtain ⟨Ao38, co38, eo38⟩ := Kd.R_slice HO314.out
    (first | subst eo38 | (injection eo38 with f1_ f2_ f3_; have f4_ := f1_.symm; have f5_ := f3_.symm; clear f1_ f2_ f3_; subst f4_; subst f5_))
    obtain ⟨Ao39, co39, eo39⟩ := Kd.R_slice HO324.out
    (first | subst eo39 | (injection eo39 with f1_ f2_ f3_; have f4_ := f1_.symm; have f5_ := f3_.symm; clear f1_ f2_ f3_; subst f4_; subst f5_))
    refine hK.out _ _ ⟨(blk_cell BK305.out 0).trans rfl, (blk_cell BK305.out 1).trans rfl, (blk_cell BK306.out 0).trans rfl, (blk_cell BK306.out 1).trans rfl, (blk_cell BK306.out 2).trans rfl, (blk_cell BK306.out 3).trans rfl, (blk_cell BK306.out 4).trans rfl, (blk_cell BK306.out 5).trans rfl, (blk_cell BK306.out 6).trans rfl, (blk_cell BK306.out 7).trans rfl⟩ (fun hHeld => ?_)
    clear hK K
    refine norm_ (a' := ?_) ?_ ?_
    rotate_left
    ·show Act.put _ (some 31) _ = _
     simp only [pS]
     rfl
    refine one_ (i := 4) (N := some 32) #[T, T, T, T, T, F, F, F, T, F, F] rfl rfl (one_of HT_.out (by kernel_rfl)) (by decide) (fun K hK => ?_)
    refine goes_ Try.func60 (by kernel_rfl) rfl #[.agg #[.slice Ao37 t309.length co37, .slice Ao38 t312.length co38], .agg #[.int .i64 t315, .int .i64 t316, .int .i64 t317, .int .i64 t318, .int .i64 t319, .int .i64 t320, .int .i64 t321, .slice Ao39 t322.length co39]] (by rfl) rfl rfl (by (try simp only [List.map_toArray, List.map_cons, List.map_nil]); first | done | rfl) ?_
    with_reducible refine (spec_SpendCredits.calls k _ _ t309 _ _ t312 t315 t316 t317 t318 t319 t320 t321 _ _ t322 t325 t328 t331 _ ?side1 ?side2 ?side3 ?side4 ?side5 ?side6 A21.out).mono ?_
    (case side1 => exact cY ((Kd.R_reads' HO311.out).2.2))
    (case side2 => exact (Kd.R_reads' HO311.out).2.1)
    (case side3 => exact cY ((Kd.R_reads' HO314.out).2.2))
    (case side4 => exact (Kd.R_reads' HO314.out).2.1)
    (case side5 => exact cY ((Kd.R_reads' HO324.out).2.2))
    (case side6 => exact (Kd.R_reads' HO324.out).2.1)
    rintro e w40 ⟨v326, v329, rfl, ho0, ho1, hb⟩
    refine ⟨_, rfl, ?_⟩
    have n0_ := Aside0.mk (Kd.R_mono (Kd.R_told (Kd.R_told (Kd.R_old (rY HO311.out) hb) (Kd.R_base ho0)) (Kd.R_base ho1)) (fun _ h_ => h_.1))
    have n1_ := Aside0.mk (Kd.R_mono (Kd.R_told (Kd.R_told (Kd.R_old (rY HO314.out) hb) (Kd.R_base ho0)) (Kd.R_base ho1)) (fun _ h_ => h_.1))
    have n2_ := Aside0.mk (Kd.R_mono (Kd.R_told (Kd.R_told (Kd.R_old (rY HO324.out) hb) (Kd.R_base ho0)) (Kd.R_base ho1)) (fun _ h_ => h_.1))
    have n3_ := Aside0.mk (Kd.R_lower (Kd.R_new' (Kd.R_new' (Kd.R_new' ho0 (Kd.R_lt (rY HO311.out))) (Kd.R_lt (rY HO314.out))) (Kd.R_lt (rY HO324.out))) (below_size (by repeat (first | (with_reducible first | exact HB.out | apply below_alloc | apply pw_below_drewN | apply below_drew1 | refine below_set ?_ GE305.out | refine below_set ?_ GE306.out | refine below_set ?_ GE332.out) | exact HB.out))))
    have n4_ := Aside0.mk (Kd.R_lower (Kd.R_new' (Kd.R_new' (Kd.R_new' ho1 (Kd.R_lt (rY HO311.out))) (Kd.R_lt (rY HO314.out))) (Kd.R_lt (rY HO324.out))) (below_size (by repeat (first | (with_reducible first | exact HB.out | apply below_alloc | apply pw_below_drewN | apply below_drew1 | refine below_set ?_ GE305.out | refine below_set ?_ GE306.out | refine below_set ?_ GE332.out) | exact HB.out))))
    have n5_ := Aside0.mk (blk_below (bY BK305.out) hb)
    have n6_ := Aside0.mk (blk_below (bY BK306.out) hb)
    have n7_ := Aside0.mk (blk_below (bY BK332.out) hb)
    have n8_ := Aside0.mk (below_step (by repeat (first | (with_reducible first | exact HB.out | apply below_alloc | apply pw_below_drewN | apply below_drew1 | refine below_set ?_ GE305.out | refine below_set ?_ GE306.out | refine below_set ?_ GE332.out) | exact HB.out)) hb)
    clear HO311
    clear HO314
    clear HO324
    clear BK305
    clear BK306
    clear BK332
    clear HB
    have HO311 := n0_
    have HO314 := n1_
    have HO324 := n2_
    have HO327 := n3_
    have HO330 := n4_
    have BK305 := n5_
    have BK306 := n6_
    have BK332 := n7_
    have HB := n8_
    clear n0_ n1_ n2_ n3_ n4_ n5_ n6_ n7_ n8_
    refine hK.out _ _ ⟨(blk_cell BK305.out 0).trans rfl, (blk_cell BK305.out 1).trans rfl, (blk_cell BK306.out 0).trans rfl, (blk_cell BK306.out 1).trans rfl, (blk_cell BK306.out 2).trans rfl, (blk_cell BK306.out 3).trans rfl, (blk_cell BK306.out 4).trans rfl, (blk_cell BK306.out 5).trans rfl, (blk_cell BK306.out 6).trans rfl, (blk_cell BK306.out 7).trans rfl⟩ (fun hHeld => ?_)
    clear hK K
    refine norm_ (a' := ?_) ?_ ?_
    rotate_left
    ·show Act.put _ (some 32) _ = _
     simp only [pS]
     rfl
    refine pure_ (i := 5) (N := some 27) (v := ?_) (a' := ?_) #[T, T, T, T, T, T, F, F, T, F, F] rfl rfl (any_of HT_.out (by kernel_rfl)) (fun _ _ _ h => h) (Or.inl ⟨by rfl, ?_⟩) ?_ ?_
    rotate_left
    ·intro w'
     go_simp
     with_reducible rfl
    rotate_left
    ·simp only [pS]
     rfl
    refine pure_ (i := 6) (N := some 33) (v := ?_) (a' := ?_) #[T, T, T, T, T, T, T, F, T, F, F] rfl rfl (any_of HT_.out (by kernel_rfl)) (fun _ _ _ h => h) (Or.inl ⟨by rfl, ?_⟩) ?_ ?_
    rotate_left
    ·intro w'
     go_simp
     with_reducible rfl
    rotate_left
    ·simp only [pS]
     rfl
    refine pure_ (i := 7) (N := some 34) (v := ?_) (a' := ?_) #[T, T, T, T, T, T, T, T, T, F, F] rfl rfl (any_of HT_.out (by kernel_rfl)) (fun _ _ _ h => h) (Or.inl ⟨by rfl, ?_⟩) ?_ ?_
    rotate_left
    ·intro w'
     go_simp
     with_reducible rfl
    rotate_left
    ·simp only [pS]
     rfl
    exact norm_ (by simp only [putAll, Act.put, List.setIfInBounds_toArray, List.set_cons_zero, List.set_cons_succ]) (hCont (.slice Ao37 t309.length co37, .slice Ao38 t312.length co38, .slice Ao39 t322.length co39, v326, v329, gb332) _ ⟨hHeld, (by (repeat apply rX); exact Kd.R_mono HO311.out (fun _ hk => ⟨hk.1.1.1, ⟨hk.1.1.2, ⟨hk.1.2, hk.2⟩⟩⟩)), (by (repeat apply rX); exact Kd.R_mono HO314.out (fun _ hk => ⟨hk.1.1.1, ⟨hk.1.1.2, ⟨hk.1.2, hk.2⟩⟩⟩)), (by (repeat apply rX); exact Kd.R_mono HO324.out (fun _ hk => ⟨hk.1.1.1.2, ⟨hk.1.1.2, ⟨hk.1.2, hk.2⟩⟩⟩)), (by (repeat apply rX); exact Kd.R_mono HO327.out (fun _ hk => ⟨hk.1.1.2, ⟨hk.1.2, ⟨hk.2, hk.1.1.1⟩⟩⟩)), (by (repeat apply rX); exact Kd.R_mono HO330.out (fun _ hk => ⟨hk.1.1.2, ⟨hk.1.2, ⟨hk.2, hk.1.1.1⟩⟩⟩)), (bY BK305.out), (bY BK306.out), (bY BK332.out), GW332.out, GE332.out, NB305_332.out, NB332_305.out, NB306_332.out, NB332_306.out, (by repeat (first | (with_reducible first | exact HB.out | apply below_alloc | apply pw_below_drewN | apply below_drew1 | refine below_set ?_ GE305.out | refine below_set ?_ GE306.out | refine below_set ?_ GE332.out) | exact HB.out))⟩)
  ·skip
   refine box_step ?hg (N := 6) ?hd (cs := #[.slice none 0 0, .slice none 0 0]) (t := 27) ?hr ?_; (case hd => rfl); (case hg => rfl); (case hr => first | (go_simp; done) | (go_simp; rfl))
   intro gb332 hg w34 hbox hb
   have n0_ := Aside0.mk (blk_below (bY BK305.out) hb)
   have n1_ := Aside0.mk (blk_below (bY BK306.out) hb)
   have n2_ := Aside0.mk (below_step (by repeat (first | (with_reducible first | exact HB.out | apply below_alloc | apply pw_below_drewN | apply below_drew1 | refine below_set ?_ GE305.out | refine below_set ?_ GE306.out) | exact HB.out)) hb)
   have n3_ := Aside0.mk (hbox)
   have n4_ := Aside0.mk ((by rw [hg]; exact (below_size (by repeat (first | (with_reducible first | exact HB.out | apply below_alloc | apply pw_below_drewN | apply below_drew1 | refine below_set ?_ GE305.out | refine below_set ?_ GE306.out) | exact HB.out))) : w.heap.size ≤ gb332))
   have n5_ := Aside0.mk ((by rw [hg]; exact (below_size (by repeat (first | (with_reducible first | exact HB.out | apply below_alloc | apply pw_below_drewN | apply below_drew1 | refine below_set ?_ GE305.out | refine below_set ?_ GE306.out) | exact HB.out))) : w.heap.size ≤ gb332))
   have n6_ := Aside0.mk ((by rw [hg]; exact Nat.ne_of_lt (blk_lt (bY BK305.out)) : gb305 ≠ gb332))
   have n7_ := Aside0.mk ((by rw [hg]; exact Nat.ne_of_gt (blk_lt (bY BK305.out)) : gb332 ≠ gb305))
   have n8_ := Aside0.mk ((by rw [hg]; exact Nat.ne_of_lt (blk_lt (bY BK306.out)) : gb306 ≠ gb332))
   have n9_ := Aside0.mk ((by rw [hg]; exact Nat.ne_of_gt (blk_lt (bY BK306.out)) : gb332 ≠ gb306))
   clear BK305
   clear BK306
   clear HB
   have BK305 := n0_
   have BK306 := n1_
   have HB := n2_
   have BK332 := n3_
   have GW332 := n4_
   have GE332 := n5_
   have NB305_332 := n6_
   have NB332_305 := n7_
   have NB306_332 := n8_
   have NB332_306 := n9_
   clear n0_ n1_ n2_ n3_ n4_ n5_ n6_ n7_ n8_ n9_
   clear hb hbox hg
   refine hK.out _ _ ⟨(blk_cell BK305.out 0).trans rfl, (blk_cell BK305.out 1).trans rfl, (blk_cell BK306.out 0).trans rfl, (blk_cell BK306.out 1).trans rfl, (blk_cell BK306.out 2).trans rfl, (blk_cell BK306.out 3).trans rfl, (blk_cell BK306.out 4).trans rfl, (blk_cell BK306.out 5).trans rfl, (blk_cell BK306.out 6).trans rfl, (blk_cell BK306.out 7).trans rfl⟩ (fun hHeld => ?_)
   clear hK K
   refine norm_ (a' := ?_) ?_ ?_
   rotate_left
   ·show Act.put _ (some 6) _ = _
    simp only [pS]
    rfl
   refine one_ (i := 1) (N := some 29) #[T, T, T, F, F, F, F, F, T, F, F] rfl rfl (one_of HT_.out (by kernel_rfl)) (by decide) (fun K hK => ?_)
   refine goes_ Try.func17 (by kernel_rfl) rfl #[.agg #[.slice A0_0 l0_0.length c0_0, .slice A0_1 l0_1.length c0_1]] (by rfl) rfl rfl (by (try simp only [List.map_toArray, List.map_cons, List.map_nil]); first | done | rfl) ?_
   with_reducible refine (laws_toCredits.calls k _ _ l0_0 _ _ l0_1 t309 t312 _ ?side1 ?side2 ?side3 ?side4 A19.out).mono ?_
   (case side1 => exact cY ((Kd.C_below HR0_0.out HB.out)))
   (case side2 => exact HC0_0.out)
   (case side3 => exact cY ((Kd.C_below HR0_1.out HB.out)))
   (case side4 => exact HC0_1.out)
   rintro e w35 ⟨v310, v313, rfl, ho0, ho1, hb⟩
   refine ⟨_, rfl, ?_⟩
   have n0_ := Aside0.mk (Kd.R_lower ho0 (below_size (by repeat (first | (with_reducible first | exact HB.out | apply below_alloc | apply pw_below_drewN | apply below_drew1 | refine below_set ?_ GE305.out | refine below_set ?_ GE306.out | refine below_set ?_ GE332.out) | exact HB.out))))
   have n1_ := Aside0.mk (Kd.R_lower ho1 (below_size (by repeat (first | (with_reducible first | exact HB.out | apply below_alloc | apply pw_below_drewN | apply below_drew1 | refine below_set ?_ GE305.out | refine below_set ?_ GE306.out | refine below_set ?_ GE332.out) | exact HB.out))))
   have n2_ := Aside0.mk (blk_below (bY BK305.out) hb)
   have n3_ := Aside0.mk (blk_below (bY BK306.out) hb)
   have n4_ := Aside0.mk (blk_below (bY BK332.out) hb)
   have n5_ := Aside0.mk (below_step (by repeat (first | (with_reducible first | exact HB.out | apply below_alloc | apply pw_below_drewN | apply below_drew1 | refine below_set ?_ GE305.out | refine below_set ?_ GE306.out | refine below_set ?_ GE332.out) | exact HB.out)) hb)
   clear BK305
   clear BK306
   clear BK332
   clear HB
   have HO311 := n0_
   have HO314 := n1_
   have BK305 := n2_
   have BK306 := n3_
   have BK332 := n4_
   have HB := n5_
   clear n0_ n1_ n2_ n3_ n4_ n5_
   refine hK.out _ _ ⟨(blk_cell BK305.out 0).trans rfl, (blk_cell BK305.out 1).trans rfl, (blk_cell BK306.out 0).trans rfl, (blk_cell BK306.out 1).trans rfl, (blk_cell BK306.out 2).trans rfl, (blk_cell BK306.out 3).trans rfl, (blk_cell BK306.out 4).trans rfl, (blk_cell BK306.out 5).trans rfl, (blk_cell BK306.out 6).trans rfl, (blk_cell BK306.out 7).trans rfl⟩ (fun hHeld => ?_)
   clear hK K
   refine norm_ (a' := ?_) ?_ ?_
   rotate_left
   ·show Act.put _ (some 29) _ = _
    simp only [pS]
    rfl
   refine one_ (i := 3) (N := some 31) #[T, T, T, T, F, F, F, F, T, F, F] rfl rfl (one_of HT_.out (by kernel_rfl)) (by decide) (fun K hK => ?_)
   refine goes_ Try.func22 (by kernel_rfl) rfl #[.agg #[.int .i64 a1_0, .int .i64 a1_1, .int .i64 a1_2, .int .i64 a1_3, .int .i64 a1_4, .int .i64 a1_5, .int .i64 a1_6, .slice A1_7 l1_7.length c1_7]] (by rfl) rfl rfl (by (try simp only [List.map_toArray, List.map_cons, List.map_nil]); first | done | rfl) ?_
   with_reducible refine (laws_toPacket.calls k a1_0 a1_1 a1_2 a1_3 a1_4 a1_5 a1_6 _ _ l1_7 t315 t316 t317 t318 t319 t320 t321 t322 _ ?side1 ?side2 A20.out).mono ?_
   (case side1 => exact cY ((Kd.C_below HR1_7.out HB.out)))
   (case side2 => exact HC1_7.out)
   rintro e w36 ⟨v323, rfl, ho0, hb⟩
   refine ⟨_, rfl, ?_⟩
   have n0_ := Aside0.mk (Kd.R_elder' (rY HO311.out) (Kd.R_base ho0) hb)
   have n1_ := Aside0.mk (Kd.R_elder' (rY HO314.out) (Kd.R_base ho0) hb)
   have n2_ := Aside0.mk (Kd.R_lower (Kd.R_new' (Kd.R_new' ho0 (Kd.R_lt (rY HO311.out))) (Kd.R_lt (rY HO314.out))) (below_size (by repeat (first | (with_reducible first | exact HB.out | apply below_alloc | apply pw_below_drewN | apply below_drew1 | refine below_set ?_ GE305.out | refine below_set ?_ GE306.out | refine below_set ?_ GE332.out) | exact HB.out))))
   have n3_ := Aside0.mk (blk_below (bY BK305.out) hb)
   have n4_ := Aside0.mk (blk_below (bY BK306.out) hb)
   have n5_ := Aside0.mk (blk_below (bY BK332.out) hb)
   have n6_ := Aside0.mk (below_step (by repeat (first | (with_reducible first | exact HB.out | apply below_alloc | apply pw_below_drewN | apply below_drew1 | refine below_set ?_ GE305.out | refine below_set ?_ GE306.out | refine below_set ?_ GE332.out) | exact HB.out)) hb)
   clear HO311
   clear HO314
   clear BK305
   clear BK306
   clear BK332
   clear HB
   have HO311 := n0_
   have HO314 := n1_
   have HO324 := n2_
   have BK305 := n3_
   have BK306 := n4_
   have BK332 := n5_
   have HB := n6_
   clear n0_ n1_ n2_ n3_ n4_ n5_ n6_
   obtain ⟨Ao37, co37, eo37⟩ := Kd.R_slice HO311.out
   (first | subst eo37 | (injection eo37 with f1_ f2_ f3_; have f4_ := f1_.symm; have f5_ := f3_.symm; clear f1_ f2_ f3_; subst f4_; subst f5_))
   obtain ⟨Ao38, co38, eo38⟩ := Kd.R_slice HO314.out
   (first | subst eo38 | (injection eo38 with f1_ f2_ f3_; have f4_ := f1_.symm; have f5_ := f3_.symm; clear f1_ f2_ f3_; subst f4_; subst f5_))
   obtain ⟨Ao39, co39, eo39⟩ := Kd.R_slice HO324.out
   (first | subst eo39 | (injection eo39 with f1_ f2_ f3_; have f4_ := f1_.symm; have f5_ := f3_.symm; clear f1_ f2_ f3_; subst f4_; subst f5_))
   refine hK.out _ _ ⟨(blk_cell BK305.out 0).trans rfl, (blk_cell BK305.out 1).trans rfl, (blk_cell BK306.out 0).trans rfl, (blk_cell BK306.out 1).trans rfl, (blk_cell BK306.out 2).trans rfl, (blk_cell BK306.out 3).trans rfl, (blk_cell BK306.out 4).trans rfl, (blk_cell BK306.out 5).trans rfl, (blk_cell BK306.out 6).trans rfl, (blk_cell BK306.out 7).trans rfl⟩ (fun hHeld => ?_)
   clear hK K
   refine norm_ (a' := ?_) ?_ ?_
   rotate_left
   ·show Act.put _ (some 31) _ = _
    simp only [pS]
    rfl
   refine one_ (i := 4) (N := some 32) #[T, T, T, T, T, F, F, F, T, F, F] rfl rfl (one_of HT_.out (by kernel_rfl)) (by decide) (fun K hK => ?_)
   refine goes_ Try.func60 (by kernel_rfl) rfl #[.agg #[.slice Ao37 t309.length co37, .slice Ao38 t312.length co38], .agg #[.int .i64 t315, .int .i64 t316, .int .i64 t317, .int .i64 t318, .int .i64 t319, .int .i64 t320, .int .i64 t321, .slice Ao39 t322.length co39]] (by rfl) rfl rfl (by (try simp only [List.map_toArray, List.map_cons, List.map_nil]); first | done | rfl) ?_
   with_reducible refine (spec_SpendCredits.calls k _ _ t309 _ _ t312 t315 t316 t317 t318 t319 t320 t321 _ _ t322 t325 t328 t331 _ ?side1 ?side2 ?side3 ?side4 ?side5 ?side6 A21.out).mono ?_
   (case side1 => exact cY ((Kd.R_reads' HO311.out).2.2))
   (case side2 => exact (Kd.R_reads' HO311.out).2.1)
   (case side3 => exact cY ((Kd.R_reads' HO314.out).2.2))
   (case side4 => exact (Kd.R_reads' HO314.out).2.1)
   (case side5 => exact cY ((Kd.R_reads' HO324.out).2.2))
   (case side6 => exact (Kd.R_reads' HO324.out).2.1)
   rintro e w40 ⟨v326, v329, rfl, ho0, ho1, hb⟩
   refine ⟨_, rfl, ?_⟩
   have n0_ := Aside0.mk (Kd.R_mono (Kd.R_told (Kd.R_told (Kd.R_old (rY HO311.out) hb) (Kd.R_base ho0)) (Kd.R_base ho1)) (fun _ h_ => h_.1))
   have n1_ := Aside0.mk (Kd.R_mono (Kd.R_told (Kd.R_told (Kd.R_old (rY HO314.out) hb) (Kd.R_base ho0)) (Kd.R_base ho1)) (fun _ h_ => h_.1))
   have n2_ := Aside0.mk (Kd.R_mono (Kd.R_told (Kd.R_told (Kd.R_old (rY HO324.out) hb) (Kd.R_base ho0)) (Kd.R_base ho1)) (fun _ h_ => h_.1))
   have n3_ := Aside0.mk (Kd.R_lower (Kd.R_new' (Kd.R_new' (Kd.R_new' ho0 (Kd.R_lt (rY HO311.out))) (Kd.R_lt (rY HO314.out))) (Kd.R_lt (rY HO324.out))) (below_size (by repeat (first | (with_reducible first | exact HB.out | apply below_alloc | apply pw_below_drewN | apply below_drew1 | refine below_set ?_ GE305.out | refine below_set ?_ GE306.out | refine below_set ?_ GE332.out) | exact HB.out))))
   have n4_ := Aside0.mk (Kd.R_lower (Kd.R_new' (Kd.R_new' (Kd.R_new' ho1 (Kd.R_lt (rY HO311.out))) (Kd.R_lt (rY HO314.out))) (Kd.R_lt (rY HO324.out))) (below_size (by repeat (first | (with_reducible first | exact HB.out | apply below_alloc | apply pw_below_drewN | apply below_drew1 | refine below_set ?_ GE305.out | refine below_set ?_ GE306.out | refine below_set ?_ GE332.out) | exact HB.out))))
   have n5_ := Aside0.mk (blk_below (bY BK305.out) hb)
   have n6_ := Aside0.mk (blk_below (bY BK306.out) hb)
   have n7_ := Aside0.mk (blk_below (bY BK332.out) hb)
   have n8_ := Aside0.mk (below_step (by repeat (first | (with_reducible first | exact HB.out | apply below_alloc | apply pw_below_drewN | apply below_drew1 | refine below_set ?_ GE305.out | refine below_set ?_ GE306.out | refine below_set ?_ GE332.out) | exact HB.out)) hb)
   clear HO311
   clear HO314
   clear HO324
   clear BK305
   clear BK306
   clear BK332
   clear HB
   have HO311 := n0_
   have HO314 := n1_
   have HO324 := n2_
   have HO327 := n3_
   have HO330 := n4_
   have BK305 := n5_
   have BK306 := n6_
   have BK332 := n7_
   have HB := n8_
   clear n0_ n1_ n2_ n3_ n4_ n5_ n6_ n7_ n8_
   refine hK.out _ _ ⟨(blk_cell BK305.out 0).trans rfl, (blk_cell BK305.out 1).trans rfl, (blk_cell BK306.out 0).trans rfl, (blk_cell BK306.out 1).trans rfl, (blk_cell BK306.out 2).trans rfl, (blk_cell BK306.out 3).trans rfl, (blk_cell BK306.out 4).trans rfl, (blk_cell BK306.out 5).trans rfl, (blk_cell BK306.out 6).trans rfl, (blk_cell BK306.out 7).trans rfl⟩ (fun hHeld => ?_)
   clear hK K
   refine norm_ (a' := ?_) ?_ ?_
   rotate_left
   ·show Act.put _ (some 32) _ = _
    simp only [pS]
    rfl
   refine pure_ (i := 5) (N := some 27) (v := ?_) (a' := ?_) #[T, T, T, T, T, T, F, F, T, F, F] rfl rfl (any_of HT_.out (by kernel_rfl)) (fun _ _ _ h => h) (Or.inl ⟨by rfl, ?_⟩) ?_ ?_
   rotate_left
   ·intro w'
    go_simp
    with_reducible rfl
   rotate_left
   ·simp only [pS]
    rfl
   refine pure_ (i := 6) (N := some 33) (v := ?_) (a' := ?_) #[T, T, T, T, T, T, T, F, T, F, F] rfl rfl (any_of HT_.out (by kernel_rfl)) (fun _ _ _ h => h) (Or.inl ⟨by rfl, ?_⟩) ?_ ?_
   rotate_left
   ·intro w'
    go_simp
    with_reducible rfl
   rotate_left
   ·simp only [pS]
    rfl
   refine pure_ (i := 7) (N := some 34) (v := ?_) (a' := ?_) #[T, T, T, T, T, T, T, T, T, F, F] rfl rfl (any_of HT_.out (by kernel_rfl)) (fun _ _ _ h => h) (Or.inl ⟨by rfl, ?_⟩) ?_ ?_
   rotate_left
   ·intro w'
    go_simp
    with_reducible rfl
   rotate_left
   ·simp only [pS]
    rfl
   exact norm_ (by simp only [putAll, Act.put, List.setIfInBounds_toArray, List.set_cons_zero, List.set_cons_succ]) (hCont (.slice Ao37 t309.length co37, .slice Ao38 t312.length co38, .slice Ao39 t322.length co39, v326, v329, gb332) _ ⟨hHeld, (by (repeat apply rX); exact Kd.R_mono HO311.out (fun _ hk => ⟨hk.1.1.1, ⟨hk.1.1.2, ⟨hk.1.2, hk.2⟩⟩⟩)), (by (repeat apply rX); exact Kd.R_mono HO314.out (fun _ hk => ⟨hk.1.1.1, ⟨hk.1.1.2, ⟨hk.1.2, hk.2⟩⟩⟩)), (by (repeat apply rX); exact Kd.R_mono HO324.out (fun _ hk => ⟨hk.1.1.1.2, ⟨hk.1.1.2, ⟨hk.1.2, hk.2⟩⟩⟩)), (by (repeat apply rX); exact Kd.R_mono HO327.out (fun _ hk => ⟨hk.1.1.2, ⟨hk.1.2, ⟨hk.2, hk.1.1.1⟩⟩⟩)), (by (repeat apply rX); exact Kd.R_mono HO330.out (fun _ hk => ⟨hk.1.1.2, ⟨hk.1.2, ⟨hk.2, hk.1.1.1⟩⟩⟩)), (bY BK305.out), (bY BK306.out), (bY BK332.out), GW332.out, GE332.out, NB305_332.out, NB332_305.out, NB306_332.out, NB332_306.out, (by repeat (first | (with_reducible first | exact HB.out | apply below_alloc | apply pw_below_drewN | apply below_drew1 | refine below_set ?_ GE305.out | refine below_set ?_ GE306.out | refine below_set ?_ GE332.out) | exact HB.out))⟩)
 rintro ⟨v310, v313, v323, v326, v329, gb332⟩ w41 ⟨hS_, h0_, h1_, h2_, h3_, h4_, h5_, h6_, h7_, h8_, h9_, h10_, h11_, h12_, h13_, h14_⟩
 have n0_ : Aside0 (Kd.R (Kd.int .i64) 3 w41 w.heap.size (fun k_ => some k_ ≠ (v313 : Value).ownBlock ∧ some k_ ≠ (v323 : Value).ownBlock ∧ some k_ ≠ (v326 : Value).ownBlock ∧ some k_ ≠ (v329 : Value).ownBlock) v310 t309) := ⟨h0_⟩
 have n1_ : Aside0 (Kd.R (Kd.int .i64) 3 w41 w.heap.size (fun k_ => some k_ ≠ (v310 : Value).ownBlock ∧ some k_ ≠ (v323 : Value).ownBlock ∧ some k_ ≠ (v326 : Value).ownBlock ∧ some k_ ≠ (v329 : Value).ownBlock) v313 t312) := ⟨h1_⟩
 have n2_ : Aside0 (Kd.R (Kd.int .i64) 3 w41 w.heap.size (fun k_ => some k_ ≠ (v310 : Value).ownBlock ∧ some k_ ≠ (v313 : Value).ownBlock ∧ some k_ ≠ (v326 : Value).ownBlock ∧ some k_ ≠ (v329 : Value).ownBlock) v323 t322) := ⟨h2_⟩
 have n3_ : Aside0 (Kd.R (Kd.int .i64) 3 w41 w.heap.size (fun k_ => some k_ ≠ (v310 : Value).ownBlock ∧ some k_ ≠ (v313 : Value).ownBlock ∧ some k_ ≠ (v323 : Value).ownBlock ∧ some k_ ≠ (v329 : Value).ownBlock) v326 t325) := ⟨h3_⟩
 have n4_ : Aside0 (Kd.R (Kd.int .i64) 3 w41 w.heap.size (fun k_ => some k_ ≠ (v310 : Value).ownBlock ∧ some k_ ≠ (v313 : Value).ownBlock ∧ some k_ ≠ (v323 : Value).ownBlock ∧ some k_ ≠ (v326 : Value).ownBlock) v329 t328) := ⟨h4_⟩
 have n5_ : Aside0 (w41.heap[gb305]? = some (.cells #[.slice A0_0 l0_0.length c0_0, .slice A0_1 l0_1.length c0_1] 24 (0, 0))) := ⟨h5_⟩
 have n6_ : Aside0 (w41.heap[gb306]? = some (.cells #[.int .i64 a1_0, .int .i64 a1_1, .int .i64 a1_2, .int .i64 a1_3, .int .i64 a1_4, .int .i64 a1_5, .int .i64 a1_6, .slice A1_7 l1_7.length c1_7] 32 (0, 0))) := ⟨h6_⟩
 have n7_ : Aside0 (w41.heap[gb332]? = some (.cells #[.slice none 0 0, .slice none 0 0] 27 (0, 0))) := ⟨h7_⟩
 have n8_ : Aside0 (w.heap.size ≤ gb332) := ⟨h8_⟩
 have n9_ : Aside0 (w.heap.size ≤ gb332) := ⟨h9_⟩
 have n10_ : Aside0 (gb305 ≠ gb332) := ⟨h10_⟩
 have n11_ : Aside0 (gb332 ≠ gb305) := ⟨h11_⟩
 have n12_ : Aside0 (gb306 ≠ gb332) := ⟨h12_⟩
 have n13_ : Aside0 (gb332 ≠ gb306) := ⟨h13_⟩
 have n14_ : Aside0 (Below w.heap.size w w41) := ⟨h14_⟩
 clear BK305
 clear BK306
 clear HB
 clear h0_ h1_ h2_ h3_ h4_ h5_ h6_ h7_ h8_ h9_ h10_ h11_ h12_ h13_ h14_
 have HO311 := n0_
 have HO314 := n1_
 have HO324 := n2_
 have HO327 := n3_
 have HO330 := n4_
 have BK305 := n5_
 have BK306 := n6_
 have BK332 := n7_
 have GW332 := n8_
 have GE332 := n9_
 have NB305_332 := n10_
 have NB332_305 := n11_
 have NB306_332 := n12_
 have NB332_306 := n13_
 have HB := n14_
 clear n0_ n1_ n2_ n3_ n4_ n5_ n6_ n7_ n8_ n9_ n10_ n11_ n12_ n13_ n14_
 have hHeld : w41.cell? ⟨gb305, 0, none⟩ = some (.slice A0_0 l0_0.length c0_0) ∧ w41.cell? ⟨gb305, 1, none⟩ = some (.slice A0_1 l0_1.length c0_1) ∧ w41.cell? ⟨gb306, 0, none⟩ = some (.int .i64 a1_0) ∧ w41.cell? ⟨gb306, 1, none⟩ = some (.int .i64 a1_1) ∧ w41.cell? ⟨gb306, 2, none⟩ = some (.int .i64 a1_2) ∧ w41.cell? ⟨gb306, 3, none⟩ = some (.int .i64 a1_3) ∧ w41.cell? ⟨gb306, 4, none⟩ = some (.int .i64 a1_4) ∧ w41.cell? ⟨gb306, 5, none⟩ = some (.int .i64 a1_5) ∧ w41.cell? ⟨gb306, 6, none⟩ = some (.int .i64 a1_6) ∧ w41.cell? ⟨gb306, 7, none⟩ = some (.slice A1_7 l1_7.length c1_7) := hS_
 obtain ⟨Ao42, co42, eo42⟩ := Kd.R_slice HO327.out
 (first | subst eo42 | (injection eo42 with f1_ f2_ f3_; have f4_ := f1_.symm; have f5_ := f3_.symm; clear f1_ f2_ f3_; subst f4_; subst f5_))
 obtain ⟨Ao44, co44, eo44⟩ := Kd.R_slice HO330.out
 (first | subst eo44 | (injection eo44 with f1_ f2_ f3_; have f4_ := f1_.symm; have f5_ := f3_.symm; clear f1_ f2_ f3_; subst f4_; subst f5_))
 refine norm_ (a' := ?_) ?_ ?_
 rotate_left
 ·simp only [putAll, Act.put, List.setIfInBounds_toArray, List.set_cons_zero, List.set_cons_succ]
  rfl
 refine one_ (i := 9) (N := none) #[T, T, T, T, T, T, T, T, T, T, F] rfl rfl (one_of HT_.out (by kernel_rfl)) (by decide) (fun K hK => ?_)
 have hs43 : w41.cell? ⟨gb332, 0, none⟩ = some (.slice none 0 0) := (blk_cell BK332.out 0).trans rfl
 have hfs43 := blk_frozen BK332.out 0
 have hns43_0 := NB305_332.out
 have hns43_1 := NB306_332.out
 have hms43_0 := NB332_305.out
 have hms43_1 := NB332_306.out
 have hs45 : w41.cell? ⟨gb332, 1, none⟩ = some (.slice none 0 0) := (blk_cell BK332.out 1).trans rfl
 have hfs45 := blk_frozen BK332.out 1
 have hns45_0 := NB305_332.out
 have hns45_1 := NB306_332.out
 have hms45_0 := NB332_305.out
 have hms45_1 := NB332_306.out
 refine skip_ (w1 := ?_) (by rfl) rfl ?_ ?_
 rotate_left
 ·go_simp
  rfl
 refine hK.out _ _ ⟨((cell_far (p := ⟨gb332, _, none⟩) NB305_332.out _).trans (((cell_far (p := ⟨gb332, _, none⟩) NB305_332.out _).trans (hHeld.1)))), ((cell_far (p := ⟨gb332, _, none⟩) NB305_332.out _).trans (((cell_far (p := ⟨gb332, _, none⟩) NB305_332.out _).trans (hHeld.2.1)))), ((cell_far (p := ⟨gb332, _, none⟩) NB306_332.out _).trans (((cell_far (p := ⟨gb332, _, none⟩) NB306_332.out _).trans (hHeld.2.2.1)))), ((cell_far (p := ⟨gb332, _, none⟩) NB306_332.out _).trans (((cell_far (p := ⟨gb332, _, none⟩) NB306_332.out _).trans (hHeld.2.2.2.1)))), ((cell_far (p := ⟨gb332, _, none⟩) NB306_332.out _).trans (((cell_far (p := ⟨gb332, _, none⟩) NB306_332.out _).trans (hHeld.2.2.2.2.1)))), ((cell_far (p := ⟨gb332, _, none⟩) NB306_332.out _).trans (((cell_far (p := ⟨gb332, _, none⟩) NB306_332.out _).trans (hHeld.2.2.2.2.2.1)))), ((cell_far (p := ⟨gb332, _, none⟩) NB306_332.out _).trans (((cell_far (p := ⟨gb332, _, none⟩) NB306_332.out _).trans (hHeld.2.2.2.2.2.2.1)))), ((cell_far (p := ⟨gb332, _, none⟩) NB306_332.out _).trans (((cell_far (p := ⟨gb332, _, none⟩) NB306_332.out _).trans (hHeld.2.2.2.2.2.2.2.1)))), ((cell_far (p := ⟨gb332, _, none⟩) NB306_332.out _).trans (((cell_far (p := ⟨gb332, _, none⟩) NB306_332.out _).trans (hHeld.2.2.2.2.2.2.2.2.1)))), ((cell_far (p := ⟨gb332, _, none⟩) NB306_332.out _).trans (((cell_far (p := ⟨gb332, _, none⟩) NB306_332.out _).trans (hHeld.2.2.2.2.2.2.2.2.2))))⟩ (fun hHeld => ?_)
 clear hK K
 refine pure_ (i := 10) (N := some 7) (v := ?_) (a' := ?_) #[T, T, T, T, T, T, T, T, T, T, T] rfl rfl (any_of HT_.out (by kernel_rfl)) (fun _ _ _ h => h) (Or.inl ⟨by rfl, ?_⟩) ?_ ?_
 rotate_left
 ·intro w'
  go_simp
  with_reducible rfl
 rotate_left
 ·simp only [pS]
  rfl
 refine done_ (done_of HT_.out (by kernel_rfl)) ?_
 have hnb46 := NB305_332.out
 have hnc46 := NB332_305.out
 obtain ⟨hcz47_0, hcz47_1, hfz47_0, hfz47_1⟩ := b2 BK305.out
 go_upto_region 12 with (first | ((with_reducible refine gate_callee (f := 17) rfl ?_); refine goesL_ (some 36) rfl rfl Try.func17 (by kernel_rfl) rfl #[.agg #[.slice A0_0 l0_0.length c0_0, .slice A0_1 l0_1.length c0_1]] rfl (by (try simp only [List.map_toArray, List.map_cons, List.map_nil]); first | done | rfl) ?_; (with_reducible refine (laws_toCredits.calls k _ _ l0_0 _ _ l0_1 t333 t336 _ ?side1 ?side2 ?side3 ?side4 A22.out).mono ?_); (case side1 => exact Kd.C_below HR0_0.out (by repeat (first | (with_reducible first | exact HB.out | apply below_alloc | apply pw_below_drewN | apply below_drew1 | refine below_set ?_ GE305.out | refine below_set ?_ GE306.out | refine below_set ?_ GE332.out) | exact HB.out))); (case side2 => exact HC0_0.out); (case side3 => exact Kd.C_below HR0_1.out (by repeat (first | (with_reducible first | exact HB.out | apply below_alloc | apply pw_below_drewN | apply below_drew1 | refine below_set ?_ GE305.out | refine below_set ?_ GE306.out | refine below_set ?_ GE332.out) | exact HB.out))); (case side4 => exact HC0_1.out); rintro e w48 ⟨v334, v337, rfl, ho0, ho1, hb⟩; refine ⟨_, rfl, ?_⟩; have n0_ := Aside0.mk (Kd.R_mono (Kd.R_told (Kd.R_told (Kd.R_old (by (repeat apply rX); exact (Kd.R_mono (Kd.R_far (p := ⟨gb332, 1, none⟩) (Kd.R_far (p := ⟨gb332, 0, none⟩) (Kd.R_types HO311.out BK332.out (by decide)) (fun _ hk => hk.2) (.slice Ao42 t325.length co42)) (fun _ hk => hk.2) (.slice Ao44 t328.length co44)) (fun _ h_ => h_.1))) hb) (Kd.R_base ho0)) (Kd.R_base ho1)) (fun _ h_ => h_.1)); have n1_ := Aside0.mk (Kd.R_mono (Kd.R_told (Kd.R_told (Kd.R_old (by (repeat apply rX); exact (Kd.R_mono (Kd.R_far (p := ⟨gb332, 1, none⟩) (Kd.R_far (p := ⟨gb332, 0, none⟩) (Kd.R_types HO314.out BK332.out (by decide)) (fun _ hk => hk.2) (.slice Ao42 t325.length co42)) (fun _ hk => hk.2) (.slice Ao44 t328.length co44)) (fun _ h_ => h_.1))) hb) (Kd.R_base ho0)) (Kd.R_base ho1)) (fun _ h_ => h_.1)); have n2_ := Aside0.mk (Kd.R_mono (Kd.R_told (Kd.R_told (Kd.R_old (by (repeat apply rX); exact (Kd.R_mono (Kd.R_far (p := ⟨gb332, 1, none⟩) (Kd.R_far (p := ⟨gb332, 0, none⟩) (Kd.R_types HO324.out BK332.out (by decide)) (fun _ hk => hk.2) (.slice Ao42 t325.length co42)) (fun _ hk => hk.2) (.slice Ao44 t328.length co44)) (fun _ h_ => h_.1))) hb) (Kd.R_base ho0)) (Kd.R_base ho1)) (fun _ h_ => h_.1)); have n3_ := Aside0.mk (Kd.R_mono (Kd.R_told (Kd.R_told (Kd.R_old (by (repeat apply rX); exact (Kd.R_mono (Kd.R_far (p := ⟨gb332, 1, none⟩) (Kd.R_far (p := ⟨gb332, 0, none⟩) (Kd.R_types HO327.out BK332.out (by decide)) (fun _ hk => hk.2) (.slice Ao42 t325.length co42)) (fun _ hk => hk.2) (.slice Ao44 t328.length co44)) (fun _ h_ => h_.1))) hb) (Kd.R_base ho0)) (Kd.R_base ho1)) (fun _ h_ => h_.1)); have n4_ := Aside0.mk (Kd.R_mono (Kd.R_told (Kd.R_told (Kd.R_old (by (repeat apply rX); exact (Kd.R_mono (Kd.R_far (p := ⟨gb332, 1, none⟩) (Kd.R_far (p := ⟨gb332, 0, none⟩) (Kd.R_types HO330.out BK332.out (by decide)) (fun _ hk => hk.2) (.slice Ao42 t325.length co42)) (fun _ hk => hk.2) (.slice Ao44 t328.length co44)) (fun _ h_ => h_.1))) hb) (Kd.R_base ho0)) (Kd.R_base ho1)) (fun _ h_ => h_.1)); have n5_ := Aside0.mk (Kd.R_lower (Kd.R_new' (Kd.R_new' (Kd.R_new' (Kd.R_new' (Kd.R_new' ho0 (Kd.R_lt (by (repeat apply rX); exact (Kd.R_mono (Kd.R_far (p := ⟨gb332, 1, none⟩) (Kd.R_far (p := ⟨gb332, 0, none⟩) (Kd.R_types HO311.out BK332.out (by decide)) (fun _ hk => hk.2) (.slice Ao42 t325.length co42)) (fun _ hk => hk.2) (.slice Ao44 t328.length co44)) (fun _ h_ => h_.1))))) (Kd.R_lt (by (repeat apply rX); exact (Kd.R_mono (Kd.R_far (p := ⟨gb332, 1, none⟩) (Kd.R_far (p := ⟨gb332, 0, none⟩) (Kd.R_types HO314.out BK332.out (by decide)) (fun _ hk => hk.2) (.slice Ao42 t325.length co42)) (fun _ hk => hk.2) (.slice Ao44 t328.length co44)) (fun _ h_ => h_.1))))) (Kd.R_lt (by (repeat apply rX); exact (Kd.R_mono (Kd.R_far (p := ⟨gb332, 1, none⟩) (Kd.R_far (p := ⟨gb332, 0, none⟩) (Kd.R_types HO324.out BK332.out (by decide)) (fun _ hk => hk.2) (.slice Ao42 t325.length co42)) (fun _ hk => hk.2) (.slice Ao44 t328.length co44)) (fun _ h_ => h_.1))))) (Kd.R_lt (by (repeat apply rX); exact (Kd.R_mono (Kd.R_far (p := ⟨gb332, 1, none⟩) (Kd.R_far (p := ⟨gb332, 0, none⟩) (Kd.R_types HO327.out BK332.out (by decide)) (fun _ hk => hk.2) (.slice Ao42 t325.length co42)) (fun _ hk => hk.2) (.slice Ao44 t328.length co44)) (fun _ h_ => h_.1))))) (Kd.R_lt (by (repeat apply rX); exact (Kd.R_mono (Kd.R_far (p := ⟨gb332, 1, none⟩) (Kd.R_far (p := ⟨gb332, 0, none⟩) (Kd.R_types HO330.out BK332.out (by decide)) (fun _ hk => hk.2) (.slice Ao42 t325.length co42)) (fun _ hk => hk.2) (.slice Ao44 t328.length co44)) (fun _ h_ => h_.1))))) (below_size (by repeat (first | (with_reducible first | exact HB.out | apply below_alloc | apply pw_below_drewN | apply below_drew1 | refine below_set ?_ GE305.out | refine below_set ?_ GE306.out | refine below_set ?_ GE332.out) | exact HB.out)))); have n6_ := Aside0.mk (Kd.R_lower (Kd.R_new' (Kd.R_new' (Kd.R_new' (Kd.R_new' (Kd.R_new' ho1 (Kd.R_lt (by (repeat apply rX); exact (Kd.R_mono (Kd.R_far (p := ⟨gb332, 1, none⟩) (Kd.R_far (p := ⟨gb332, 0, none⟩) (Kd.R_types HO311.out BK332.out (by decide)) (fun _ hk => hk.2) (.slice Ao42 t325.length co42)) (fun _ hk => hk.2) (.slice Ao44 t328.length co44)) (fun _ h_ => h_.1))))) (Kd.R_lt (by (repeat apply rX); exact (Kd.R_mono (Kd.R_far (p := ⟨gb332, 1, none⟩) (Kd.R_far (p := ⟨gb332, 0, none⟩) (Kd.R_types HO314.out BK332.out (by decide)) (fun _ hk => hk.2) (.slice Ao42 t325.length co42)) (fun _ hk => hk.2) (.slice Ao44 t328.length co44)) (fun _ h_ => h_.1))))) (Kd.R_lt (by (repeat apply rX); exact (Kd.R_mono (Kd.R_far (p := ⟨gb332, 1, none⟩) (Kd.R_far (p := ⟨gb332, 0, none⟩) (Kd.R_types HO324.out BK332.out (by decide)) (fun _ hk => hk.2) (.slice Ao42 t325.length co42)) (fun _ hk => hk.2) (.slice Ao44 t328.length co44)) (fun _ h_ => h_.1))))) (Kd.R_lt (by (repeat apply rX); exact (Kd.R_mono (Kd.R_far (p := ⟨gb332, 1, none⟩) (Kd.R_far (p := ⟨gb332, 0, none⟩) (Kd.R_types HO327.out BK332.out (by decide)) (fun _ hk => hk.2) (.slice Ao42 t325.length co42)) (fun _ hk => hk.2) (.slice Ao44 t328.length co44)) (fun _ h_ => h_.1))))) (Kd.R_lt (by (repeat apply rX); exact (Kd.R_mono (Kd.R_far (p := ⟨gb332, 1, none⟩) (Kd.R_far (p := ⟨gb332, 0, none⟩) (Kd.R_types HO330.out BK332.out (by decide)) (fun _ hk => hk.2) (.slice Ao42 t325.length co42)) (fun _ hk => hk.2) (.slice Ao44 t328.length co44)) (fun _ h_ => h_.1))))) (below_size (by repeat (first | (with_reducible first | exact HB.out | apply below_alloc | apply pw_below_drewN | apply below_drew1 | refine below_set ?_ GE305.out | refine below_set ?_ GE306.out | refine below_set ?_ GE332.out) | exact HB.out)))); have n7_ := Aside0.mk (blk_below (g := gb305) (o := .cells #[.slice A0_0 l0_0.length c0_0, .slice A0_1 l0_1.length c0_1] 24 (0, 0)) (by (repeat apply bX); refine blk_far ?_ NB305_332.out _; (repeat apply bX); refine blk_far ?_ NB305_332.out _; (repeat apply bX); exact BK305.out) hb); have n8_ := Aside0.mk (blk_below (g := gb306) (o := .cells #[.int .i64 a1_0, .int .i64 a1_1, .int .i64 a1_2, .int .i64 a1_3, .int .i64 a1_4, .int .i64 a1_5, .int .i64 a1_6, .slice A1_7 l1_7.length c1_7] 32 (0, 0)) (by (repeat apply bX); refine blk_far ?_ NB306_332.out _; (repeat apply bX); refine blk_far ?_ NB306_332.out _; (repeat apply bX); exact BK306.out) hb); have n9_ := Aside0.mk (blk_below (g := gb332) (o := .cells #[.slice Ao42 t325.length co42, .slice Ao44 t328.length co44] 27 (0, 0)) (by (repeat apply bX); refine blk_put (cs := #[.slice Ao42 t325.length co42, .slice none 0 0]) ?_ 1 _ rfl; (repeat apply bX); refine blk_put (cs := #[.slice none 0 0, .slice none 0 0]) ?_ 0 _ rfl; (repeat apply bX); exact BK332.out) hb); have n10_ := Aside0.mk (below_step (by repeat (first | (with_reducible first | exact HB.out | apply below_alloc | apply pw_below_drewN | apply below_drew1 | refine below_set ?_ GE305.out | refine below_set ?_ GE306.out | refine below_set ?_ GE332.out) | exact HB.out)) hb); clear HO311; clear HO314; clear HO324; clear HO327; clear HO330; clear BK305; clear BK306; clear BK332; clear HB; have HO311 := n0_; have HO314 := n1_; have HO324 := n2_; have HO327 := n3_; have HO330 := n4_; have HO335 := n5_; have HO338 := n6_; have BK305 := n7_; have BK306 := n8_; have BK332 := n9_; have HB := n10_; clear n0_ n1_ n2_ n3_ n4_ n5_ n6_ n7_ n8_ n9_ n10_; (try clear hb); (try clear hb2); (try clear hk); (try clear hi); (try clear ho0); (try clear ho1)) | ((with_reducible refine gate_dst (N := 8) rfl ?_); refine box_event ?hg (N := 8) ?hd (cs := #[.slice none 0 0, .slice none 0 0]) (t := 27) ?hr ?_; (case hd => rfl); (case hg => rfl); (case hr => first | (go_simp; done) | (go_simp; rfl)); intro gb339 hg w49 hbox hb; have n0_ := Aside0.mk (Kd.R_below (rY HO311.out) hb); have n1_ := Aside0.mk (Kd.R_below (rY HO314.out) hb); have n2_ := Aside0.mk (Kd.R_below (rY HO324.out) hb); have n3_ := Aside0.mk (Kd.R_below (rY HO327.out) hb); have n4_ := Aside0.mk (Kd.R_below (rY HO330.out) hb); have n5_ := Aside0.mk (Kd.R_below (rY HO335.out) hb); have n6_ := Aside0.mk (Kd.R_below (rY HO338.out) hb); have n7_ := Aside0.mk (blk_below (bY BK305.out) hb); have n8_ := Aside0.mk (blk_below (bY BK306.out) hb); have n9_ := Aside0.mk (blk_below (bY BK332.out) hb); have n10_ := Aside0.mk (below_step (by repeat (first | (with_reducible first | exact HB.out | apply below_alloc | apply pw_below_drewN | apply below_drew1 | refine below_set ?_ GE305.out | refine below_set ?_ GE306.out | refine below_set ?_ GE332.out) | exact HB.out)) hb); have n11_ := Aside0.mk (hbox); have n12_ := Aside0.mk ((by rw [hg]; exact (below_size (by repeat (first | (with_reducible first | exact HB.out | apply below_alloc | apply pw_below_drewN | apply below_drew1 | refine below_set ?_ GE305.out | refine below_set ?_ GE306.out | refine below_set ?_ GE332.out) | exact HB.out))) : w.heap.size ≤ gb339)); have n13_ := Aside0.mk ((by rw [hg]; exact (below_size (by repeat (first | (with_reducible first | exact HB.out | apply below_alloc | apply pw_below_drewN | apply below_drew1 | refine below_set ?_ GE305.out | refine below_set ?_ GE306.out | refine below_set ?_ GE332.out) | exact HB.out))) : w.heap.size ≤ gb339)); have n14_ := Aside0.mk ((by rw [hg]; exact Nat.ne_of_lt (blk_lt (bY BK305.out)) : gb305 ≠ gb339)); have n15_ := Aside0.mk ((by rw [hg]; exact Nat.ne_of_gt (blk_lt (bY BK305.out)) : gb339 ≠ gb305)); have n16_ := Aside0.mk ((by rw [hg]; exact Nat.ne_of_lt (blk_lt (bY BK306.out)) : gb306 ≠ gb339)); have n17_ := Aside0.mk ((by rw [hg]; exact Nat.ne_of_gt (blk_lt (bY BK306.out)) : gb339 ≠ gb306)); have n18_ := Aside0.mk ((by rw [hg]; exact Nat.ne_of_lt (blk_lt (bY BK332.out)) : gb332 ≠ gb339)); have n19_ := Aside0.mk ((by rw [hg]; exact Nat.ne_of_gt (blk_lt (bY BK332.out)) : gb339 ≠ gb332)); clear HO311; clear HO314; clear HO324; clear HO327; clear HO330; clear HO335; clear HO338; clear BK305; clear BK306; clear BK332; clear HB; have HO311 := n0_; have HO314 := n1_; have HO324 := n2_; have HO327 := n3_; have HO330 := n4_; have HO335 := n5_; have HO338 := n6_; have BK305 := n7_; have BK306 := n8_; have BK332 := n9_; have HB := n10_; have BK339 := n11_; have GW339 := n12_; have GE339 := n13_; have NB305_339 := n14_; have NB339_305 := n15_; have NB306_339 := n16_; have NB339_306 := n17_; have NB332_339 := n18_; have NB339_332 := n19_; clear n0_ n1_ n2_ n3_ n4_ n5_ n6_ n7_ n8_ n9_ n10_ n11_ n12_ n13_ n14_ n15_ n16_ n17_ n18_ n19_; clear hb hbox hg; obtain ⟨Ao50, co50, eo50⟩ := Kd.R_slice HO335.out; subst eo50; have hnb51 := NB339_305.out; have hnc51 := NB305_339.out; have hnb52 := NB339_306.out; have hnc52 := NB306_339.out; have hnb53 := NB339_332.out; have hnc53 := NB332_339.out; have hcz54_0 : w49.cell? ⟨gb339, 0, none⟩ = some (.slice none 0 0) := (blk_cell BK339.out 0).trans rfl; have hcz54_1 : w49.cell? ⟨gb339, 1, none⟩ = some (.slice none 0 0) := (blk_cell BK339.out 1).trans rfl; have hfz54_0 := blk_frozen BK339.out 0; have hfz54_1 := blk_frozen BK339.out 1; obtain ⟨Ao55, co55, eo55⟩ := Kd.R_slice HO338.out; subst eo55; have hnb56 := NB306_332.out; have hnc56 := NB332_306.out; have hcz57_0 : w49.cell? ⟨gb306, 0, none⟩ = some (.int .i64 a1_0) := (blk_cell BK306.out 0).trans rfl; have hcz57_1 : w49.cell? ⟨gb306, 1, none⟩ = some (.int .i64 a1_1) := (blk_cell BK306.out 1).trans rfl; have hcz57_2 : w49.cell? ⟨gb306, 2, none⟩ = some (.int .i64 a1_2) := (blk_cell BK306.out 2).trans rfl; have hcz57_3 : w49.cell? ⟨gb306, 3, none⟩ = some (.int .i64 a1_3) := (blk_cell BK306.out 3).trans rfl; have hcz57_4 : w49.cell? ⟨gb306, 4, none⟩ = some (.int .i64 a1_4) := (blk_cell BK306.out 4).trans rfl; have hcz57_5 : w49.cell? ⟨gb306, 5, none⟩ = some (.int .i64 a1_5) := (blk_cell BK306.out 5).trans rfl; have hcz57_6 : w49.cell? ⟨gb306, 6, none⟩ = some (.int .i64 a1_6) := (blk_cell BK306.out 6).trans rfl; have hcz57_7 : w49.cell? ⟨gb306, 7, none⟩ = some (.slice A1_7 l1_7.length c1_7) := (blk_cell BK306.out 7).trans rfl; have hfz57_0 := blk_frozen BK306.out 0; have hfz57_1 := blk_frozen BK306.out 1; have hfz57_2 := blk_frozen BK306.out 2; have hfz57_3 := blk_frozen BK306.out 3; have hfz57_4 := blk_frozen BK306.out 4; have hfz57_5 := blk_frozen BK306.out 5; have hfz57_6 := blk_frozen BK306.out 6; have hfz57_7 := blk_frozen BK306.out 7) | ((with_reducible refine gate_callee (f := 22) rfl ?_); refine goesL_ (some 38) rfl rfl Try.func22 (by kernel_rfl) rfl #[.agg #[.int .i64 a1_0, .int .i64 a1_1, .int .i64 a1_2, .int .i64 a1_3, .int .i64 a1_4, .int .i64 a1_5, .int .i64 a1_6, .slice A1_7 l1_7.length c1_7]] rfl (by (try simp only [List.map_toArray, List.map_cons, List.map_nil]); first | done | rfl) ?_; (with_reducible refine (laws_toPacket.calls k a1_0 a1_1 a1_2 a1_3 a1_4 a1_5 a1_6 _ _ l1_7 t340 t341 t342 t343 t344 t345 t346 t347 _ ?side1 ?side2 A23.out).mono ?_); (case side1 => exact Kd.C_below HR1_7.out (by repeat (first | (with_reducible first | exact HB.out | apply below_alloc | apply pw_below_drewN | apply below_drew1 | refine below_set ?_ GE305.out | refine below_set ?_ GE306.out | refine below_set ?_ GE332.out | refine below_set ?_ GE339.out) | exact HB.out))); (case side2 => exact HC1_7.out); rintro e w58 ⟨v348, rfl, ho0, hb⟩; refine ⟨_, rfl, ?_⟩; have n0_ := Aside0.mk (Kd.R_elder' (by (repeat apply rX); exact (Kd.R_mono (Kd.R_far (p := ⟨gb339, 1, none⟩) (Kd.R_far (p := ⟨gb339, 0, none⟩) (Kd.R_types HO311.out BK339.out (by decide)) (fun _ hk => hk.2) (.slice Ao50 t333.length co50)) (fun _ hk => hk.2) (.slice Ao55 t336.length co55)) (fun _ h_ => h_.1))) (Kd.R_base ho0) hb); have n1_ := Aside0.mk (Kd.R_elder' (by (repeat apply rX); exact (Kd.R_mono (Kd.R_far (p := ⟨gb339, 1, none⟩) (Kd.R_far (p := ⟨gb339, 0, none⟩) (Kd.R_types HO314.out BK339.out (by decide)) (fun _ hk => hk.2) (.slice Ao50 t333.length co50)) (fun _ hk => hk.2) (.slice Ao55 t336.length co55)) (fun _ h_ => h_.1))) (Kd.R_base ho0) hb); have n2_ := Aside0.mk (Kd.R_elder' (by (repeat apply rX); exact (Kd.R_mono (Kd.R_far (p := ⟨gb339, 1, none⟩) (Kd.R_far (p := ⟨gb339, 0, none⟩) (Kd.R_types HO324.out BK339.out (by decide)) (fun _ hk => hk.2) (.slice Ao50 t333.length co50)) (fun _ hk => hk.2) (.slice Ao55 t336.length co55)) (fun _ h_ => h_.1))) (Kd.R_base ho0) hb); have n3_ := Aside0.mk (Kd.R_elder' (by (repeat apply rX); exact (Kd.R_mono (Kd.R_far (p := ⟨gb339, 1, none⟩) (Kd.R_far (p := ⟨gb339, 0, none⟩) (Kd.R_types HO327.out BK339.out (by decide)) (fun _ hk => hk.2) (.slice Ao50 t333.length co50)) (fun _ hk => hk.2) (.slice Ao55 t336.length co55)) (fun _ h_ => h_.1))) (Kd.R_base ho0) hb); have n4_ := Aside0.mk (Kd.R_elder' (by (repeat apply rX); exact (Kd.R_mono (Kd.R_far (p := ⟨gb339, 1, none⟩) (Kd.R_far (p := ⟨gb339, 0, none⟩) (Kd.R_types HO330.out BK339.out (by decide)) (fun _ hk => hk.2) (.slice Ao50 t333.length co50)) (fun _ hk => hk.2) (.slice Ao55 t336.length co55)) (fun _ h_ => h_.1))) (Kd.R_base ho0) hb); have n5_ := Aside0.mk (Kd.R_elder' (by (repeat apply rX); exact (Kd.R_mono (Kd.R_far (p := ⟨gb339, 1, none⟩) (Kd.R_far (p := ⟨gb339, 0, none⟩) (Kd.R_types HO335.out BK339.out (by decide)) (fun _ hk => hk.2) (.slice Ao50 t333.length co50)) (fun _ hk => hk.2) (.slice Ao55 t336.length co55)) (fun _ h_ => h_.1))) (Kd.R_base ho0) hb); have n6_ := Aside0.mk (Kd.R_elder' (by (repeat apply rX); exact (Kd.R_mono (Kd.R_far (p := ⟨gb339, 1, none⟩) (Kd.R_far (p := ⟨gb339, 0, none⟩) (Kd.R_types HO338.out BK339.out (by decide)) (fun _ hk => hk.2) (.slice Ao50 t333.length co50)) (fun _ hk => hk.2) (.slice Ao55 t336.length co55)) (fun _ h_ => h_.1))) (Kd.R_base ho0) hb); have n7_ := Aside0.mk (Kd.R_lower (Kd.R_new' (Kd.R_new' (Kd.R_new' (Kd.R_new' (Kd.R_new' (Kd.R_new' (Kd.R_new' ho0 (Kd.R_lt (by (repeat apply rX); exact (Kd.R_mono (Kd.R_far (p := ⟨gb339, 1, none⟩) (Kd.R_far (p := ⟨gb339, 0, none⟩) (Kd.R_types HO311.out BK339.out (by decide)) (fun _ hk => hk.2) (.slice Ao50 t333.length co50)) (fun _ hk => hk.2) (.slice Ao55 t336.length co55)) (fun _ h_ => h_.1))))) (Kd.R_lt (by (repeat apply rX); exact (Kd.R_mono (Kd.R_far (p := ⟨gb339, 1, none⟩) (Kd.R_far (p := ⟨gb339, 0, none⟩) (Kd.R_types HO314.out BK339.out (by decide)) (fun _ hk => hk.2) (.slice Ao50 t333.length co50)) (fun _ hk => hk.2) (.slice Ao55 t336.length co55)) (fun _ h_ => h_.1))))) (Kd.R_lt (by (repeat apply rX); exact (Kd.R_mono (Kd.R_far (p := ⟨gb339, 1, none⟩) (Kd.R_far (p := ⟨gb339, 0, none⟩) (Kd.R_types HO324.out BK339.out (by decide)) (fun _ hk => hk.2) (.slice Ao50 t333.length co50)) (fun _ hk => hk.2) (.slice Ao55 t336.length co55)) (fun _ h_ => h_.1))))) (Kd.R_lt (by (repeat apply rX); exact (Kd.R_mono (Kd.R_far (p := ⟨gb339, 1, none⟩) (Kd.R_far (p := ⟨gb339, 0, none⟩) (Kd.R_types HO327.out BK339.out (by decide)) (fun _ hk => hk.2) (.slice Ao50 t333.length co50)) (fun _ hk => hk.2) (.slice Ao55 t336.length co55)) (fun _ h_ => h_.1))))) (Kd.R_lt (by (repeat apply rX); exact (Kd.R_mono (Kd.R_far (p := ⟨gb339, 1, none⟩) (Kd.R_far (p := ⟨gb339, 0, none⟩) (Kd.R_types HO330.out BK339.out (by decide)) (fun _ hk => hk.2) (.slice Ao50 t333.length co50)) (fun _ hk => hk.2) (.slice Ao55 t336.length co55)) (fun _ h_ => h_.1))))) (Kd.R_lt (by (repeat apply rX); exact (Kd.R_mono (Kd.R_far (p := ⟨gb339, 1, none⟩) (Kd.R_far (p := ⟨gb339, 0, none⟩) (Kd.R_types HO335.out BK339.out (by decide)) (fun _ hk => hk.2) (.slice Ao50 t333.length co50)) (fun _ hk => hk.2) (.slice Ao55 t336.length co55)) (fun _ h_ => h_.1))))) (Kd.R_lt (by (repeat apply rX); exact (Kd.R_mono (Kd.R_far (p := ⟨gb339, 1, none⟩) (Kd.R_far (p := ⟨gb339, 0, none⟩) (Kd.R_types HO338.out BK339.out (by decide)) (fun _ hk => hk.2) (.slice Ao50 t333.length co50)) (fun _ hk => hk.2) (.slice Ao55 t336.length co55)) (fun _ h_ => h_.1))))) (below_size (by repeat (first | (with_reducible first | exact HB.out | apply below_alloc | apply pw_below_drewN | apply below_drew1 | refine below_set ?_ GE305.out | refine below_set ?_ GE306.out | refine below_set ?_ GE332.out | refine below_set ?_ GE339.out) | exact HB.out)))); have n8_ := Aside0.mk (blk_below (g := gb305) (o := .cells #[.slice A0_0 l0_0.length c0_0, .slice A0_1 l0_1.length c0_1] 24 (0, 0)) (by (repeat apply bX); refine blk_far ?_ NB305_339.out _; (repeat apply bX); refine blk_far ?_ NB305_339.out _; (repeat apply bX); exact BK305.out) hb); have n9_ := Aside0.mk (blk_below (g := gb306) (o := .cells #[.int .i64 a1_0, .int .i64 a1_1, .int .i64 a1_2, .int .i64 a1_3, .int .i64 a1_4, .int .i64 a1_5, .int .i64 a1_6, .slice A1_7 l1_7.length c1_7] 32 (0, 0)) (by (repeat apply bX); refine blk_far ?_ NB306_339.out _; (repeat apply bX); refine blk_far ?_ NB306_339.out _; (repeat apply bX); exact BK306.out) hb); have n10_ := Aside0.mk (blk_below (g := gb332) (o := .cells #[.slice Ao42 t325.length co42, .slice Ao44 t328.length co44] 27 (0, 0)) (by (repeat apply bX); refine blk_far ?_ NB332_339.out _; (repeat apply bX); refine blk_far ?_ NB332_339.out _; (repeat apply bX); exact BK332.out) hb); have n11_ := Aside0.mk (blk_below (g := gb339) (o := .cells #[.slice Ao50 t333.length co50, .slice Ao55 t336.length co55] 27 (0, 0)) (by (repeat apply bX); refine blk_put (cs := #[.slice Ao50 t333.length co50, .slice none 0 0]) ?_ 1 _ rfl; (repeat apply bX); refine blk_put (cs := #[.slice none 0 0, .slice none 0 0]) ?_ 0 _ rfl; (repeat apply bX); exact BK339.out) hb); have n12_ := Aside0.mk (below_step (by repeat (first | (with_reducible first | exact HB.out | apply below_alloc | apply pw_below_drewN | apply below_drew1 | refine below_set ?_ GE305.out | refine below_set ?_ GE306.out | refine below_set ?_ GE332.out | refine below_set ?_ GE339.out) | exact HB.out)) hb); clear HO311; clear HO314; clear HO324; clear HO327; clear HO330; clear HO335; clear HO338; clear BK305; clear BK306; clear BK332; clear BK339; clear HB; have HO311 := n0_; have HO314 := n1_; have HO324 := n2_; have HO327 := n3_; have HO330 := n4_; have HO335 := n5_; have HO338 := n6_; have HO349 := n7_; have BK305 := n8_; have BK306 := n9_; have BK332 := n10_; have BK339 := n11_; have HB := n12_; clear n0_ n1_ n2_ n3_ n4_ n5_ n6_ n7_ n8_ n9_ n10_ n11_ n12_; (try clear hb); (try clear hb2); (try clear hk); (try clear hi); (try clear ho0)) | ((with_reducible refine gate_dst (N := 9) rfl ?_); refine box_event ?hg (N := 9) ?hd (cs := #[.int .i64 0, .int .i64 0, .int .i64 0, .int .i64 0, .int .i64 0, .int .i64 0, .int .i64 0, .slice none 0 0]) (t := 35) ?hr ?_; (case hd => rfl); (case hg => rfl); (case hr => first | (go_simp; done) | (go_simp; rfl)); intro gb350 hg w59 hbox hb; have n0_ := Aside0.mk (Kd.R_below (rY HO311.out) hb); have n1_ := Aside0.mk (Kd.R_below (rY HO314.out) hb); have n2_ := Aside0.mk (Kd.R_below (rY HO324.out) hb); have n3_ := Aside0.mk (Kd.R_below (rY HO327.out) hb); have n4_ := Aside0.mk (Kd.R_below (rY HO330.out) hb); have n5_ := Aside0.mk (Kd.R_below (rY HO335.out) hb); have n6_ := Aside0.mk (Kd.R_below (rY HO338.out) hb); have n7_ := Aside0.mk (Kd.R_below (rY HO349.out) hb); have n8_ := Aside0.mk (blk_below (bY BK305.out) hb); have n9_ := Aside0.mk (blk_below (bY BK306.out) hb); have n10_ := Aside0.mk (blk_below (bY BK332.out) hb); have n11_ := Aside0.mk (blk_below (bY BK339.out) hb); have n12_ := Aside0.mk (below_step (by repeat (first | (with_reducible first | exact HB.out | apply below_alloc | apply pw_below_drewN | apply below_drew1 | refine below_set ?_ GE305.out | refine below_set ?_ GE306.out | refine below_set ?_ GE332.out | refine below_set ?_ GE339.out) | exact HB.out)) hb); have n13_ := Aside0.mk (hbox); have n14_ := Aside0.mk ((by rw [hg]; exact (below_size (by repeat (first | (with_reducible first | exact HB.out | apply below_alloc | apply pw_below_drewN | apply below_drew1 | refine below_set ?_ GE305.out | refine below_set ?_ GE306.out | refine below_set ?_ GE332.out | refine below_set ?_ GE339.out) | exact HB.out))) : w.heap.size ≤ gb350)); have n15_ := Aside0.mk ((by rw [hg]; exact (below_size (by repeat (first | (with_reducible first | exact HB.out | apply below_alloc | apply pw_below_drewN | apply below_drew1 | refine below_set ?_ GE305.out | refine below_set ?_ GE306.out | refine below_set ?_ GE332.out | refine below_set ?_ GE339.out) | exact HB.out))) : w.heap.size ≤ gb350)); have n16_ := Aside0.mk ((by rw [hg]; exact Nat.ne_of_lt (blk_lt (bY BK305.out)) : gb305 ≠ gb350)); have n17_ := Aside0.mk ((by rw [hg]; exact Nat.ne_of_gt (blk_lt (bY BK305.out)) : gb350 ≠ gb305)); have n18_ := Aside0.mk ((by rw [hg]; exact Nat.ne_of_lt (blk_lt (bY BK306.out)) : gb306 ≠ gb350)); have n19_ := Aside0.mk ((by rw [hg]; exact Nat.ne_of_gt (blk_lt (bY BK306.out)) : gb350 ≠ gb306)); have n20_ := Aside0.mk ((by rw [hg]; exact Nat.ne_of_lt (blk_lt (bY BK332.out)) : gb332 ≠ gb350)); have n21_ := Aside0.mk ((by rw [hg]; exact Nat.ne_of_gt (blk_lt (bY BK332.out)) : gb350 ≠ gb332)); have n22_ := Aside0.mk ((by rw [hg]; exact Nat.ne_of_lt (blk_lt (bY BK339.out)) : gb339 ≠ gb350)); have n23_ := Aside0.mk ((by rw [hg]; exact Nat.ne_of_gt (blk_lt (bY BK339.out)) : gb350 ≠ gb339)); clear HO311; clear HO314; clear HO324; clear HO327; clear HO330; clear HO335; clear HO338; clear HO349; clear BK305; clear BK306; clear BK332; clear BK339; clear HB; have HO311 := n0_; have HO314 := n1_; have HO324 := n2_; have HO327 := n3_; have HO330 := n4_; have HO335 := n5_; have HO338 := n6_; have HO349 := n7_; have BK305 := n8_; have BK306 := n9_; have BK332 := n10_; have BK339 := n11_; have HB := n12_; have BK350 := n13_; have GW350 := n14_; have GE350 := n15_; have NB305_350 := n16_; have NB350_305 := n17_; have NB306_350 := n18_; have NB350_306 := n19_; have NB332_350 := n20_; have NB350_332 := n21_; have NB339_350 := n22_; have NB350_339 := n23_; clear n0_ n1_ n2_ n3_ n4_ n5_ n6_ n7_ n8_ n9_ n10_ n11_ n12_ n13_ n14_ n15_ n16_ n17_ n18_ n19_ n20_ n21_ n22_ n23_; clear hb hbox hg; have hnb60 := NB350_305.out; have hnc60 := NB305_350.out; have hnb61 := NB350_306.out; have hnc61 := NB306_350.out; have hnb62 := NB350_332.out; have hnc62 := NB332_350.out; have hnb63 := NB350_339.out; have hnc63 := NB339_350.out; have hcz64_0 : w59.cell? ⟨gb350, 0, none⟩ = some (.int .i64 0) := (blk_cell BK350.out 0).trans rfl; have hcz64_1 : w59.cell? ⟨gb350, 1, none⟩ = some (.int .i64 0) := (blk_cell BK350.out 1).trans rfl; have hcz64_2 : w59.cell? ⟨gb350, 2, none⟩ = some (.int .i64 0) := (blk_cell BK350.out 2).trans rfl; have hcz64_3 : w59.cell? ⟨gb350, 3, none⟩ = some (.int .i64 0) := (blk_cell BK350.out 3).trans rfl; have hcz64_4 : w59.cell? ⟨gb350, 4, none⟩ = some (.int .i64 0) := (blk_cell BK350.out 4).trans rfl; have hcz64_5 : w59.cell? ⟨gb350, 5, none⟩ = some (.int .i64 0) := (blk_cell BK350.out 5).trans rfl; have hcz64_6 : w59.cell? ⟨gb350, 6, none⟩ = some (.int .i64 0) := (blk_cell BK350.out 6).trans rfl; have hcz64_7 : w59.cell? ⟨gb350, 7, none⟩ = some (.slice none 0 0) := (blk_cell BK350.out 7).trans rfl; have hfz64_0 := blk_frozen BK350.out 0; have hfz64_1 := blk_frozen BK350.out 1; have hfz64_2 := blk_frozen BK350.out 2; have hfz64_3 := blk_frozen BK350.out 3; have hfz64_4 := blk_frozen BK350.out 4; have hfz64_5 := blk_frozen BK350.out 5; have hfz64_6 := blk_frozen BK350.out 6; have hfz64_7 := blk_frozen BK350.out 7; obtain ⟨Ao65, co65, eo65⟩ := Kd.R_slice HO349.out; subst eo65; have hcz66_0 : w59.cell? ⟨gb339, 0, none⟩ = some (.slice Ao50 t333.length co50) := (blk_cell BK339.out 0).trans rfl; have hcz66_1 : w59.cell? ⟨gb339, 1, none⟩ = some (.slice Ao55 t336.length co55) := (blk_cell BK339.out 1).trans rfl; have hfz66_0 := blk_frozen BK339.out 0; have hfz66_1 := blk_frozen BK339.out 1) | ((with_reducible refine gate_callee (f := 61) rfl ?_); refine goesL_ (some 42) rfl rfl Try.func61 (by kernel_rfl) rfl #[.agg #[.slice Ao50 t333.length co50, .slice Ao55 t336.length co55], .agg #[.int .i64 t340, .int .i64 t341, .int .i64 t342, .int .i64 t343, .int .i64 t344, .int .i64 t345, .int .i64 t346, .slice Ao65 t347.length co65]] rfl (by (try simp only [List.map_toArray, List.map_cons, List.map_nil]); first | done | rfl) ?_; (with_reducible refine (impl_SpendCredits.calls k _ _ t333 _ _ t336 t340 t341 t342 t343 t344 t345 t346 _ _ t347 t351 t354 t357 _ ?side1 ?side2 ?side3 ?side4 ?side5 ?side6 A24.out).mono ?_); (case side1 => refine (Kd.R_reads' (e := 3) (base := w.heap.size) (ok := fun k_ => ((((((some k_ ≠ (.slice Ao55 t336.length co55 : Value).ownBlock ∧ some k_ ≠ (v310 : Value).ownBlock) ∧ some k_ ≠ (v313 : Value).ownBlock) ∧ some k_ ≠ (v323 : Value).ownBlock) ∧ some k_ ≠ (.slice Ao42 t325.length co42 : Value).ownBlock) ∧ some k_ ≠ (.slice Ao44 t328.length co44 : Value).ownBlock) ∧ some k_ ≠ (.slice Ao65 t347.length co65 : Value).ownBlock)) (n := t333.length) (c := co50) ?_).2.2; exact (by (repeat apply rX); exact (Kd.R_mono (Kd.R_far (p := ⟨gb350, 7, none⟩) (Kd.R_far (p := ⟨gb350, 6, none⟩) (Kd.R_far (p := ⟨gb350, 5, none⟩) (Kd.R_far (p := ⟨gb350, 4, none⟩) (Kd.R_far (p := ⟨gb350, 3, none⟩) (Kd.R_far (p := ⟨gb350, 2, none⟩) (Kd.R_far (p := ⟨gb350, 1, none⟩) (Kd.R_far (p := ⟨gb350, 0, none⟩) (Kd.R_types HO335.out BK350.out (by decide)) (fun _ hk => hk.2) (.int .i64 t340)) (fun _ hk => hk.2) (.int .i64 t341)) (fun _ hk => hk.2) (.int .i64 t342)) (fun _ hk => hk.2) (.int .i64 t343)) (fun _ hk => hk.2) (.int .i64 t344)) (fun _ hk => hk.2) (.int .i64 t345)) (fun _ hk => hk.2) (.int .i64 t346)) (fun _ hk => hk.2) (.slice Ao65 t347.length co65)) (fun _ h_ => h_.1)))); (case side2 => exact (Kd.R_reads' HO335.out).2.1); (case side3 => refine (Kd.R_reads' (e := 3) (base := w.heap.size) (ok := fun k_ => ((((((some k_ ≠ (.slice Ao50 t333.length co50 : Value).ownBlock ∧ some k_ ≠ (v310 : Value).ownBlock) ∧ some k_ ≠ (v313 : Value).ownBlock) ∧ some k_ ≠ (v323 : Value).ownBlock) ∧ some k_ ≠ (.slice Ao42 t325.length co42 : Value).ownBlock) ∧ some k_ ≠ (.slice Ao44 t328.length co44 : Value).ownBlock) ∧ some k_ ≠ (.slice Ao65 t347.length co65 : Value).ownBlock)) (n := t336.length) (c := co55) ?_).2.2; exact (by (repeat apply rX); exact (Kd.R_mono (Kd.R_far (p := ⟨gb350, 7, none⟩) (Kd.R_far (p := ⟨gb350, 6, none⟩) (Kd.R_far (p := ⟨gb350, 5, none⟩) (Kd.R_far (p := ⟨gb350, 4, none⟩) (Kd.R_far (p := ⟨gb350, 3, none⟩) (Kd.R_far (p := ⟨gb350, 2, none⟩) (Kd.R_far (p := ⟨gb350, 1, none⟩) (Kd.R_far (p := ⟨gb350, 0, none⟩) (Kd.R_types HO338.out BK350.out (by decide)) (fun _ hk => hk.2) (.int .i64 t340)) (fun _ hk => hk.2) (.int .i64 t341)) (fun _ hk => hk.2) (.int .i64 t342)) (fun _ hk => hk.2) (.int .i64 t343)) (fun _ hk => hk.2) (.int .i64 t344)) (fun _ hk => hk.2) (.int .i64 t345)) (fun _ hk => hk.2) (.int .i64 t346)) (fun _ hk => hk.2) (.slice Ao65 t347.length co65)) (fun _ h_ => h_.1)))); (case side4 => exact (Kd.R_reads' HO338.out).2.1); (case side5 => refine (Kd.R_reads' (e := 3) (base := w.heap.size) (ok := fun k_ => (((((((True ∧ some k_ ≠ (v310 : Value).ownBlock) ∧ some k_ ≠ (v313 : Value).ownBlock) ∧ some k_ ≠ (v323 : Value).ownBlock) ∧ some k_ ≠ (.slice Ao42 t325.length co42 : Value).ownBlock) ∧ some k_ ≠ (.slice Ao44 t328.length co44 : Value).ownBlock) ∧ some k_ ≠ (.slice Ao50 t333.length co50 : Value).ownBlock) ∧ some k_ ≠ (.slice Ao55 t336.length co55 : Value).ownBlock)) (n := t347.length) (c := co65) ?_).2.2; exact (by (repeat apply rX); exact (Kd.R_mono (Kd.R_far (p := ⟨gb350, 7, none⟩) (Kd.R_far (p := ⟨gb350, 6, none⟩) (Kd.R_far (p := ⟨gb350, 5, none⟩) (Kd.R_far (p := ⟨gb350, 4, none⟩) (Kd.R_far (p := ⟨gb350, 3, none⟩) (Kd.R_far (p := ⟨gb350, 2, none⟩) (Kd.R_far (p := ⟨gb350, 1, none⟩) (Kd.R_far (p := ⟨gb350, 0, none⟩) (Kd.R_types HO349.out BK350.out (by decide)) (fun _ hk => hk.2) (.int .i64 t340)) (fun _ hk => hk.2) (.int .i64 t341)) (fun _ hk => hk.2) (.int .i64 t342)) (fun _ hk => hk.2) (.int .i64 t343)) (fun _ hk => hk.2) (.int .i64 t344)) (fun _ hk => hk.2) (.int .i64 t345)) (fun _ hk => hk.2) (.int .i64 t346)) (fun _ hk => hk.2) (.slice Ao65 t347.length co65)) (fun _ h_ => h_.1)))); (case side6 => exact (Kd.R_reads' HO349.out).2.1); rintro e w67 ⟨v352, v355, rfl, ho0, ho1, hb⟩; refine ⟨_, rfl, ?_⟩; have n0_ := Aside0.mk (Kd.R_mono (Kd.R_told (Kd.R_told (Kd.R_old (by (repeat apply rX); exact (Kd.R_mono (Kd.R_far (p := ⟨gb350, 7, none⟩) (Kd.R_far (p := ⟨gb350, 6, none⟩) (Kd.R_far (p := ⟨gb350, 5, none⟩) (Kd.R_far (p := ⟨gb350, 4, none⟩) (Kd.R_far (p := ⟨gb350, 3, none⟩) (Kd.R_far (p := ⟨gb350, 2, none⟩) (Kd.R_far (p := ⟨gb350, 1, none⟩) (Kd.R_far (p := ⟨gb350, 0, none⟩) (Kd.R_types HO311.out BK350.out (by decide)) (fun _ hk => hk.2) (.int .i64 t340)) (fun _ hk => hk.2) (.int .i64 t341)) (fun _ hk => hk.2) (.int .i64 t342)) (fun _ hk => hk.2) (.int .i64 t343)) (fun _ hk => hk.2) (.int .i64 t344)) (fun _ hk => hk.2) (.int .i64 t345)) (fun _ hk => hk.2) (.int .i64 t346)) (fun _ hk => hk.2) (.slice Ao65 t347.length co65)) (fun _ h_ => h_.1))) hb) (Kd.R_base ho0)) (Kd.R_base ho1)) (fun _ h_ => h_.1)); have n1_ := Aside0.mk (Kd.R_mono (Kd.R_told (Kd.R_told (Kd.R_old (by (repeat apply rX); exact (Kd.R_mono (Kd.R_far (p := ⟨gb350, 7, none⟩) (Kd.R_far (p := ⟨gb350, 6, none⟩) (Kd.R_far (p := ⟨gb350, 5, none⟩) (Kd.R_far (p := ⟨gb350, 4, none⟩) (Kd.R_far (p := ⟨gb350, 3, none⟩) (Kd.R_far (p := ⟨gb350, 2, none⟩) (Kd.R_far (p := ⟨gb350, 1, none⟩) (Kd.R_far (p := ⟨gb350, 0, none⟩) (Kd.R_types HO314.out BK350.out (by decide)) (fun _ hk => hk.2) (.int .i64 t340)) (fun _ hk => hk.2) (.int .i64 t341)) (fun _ hk => hk.2) (.int .i64 t342)) (fun _ hk => hk.2) (.int .i64 t343)) (fun _ hk => hk.2) (.int .i64 t344)) (fun _ hk => hk.2) (.int .i64 t345)) (fun _ hk => hk.2) (.int .i64 t346)) (fun _ hk => hk.2) (.slice Ao65 t347.length co65)) (fun _ h_ => h_.1))) hb) (Kd.R_base ho0)) (Kd.R_base ho1)) (fun _ h_ => h_.1)); have n2_ := Aside0.mk (Kd.R_mono (Kd.R_told (Kd.R_told (Kd.R_old (by (repeat apply rX); exact (Kd.R_mono (Kd.R_far (p := ⟨gb350, 7, none⟩) (Kd.R_far (p := ⟨gb350, 6, none⟩) (Kd.R_far (p := ⟨gb350, 5, none⟩) (Kd.R_far (p := ⟨gb350, 4, none⟩) (Kd.R_far (p := ⟨gb350, 3, none⟩) (Kd.R_far (p := ⟨gb350, 2, none⟩) (Kd.R_far (p := ⟨gb350, 1, none⟩) (Kd.R_far (p := ⟨gb350, 0, none⟩) (Kd.R_types HO324.out BK350.out (by decide)) (fun _ hk => hk.2) (.int .i64 t340)) (fun _ hk => hk.2) (.int .i64 t341)) (fun _ hk => hk.2) (.int .i64 t342)) (fun _ hk => hk.2) (.int .i64 t343)) (fun _ hk => hk.2) (.int .i64 t344)) (fun _ hk => hk.2) (.int .i64 t345)) (fun _ hk => hk.2) (.int .i64 t346)) (fun _ hk => hk.2) (.slice Ao65 t347.length co65)) (fun _ h_ => h_.1))) hb) (Kd.R_base ho0)) (Kd.R_base ho1)) (fun _ h_ => h_.1)); have n3_ := Aside0.mk (Kd.R_mono (Kd.R_told (Kd.R_told (Kd.R_old (by (repeat apply rX); exact (Kd.R_mono (Kd.R_far (p := ⟨gb350, 7, none⟩) (Kd.R_far (p := ⟨gb350, 6, none⟩) (Kd.R_far (p := ⟨gb350, 5, none⟩) (Kd.R_far (p := ⟨gb350, 4, none⟩) (Kd.R_far (p := ⟨gb350, 3, none⟩) (Kd.R_far (p := ⟨gb350, 2, none⟩) (Kd.R_far (p := ⟨gb350, 1, none⟩) (Kd.R_far (p := ⟨gb350, 0, none⟩) (Kd.R_types HO327.out BK350.out (by decide)) (fun _ hk => hk.2) (.int .i64 t340)) (fun _ hk => hk.2) (.int .i64 t341)) (fun _ hk => hk.2) (.int .i64 t342)) (fun _ hk => hk.2) (.int .i64 t343)) (fun _ hk => hk.2) (.int .i64 t344)) (fun _ hk => hk.2) (.int .i64 t345)) (fun _ hk => hk.2) (.int .i64 t346)) (fun _ hk => hk.2) (.slice Ao65 t347.length co65)) (fun _ h_ => h_.1))) hb) (Kd.R_base ho0)) (Kd.R_base ho1)) (fun _ h_ => h_.1)); have n4_ := Aside0.mk (Kd.R_mono (Kd.R_told (Kd.R_told (Kd.R_old (by (repeat apply rX); exact (Kd.R_mono (Kd.R_far (p := ⟨gb350, 7, none⟩) (Kd.R_far (p := ⟨gb350, 6, none⟩) (Kd.R_far (p := ⟨gb350, 5, none⟩) (Kd.R_far (p := ⟨gb350, 4, none⟩) (Kd.R_far (p := ⟨gb350, 3, none⟩) (Kd.R_far (p := ⟨gb350, 2, none⟩) (Kd.R_far (p := ⟨gb350, 1, none⟩) (Kd.R_far (p := ⟨gb350, 0, none⟩) (Kd.R_types HO330.out BK350.out (by decide)) (fun _ hk => hk.2) (.int .i64 t340)) (fun _ hk => hk.2) (.int .i64 t341)) (fun _ hk => hk.2) (.int .i64 t342)) (fun _ hk => hk.2) (.int .i64 t343)) (fun _ hk => hk.2) (.int .i64 t344)) (fun _ hk => hk.2) (.int .i64 t345)) (fun _ hk => hk.2) (.int .i64 t346)) (fun _ hk => hk.2) (.slice Ao65 t347.length co65)) (fun _ h_ => h_.1))) hb) (Kd.R_base ho0)) (Kd.R_base ho1)) (fun _ h_ => h_.1)); have n5_ := Aside0.mk (Kd.R_mono (Kd.R_told (Kd.R_told (Kd.R_old (by (repeat apply rX); exact (Kd.R_mono (Kd.R_far (p := ⟨gb350, 7, none⟩) (Kd.R_far (p := ⟨gb350, 6, none⟩) (Kd.R_far (p := ⟨gb350, 5, none⟩) (Kd.R_far (p := ⟨gb350, 4, none⟩) (Kd.R_far (p := ⟨gb350, 3, none⟩) (Kd.R_far (p := ⟨gb350, 2, none⟩) (Kd.R_far (p := ⟨gb350, 1, none⟩) (Kd.R_far (p := ⟨gb350, 0, none⟩) (Kd.R_types HO335.out BK350.out (by decide)) (fun _ hk => hk.2) (.int .i64 t340)) (fun _ hk => hk.2) (.int .i64 t341)) (fun _ hk => hk.2) (.int .i64 t342)) (fun _ hk => hk.2) (.int .i64 t343)) (fun _ hk => hk.2) (.int .i64 t344)) (fun _ hk => hk.2) (.int .i64 t345)) (fun _ hk => hk.2) (.int .i64 t346)) (fun _ hk => hk.2) (.slice Ao65 t347.length co65)) (fun _ h_ => h_.1))) hb) (Kd.R_base ho0)) (Kd.R_base ho1)) (fun _ h_ => h_.1)); have n6_ := Aside0.mk (Kd.R_mono (Kd.R_told (Kd.R_told (Kd.R_old (by (repeat apply rX); exact (Kd.R_mono (Kd.R_far (p := ⟨gb350, 7, none⟩) (Kd.R_far (p := ⟨gb350, 6, none⟩) (Kd.R_far (p := ⟨gb350, 5, none⟩) (Kd.R_far (p := ⟨gb350, 4, none⟩) (Kd.R_far (p := ⟨gb350, 3, none⟩) (Kd.R_far (p := ⟨gb350, 2, none⟩) (Kd.R_far (p := ⟨gb350, 1, none⟩) (Kd.R_far (p := ⟨gb350, 0, none⟩) (Kd.R_types HO338.out BK350.out (by decide)) (fun _ hk => hk.2) (.int .i64 t340)) (fun _ hk => hk.2) (.int .i64 t341)) (fun _ hk => hk.2) (.int .i64 t342)) (fun _ hk => hk.2) (.int .i64 t343)) (fun _ hk => hk.2) (.int .i64 t344)) (fun _ hk => hk.2) (.int .i64 t345)) (fun _ hk => hk.2) (.int .i64 t346)) (fun _ hk => hk.2) (.slice Ao65 t347.length co65)) (fun _ h_ => h_.1))) hb) (Kd.R_base ho0)) (Kd.R_base ho1)) (fun _ h_ => h_.1)); have n7_ := Aside0.mk (Kd.R_mono (Kd.R_told (Kd.R_told (Kd.R_old (by (repeat apply rX); exact (Kd.R_mono (Kd.R_far (p := ⟨gb350, 7, none⟩) (Kd.R_far (p := ⟨gb350, 6, none⟩) (Kd.R_far (p := ⟨gb350, 5, none⟩) (Kd.R_far (p := ⟨gb350, 4, none⟩) (Kd.R_far (p := ⟨gb350, 3, none⟩) (Kd.R_far (p := ⟨gb350, 2, none⟩) (Kd.R_far (p := ⟨gb350, 1, none⟩) (Kd.R_far (p := ⟨gb350, 0, none⟩) (Kd.R_types HO349.out BK350.out (by decide)) (fun _ hk => hk.2) (.int .i64 t340)) (fun _ hk => hk.2) (.int .i64 t341)) (fun _ hk => hk.2) (.int .i64 t342)) (fun _ hk => hk.2) (.int .i64 t343)) (fun _ hk => hk.2) (.int .i64 t344)) (fun _ hk => hk.2) (.int .i64 t345)) (fun _ hk => hk.2) (.int .i64 t346)) (fun _ hk => hk.2) (.slice Ao65 t347.length co65)) (fun _ h_ => h_.1))) hb) (Kd.R_base ho0)) (Kd.R_base ho1)) (fun _ h_ => h_.1)); have n8_ := Aside0.mk (Kd.R_lower (Kd.R_new' (Kd.R_new' (Kd.R_new' (Kd.R_new' (Kd.R_new' (Kd.R_new' (Kd.R_new' (Kd.R_new' ho0 (Kd.R_lt (by (repeat apply rX); exact (Kd.R_mono (Kd.R_far (p := ⟨gb350, 7, none⟩) (Kd.R_far (p := ⟨gb350, 6, none⟩) (Kd.R_far (p := ⟨gb350, 5, none⟩) (Kd.R_far (p := ⟨gb350, 4, none⟩) (Kd.R_far (p := ⟨gb350, 3, none⟩) (Kd.R_far (p := ⟨gb350, 2, none⟩) (Kd.R_far (p := ⟨gb350, 1, none⟩) (Kd.R_far (p := ⟨gb350, 0, none⟩) (Kd.R_types HO311.out BK350.out (by decide)) (fun _ hk => hk.2) (.int .i64 t340)) (fun _ hk => hk.2) (.int .i64 t341)) (fun _ hk => hk.2) (.int .i64 t342)) (fun _ hk => hk.2) (.int .i64 t343)) (fun _ hk => hk.2) (.int .i64 t344)) (fun _ hk => hk.2) (.int .i64 t345)) (fun _ hk => hk.2) (.int .i64 t346)) (fun _ hk => hk.2) (.slice Ao65 t347.length co65)) (fun _ h_ => h_.1))))) (Kd.R_lt (by (repeat apply rX); exact (Kd.R_mono (Kd.R_far (p := ⟨gb350, 7, none⟩) (Kd.R_far (p := ⟨gb350, 6, none⟩) (Kd.R_far (p := ⟨gb350, 5, none⟩) (Kd.R_far (p := ⟨gb350, 4, none⟩) (Kd.R_far (p := ⟨gb350, 3, none⟩) (Kd.R_far (p := ⟨gb350, 2, none⟩) (Kd.R_far (p := ⟨gb350, 1, none⟩) (Kd.R_far (p := ⟨gb350, 0, none⟩) (Kd.R_types HO314.out BK350.out (by decide)) (fun _ hk => hk.2) (.int .i64 t340)) (fun _ hk => hk.2) (.int .i64 t341)) (fun _ hk => hk.2) (.int .i64 t342)) (fun _ hk => hk.2) (.int .i64 t343)) (fun _ hk => hk.2) (.int .i64 t344)) (fun _ hk => hk.2) (.int .i64 t345)) (fun _ hk => hk.2) (.int .i64 t346)) (fun _ hk => hk.2) (.slice Ao65 t347.length co65)) (fun _ h_ => h_.1))))) (Kd.R_lt (by (repeat apply rX); exact (Kd.R_mono (Kd.R_far (p := ⟨gb350, 7, none⟩) (Kd.R_far (p := ⟨gb350, 6, none⟩) (Kd.R_far (p := ⟨gb350, 5, none⟩) (Kd.R_far (p := ⟨gb350, 4, none⟩) (Kd.R_far (p := ⟨gb350, 3, none⟩) (Kd.R_far (p := ⟨gb350, 2, none⟩) (Kd.R_far (p := ⟨gb350, 1, none⟩) (Kd.R_far (p := ⟨gb350, 0, none⟩) (Kd.R_types HO324.out BK350.out (by decide)) (fun _ hk => hk.2) (.int .i64 t340)) (fun _ hk => hk.2) (.int .i64 t341)) (fun _ hk => hk.2) (.int .i64 t342)) (fun _ hk => hk.2) (.int .i64 t343)) (fun _ hk => hk.2) (.int .i64 t344)) (fun _ hk => hk.2) (.int .i64 t345)) (fun _ hk => hk.2) (.int .i64 t346)) (fun _ hk => hk.2) (.slice Ao65 t347.length co65)) (fun _ h_ => h_.1))))) (Kd.R_lt (by (repeat apply rX); exact (Kd.R_mono (Kd.R_far (p := ⟨gb350, 7, none⟩) (Kd.R_far (p := ⟨gb350, 6, none⟩) (Kd.R_far (p := ⟨gb350, 5, none⟩) (Kd.R_far (p := ⟨gb350, 4, none⟩) (Kd.R_far (p := ⟨gb350, 3, none⟩) (Kd.R_far (p := ⟨gb350, 2, none⟩) (Kd.R_far (p := ⟨gb350, 1, none⟩) (Kd.R_far (p := ⟨gb350, 0, none⟩) (Kd.R_types HO327.out BK350.out (by decide)) (fun _ hk => hk.2) (.int .i64 t340)) (fun _ hk => hk.2) (.int .i64 t341)) (fun _ hk => hk.2) (.int .i64 t342)) (fun _ hk => hk.2) (.int .i64 t343)) (fun _ hk => hk.2) (.int .i64 t344)) (fun _ hk => hk.2) (.int .i64 t345)) (fun _ hk => hk.2) (.int .i64 t346)) (fun _ hk => hk.2) (.slice Ao65 t347.length co65)) (fun _ h_ => h_.1))))) (Kd.R_lt (by (repeat apply rX); exact (Kd.R_mono (Kd.R_far (p := ⟨gb350, 7, none⟩) (Kd.R_far (p := ⟨gb350, 6, none⟩) (Kd.R_far (p := ⟨gb350, 5, none⟩) (Kd.R_far (p := ⟨gb350, 4, none⟩) (Kd.R_far (p := ⟨gb350, 3, none⟩) (Kd.R_far (p := ⟨gb350, 2, none⟩) (Kd.R_far (p := ⟨gb350, 1, none⟩) (Kd.R_far (p := ⟨gb350, 0, none⟩) (Kd.R_types HO330.out BK350.out (by decide)) (fun _ hk => hk.2) (.int .i64 t340)) (fun _ hk => hk.2) (.int .i64 t341)) (fun _ hk => hk.2) (.int .i64 t342)) (fun _ hk => hk.2) (.int .i64 t343)) (fun _ hk => hk.2) (.int .i64 t344)) (fun _ hk => hk.2) (.int .i64 t345)) (fun _ hk => hk.2) (.int .i64 t346)) (fun _ hk => hk.2) (.slice Ao65 t347.length co65)) (fun _ h_ => h_.1))))) (Kd.R_lt (by (repeat apply rX); exact (Kd.R_mono (Kd.R_far (p := ⟨gb350, 7, none⟩) (Kd.R_far (p := ⟨gb350, 6, none⟩) (Kd.R_far (p := ⟨gb350, 5, none⟩) (Kd.R_far (p := ⟨gb350, 4, none⟩) (Kd.R_far (p := ⟨gb350, 3, none⟩) (Kd.R_far (p := ⟨gb350, 2, none⟩) (Kd.R_far (p := ⟨gb350, 1, none⟩) (Kd.R_far (p := ⟨gb350, 0, none⟩) (Kd.R_types HO335.out BK350.out (by decide)) (fun _ hk => hk.2) (.int .i64 t340)) (fun _ hk => hk.2) (.int .i64 t341)) (fun _ hk => hk.2) (.int .i64 t342)) (fun _ hk => hk.2) (.int .i64 t343)) (fun _ hk => hk.2) (.int .i64 t344)) (fun _ hk => hk.2) (.int .i64 t345)) (fun _ hk => hk.2) (.int .i64 t346)) (fun _ hk => hk.2) (.slice Ao65 t347.length co65)) (fun _ h_ => h_.1))))) (Kd.R_lt (by (repeat apply rX); exact (Kd.R_mono (Kd.R_far (p := ⟨gb350, 7, none⟩) (Kd.R_far (p := ⟨gb350, 6, none⟩) (Kd.R_far (p := ⟨gb350, 5, none⟩) (Kd.R_far (p := ⟨gb350, 4, none⟩) (Kd.R_far (p := ⟨gb350, 3, none⟩) (Kd.R_far (p := ⟨gb350, 2, none⟩) (Kd.R_far (p := ⟨gb350, 1, none⟩) (Kd.R_far (p := ⟨gb350, 0, none⟩) (Kd.R_types HO338.out BK350.out (by decide)) (fun _ hk => hk.2) (.int .i64 t340)) (fun _ hk => hk.2) (.int .i64 t341)) (fun _ hk => hk.2) (.int .i64 t342)) (fun _ hk => hk.2) (.int .i64 t343)) (fun _ hk => hk.2) (.int .i64 t344)) (fun _ hk => hk.2) (.int .i64 t345)) (fun _ hk => hk.2) (.int .i64 t346)) (fun _ hk => hk.2) (.slice Ao65 t347.length co65)) (fun _ h_ => h_.1))))) (Kd.R_lt (by (repeat apply rX); exact (Kd.R_mono (Kd.R_far (p := ⟨gb350, 7, none⟩) (Kd.R_far (p := ⟨gb350, 6, none⟩) (Kd.R_far (p := ⟨gb350, 5, none⟩) (Kd.R_far (p := ⟨gb350, 4, none⟩) (Kd.R_far (p := ⟨gb350, 3, none⟩) (Kd.R_far (p := ⟨gb350, 2, none⟩) (Kd.R_far (p := ⟨gb350, 1, none⟩) (Kd.R_far (p := ⟨gb350, 0, none⟩) (Kd.R_types HO349.out BK350.out (by decide)) (fun _ hk => hk.2) (.int .i64 t340)) (fun _ hk => hk.2) (.int .i64 t341)) (fun _ hk => hk.2) (.int .i64 t342)) (fun _ hk => hk.2) (.int .i64 t343)) (fun _ hk => hk.2) (.int .i64 t344)) (fun _ hk => hk.2) (.int .i64 t345)) (fun _ hk => hk.2) (.int .i64 t346)) (fun _ hk => hk.2) (.slice Ao65 t347.length co65)) (fun _ h_ => h_.1))))) (below_size (by repeat (first | (with_reducible first | exact HB.out | apply below_alloc | apply pw_below_drewN | apply below_drew1 | refine below_set ?_ GE305.out | refine below_set ?_ GE306.out | refine below_set ?_ GE332.out | refine below_set ?_ GE339.out | refine below_set ?_ GE350.out) | exact HB.out)))); have n9_ := Aside0.mk (Kd.R_lower (Kd.R_new' (Kd.R_new' (Kd.R_new' (Kd.R_new' (Kd.R_new' (Kd.R_new' (Kd.R_new' (Kd.R_new' ho1 (Kd.R_lt (by (repeat apply rX); exact (Kd.R_mono (Kd.R_far (p := ⟨gb350, 7, none⟩) (Kd.R_far (p := ⟨gb350, 6, none⟩) (Kd.R_far (p := ⟨gb350, 5, none⟩) (Kd.R_far (p := ⟨gb350, 4, none⟩) (Kd.R_far (p := ⟨gb350, 3, none⟩) (Kd.R_far (p := ⟨gb350, 2, none⟩) (Kd.R_far (p := ⟨gb350, 1, none⟩) (Kd.R_far (p := ⟨gb350, 0, none⟩) (Kd.R_types HO311.out BK350.out (by decide)) (fun _ hk => hk.2) (.int .i64 t340)) (fun _ hk => hk.2) (.int .i64 t341)) (fun _ hk => hk.2) (.int .i64 t342)) (fun _ hk => hk.2) (.int .i64 t343)) (fun _ hk => hk.2) (.int .i64 t344)) (fun _ hk => hk.2) (.int .i64 t345)) (fun _ hk => hk.2) (.int .i64 t346)) (fun _ hk => hk.2) (.slice Ao65 t347.length co65)) (fun _ h_ => h_.1))))) (Kd.R_lt (by (repeat apply rX); exact (Kd.R_mono (Kd.R_far (p := ⟨gb350, 7, none⟩) (Kd.R_far (p := ⟨gb350, 6, none⟩) (Kd.R_far (p := ⟨gb350, 5, none⟩) (Kd.R_far (p := ⟨gb350, 4, none⟩) (Kd.R_far (p := ⟨gb350, 3, none⟩) (Kd.R_far (p := ⟨gb350, 2, none⟩) (Kd.R_far (p := ⟨gb350, 1, none⟩) (Kd.R_far (p := ⟨gb350, 0, none⟩) (Kd.R_types HO314.out BK350.out (by decide)) (fun _ hk => hk.2) (.int .i64 t340)) (fun _ hk => hk.2) (.int .i64 t341)) (fun _ hk => hk.2) (.int .i64 t342)) (fun _ hk => hk.2) (.int .i64 t343)) (fun _ hk => hk.2) (.int .i64 t344)) (fun _ hk => hk.2) (.int .i64 t345)) (fun _ hk => hk.2) (.int .i64 t346)) (fun _ hk => hk.2) (.slice Ao65 t347.length co65)) (fun _ h_ => h_.1))))) (Kd.R_lt (by (repeat apply rX); exact (Kd.R_mono (Kd.R_far (p := ⟨gb350, 7, none⟩) (Kd.R_far (p := ⟨gb350, 6, none⟩) (Kd.R_far (p := ⟨gb350, 5, none⟩) (Kd.R_far (p := ⟨gb350, 4, none⟩) (Kd.R_far (p := ⟨gb350, 3, none⟩) (Kd.R_far (p := ⟨gb350, 2, none⟩) (Kd.R_far (p := ⟨gb350, 1, none⟩) (Kd.R_far (p := ⟨gb350, 0, none⟩) (Kd.R_types HO324.out BK350.out (by decide)) (fun _ hk => hk.2) (.int .i64 t340)) (fun _ hk => hk.2) (.int .i64 t341)) (fun _ hk => hk.2) (.int .i64 t342)) (fun _ hk => hk.2) (.int .i64 t343)) (fun _ hk => hk.2) (.int .i64 t344)) (fun _ hk => hk.2) (.int .i64 t345)) (fun _ hk => hk.2) (.int .i64 t346)) (fun _ hk => hk.2) (.slice Ao65 t347.length co65)) (fun _ h_ => h_.1))))) (Kd.R_lt (by (repeat apply rX); exact (Kd.R_mono (Kd.R_far (p := ⟨gb350, 7, none⟩) (Kd.R_far (p := ⟨gb350, 6, none⟩) (Kd.R_far (p := ⟨gb350, 5, none⟩) (Kd.R_far (p := ⟨gb350, 4, none⟩) (Kd.R_far (p := ⟨gb350, 3, none⟩) (Kd.R_far (p := ⟨gb350, 2, none⟩) (Kd.R_far (p := ⟨gb350, 1, none⟩) (Kd.R_far (p := ⟨gb350, 0, none⟩) (Kd.R_types HO327.out BK350.out (by decide)) (fun _ hk => hk.2) (.int .i64 t340)) (fun _ hk => hk.2) (.int .i64 t341)) (fun _ hk => hk.2) (.int .i64 t342)) (fun _ hk => hk.2) (.int .i64 t343)) (fun _ hk => hk.2) (.int .i64 t344)) (fun _ hk => hk.2) (.int .i64 t345)) (fun _ hk => hk.2) (.int .i64 t346)) (fun _ hk => hk.2) (.slice Ao65 t347.length co65)) (fun _ h_ => h_.1))))) (Kd.R_lt (by (repeat apply rX); exact (Kd.R_mono (Kd.R_far (p := ⟨gb350, 7, none⟩) (Kd.R_far (p := ⟨gb350, 6, none⟩) (Kd.R_far (p := ⟨gb350, 5, none⟩) (Kd.R_far (p := ⟨gb350, 4, none⟩) (Kd.R_far (p := ⟨gb350, 3, none⟩) (Kd.R_far (p := ⟨gb350, 2, none⟩) (Kd.R_far (p := ⟨gb350, 1, none⟩) (Kd.R_far (p := ⟨gb350, 0, none⟩) (Kd.R_types HO330.out BK350.out (by decide)) (fun _ hk => hk.2) (.int .i64 t340)) (fun _ hk => hk.2) (.int .i64 t341)) (fun _ hk => hk.2) (.int .i64 t342)) (fun _ hk => hk.2) (.int .i64 t343)) (fun _ hk => hk.2) (.int .i64 t344)) (fun _ hk => hk.2) (.int .i64 t345)) (fun _ hk => hk.2) (.int .i64 t346)) (fun _ hk => hk.2) (.slice Ao65 t347.length co65)) (fun _ h_ => h_.1))))) (Kd.R_lt (by (repeat apply rX); exact (Kd.R_mono (Kd.R_far (p := ⟨gb350, 7, none⟩) (Kd.R_far (p := ⟨gb350, 6, none⟩) (Kd.R_far (p := ⟨gb350, 5, none⟩) (Kd.R_far (p := ⟨gb350, 4, none⟩) (Kd.R_far (p := ⟨gb350, 3, none⟩) (Kd.R_far (p := ⟨gb350, 2, none⟩) (Kd.R_far (p := ⟨gb350, 1, none⟩) (Kd.R_far (p := ⟨gb350, 0, none⟩) (Kd.R_types HO335.out BK350.out (by decide)) (fun _ hk => hk.2) (.int .i64 t340)) (fun _ hk => hk.2) (.int .i64 t341)) (fun _ hk => hk.2) (.int .i64 t342)) (fun _ hk => hk.2) (.int .i64 t343)) (fun _ hk => hk.2) (.int .i64 t344)) (fun _ hk => hk.2) (.int .i64 t345)) (fun _ hk => hk.2) (.int .i64 t346)) (fun _ hk => hk.2) (.slice Ao65 t347.length co65)) (fun _ h_ => h_.1))))) (Kd.R_lt (by (repeat apply rX); exact (Kd.R_mono (Kd.R_far (p := ⟨gb350, 7, none⟩) (Kd.R_far (p := ⟨gb350, 6, none⟩) (Kd.R_far (p := ⟨gb350, 5, none⟩) (Kd.R_far (p := ⟨gb350, 4, none⟩) (Kd.R_far (p := ⟨gb350, 3, none⟩) (Kd.R_far (p := ⟨gb350, 2, none⟩) (Kd.R_far (p := ⟨gb350, 1, none⟩) (Kd.R_far (p := ⟨gb350, 0, none⟩) (Kd.R_types HO338.out BK350.out (by decide)) (fun _ hk => hk.2) (.int .i64 t340)) (fun _ hk => hk.2) (.int .i64 t341)) (fun _ hk => hk.2) (.int .i64 t342)) (fun _ hk => hk.2) (.int .i64 t343)) (fun _ hk => hk.2) (.int .i64 t344)) (fun _ hk => hk.2) (.int .i64 t345)) (fun _ hk => hk.2) (.int .i64 t346)) (fun _ hk => hk.2) (.slice Ao65 t347.length co65)) (fun _ h_ => h_.1))))) (Kd.R_lt (by (repeat apply rX); exact (Kd.R_mono (Kd.R_far (p := ⟨gb350, 7, none⟩) (Kd.R_far (p := ⟨gb350, 6, none⟩) (Kd.R_far (p := ⟨gb350, 5, none⟩) (Kd.R_far (p := ⟨gb350, 4, none⟩) (Kd.R_far (p := ⟨gb350, 3, none⟩) (Kd.R_far (p := ⟨gb350, 2, none⟩) (Kd.R_far (p := ⟨gb350, 1, none⟩) (Kd.R_far (p := ⟨gb350, 0, none⟩) (Kd.R_types HO349.out BK350.out (by decide)) (fun _ hk => hk.2) (.int .i64 t340)) (fun _ hk => hk.2) (.int .i64 t341)) (fun _ hk => hk.2) (.int .i64 t342)) (fun _ hk => hk.2) (.int .i64 t343)) (fun _ hk => hk.2) (.int .i64 t344)) (fun _ hk => hk.2) (.int .i64 t345)) (fun _ hk => hk.2) (.int .i64 t346)) (fun _ hk => hk.2) (.slice Ao65 t347.length co65)) (fun _ h_ => h_.1))))) (below_size (by repeat (first | (with_reducible first | exact HB.out | apply below_alloc | apply pw_below_drewN | apply below_drew1 | refine below_set ?_ GE305.out | refine below_set ?_ GE306.out | refine below_set ?_ GE332.out | refine below_set ?_ GE339.out | refine below_set ?_ GE350.out) | exact HB.out)))); have n10_ := Aside0.mk (blk_below (g := gb305) (o := .cells #[.slice A0_0 l0_0.length c0_0, .slice A0_1 l0_1.length c0_1] 24 (0, 0)) (by (repeat apply bX); refine blk_far ?_ NB305_350.out _; (repeat apply bX); refine blk_far ?_ NB305_350.out _; (repeat apply bX); refine blk_far ?_ NB305_350.out _; (repeat apply bX); refine blk_far ?_ NB305_350.out _; (repeat apply bX); refine blk_far ?_ NB305_350.out _; (repeat apply bX); refine blk_far ?_ NB305_350.out _; (repeat apply bX); refine blk_far ?_ NB305_350.out _; (repeat apply bX); refine blk_far ?_ NB305_350.out _; (repeat apply bX); exact BK305.out) hb); have n11_ := Aside0.mk (blk_below (g := gb306) (o := .cells #[.int .i64 a1_0, .int .i64 a1_1, .int .i64 a1_2, .int .i64 a1_3, .int .i64 a1_4, .int .i64 a1_5, .int .i64 a1_6, .slice A1_7 l1_7.length c1_7] 32 (0, 0)) (by (repeat apply bX); refine blk_far ?_ NB306_350.out _; (repeat apply bX); refine blk_far ?_ NB306_350.out _; (repeat apply bX); refine blk_far ?_ NB306_350.out _; (repeat apply bX); refine blk_far ?_ NB306_350.out _; (repeat apply bX); refine blk_far ?_ NB306_350.out _; (repeat apply bX); refine blk_far ?_ NB306_350.out _; (repeat apply bX); refine blk_far ?_ NB306_350.out _; (repeat apply bX); refine blk_far ?_ NB306_350.out _; (repeat apply bX); exact BK306.out) hb); have n12_ := Aside0.mk (blk_below (g := gb332) (o := .cells #[.slice Ao42 t325.length co42, .slice Ao44 t328.length co44] 27 (0, 0)) (by (repeat apply bX); refine blk_far ?_ NB332_350.out _; (repeat apply bX); refine blk_far ?_ NB332_350.out _; (repeat apply bX); refine blk_far ?_ NB332_350.out _; (repeat apply bX); refine blk_far ?_ NB332_350.out _; (repeat apply bX); refine blk_far ?_ NB332_350.out _; (repeat apply bX); refine blk_far ?_ NB332_350.out _; (repeat apply bX); refine blk_far ?_ NB332_350.out _; (repeat apply bX); refine blk_far ?_ NB332_350.out _; (repeat apply bX); exact BK332.out) hb); have n13_ := Aside0.mk (blk_below (g := gb339) (o := .cells #[.slice Ao50 t333.length co50, .slice Ao55 t336.length co55] 27 (0, 0)) (by (repeat apply bX); refine blk_far ?_ NB339_350.out _; (repeat apply bX); refine blk_far ?_ NB339_350.out _; (repeat apply bX); refine blk_far ?_ NB339_350.out _; (repeat apply bX); refine blk_far ?_ NB339_350.out _; (repeat apply bX); refine blk_far ?_ NB339_350.out _; (repeat apply bX); refine blk_far ?_ NB339_350.out _; (repeat apply bX); refine blk_far ?_ NB339_350.out _; (repeat apply bX); refine blk_far ?_ NB339_350.out _; (repeat apply bX); exact BK339.out) hb); have n14_ := Aside0.mk (blk_below (g := gb350) (o := .cells #[.int .i64 t340, .int .i64 t341, .int .i64 t342, .int .i64 t343, .int .i64 t344, .int .i64 t345, .int .i64 t346, .slice Ao65 t347.length co65] 35 (0, 0)) (by (repeat apply bX); refine blk_put (cs := #[.int .i64 t340, .int .i64 t341, .int .i64 t342, .int .i64 t343, .int .i64 t344, .int .i64 t345, .int .i64 t346, .slice none 0 0]) ?_ 7 _ rfl; (repeat apply bX); refine blk_put (cs := #[.int .i64 t340, .int .i64 t341, .int .i64 t342, .int .i64 t343, .int .i64 t344, .int .i64 t345, .int .i64 0, .slice none 0 0]) ?_ 6 _ rfl; (repeat apply bX); refine blk_put (cs := #[.int .i64 t340, .int .i64 t341, .int .i64 t342, .int .i64 t343, .int .i64 t344, .int .i64 0, .int .i64 0, .slice none 0 0]) ?_ 5 _ rfl; (repeat apply bX); refine blk_put (cs := #[.int .i64 t340, .int .i64 t341, .int .i64 t342, .int .i64 t343, .int .i64 0, .int .i64 0, .int .i64 0, .slice none 0 0]) ?_ 4 _ rfl; (repeat apply bX); refine blk_put (cs := #[.int .i64 t340, .int .i64 t341, .int .i64 t342, .int .i64 0, .int .i64 0, .int .i64 0, .int .i64 0, .slice none 0 0]) ?_ 3 _ rfl; (repeat apply bX); refine blk_put (cs := #[.int .i64 t340, .int .i64 t341, .int .i64 0, .int .i64 0, .int .i64 0, .int .i64 0, .int .i64 0, .slice none 0 0]) ?_ 2 _ rfl; (repeat apply bX); refine blk_put (cs := #[.int .i64 t340, .int .i64 0, .int .i64 0, .int .i64 0, .int .i64 0, .int .i64 0, .int .i64 0, .slice none 0 0]) ?_ 1 _ rfl; (repeat apply bX); refine blk_put (cs := #[.int .i64 0, .int .i64 0, .int .i64 0, .int .i64 0, .int .i64 0, .int .i64 0, .int .i64 0, .slice none 0 0]) ?_ 0 _ rfl; (repeat apply bX); exact BK350.out) hb); have n15_ := Aside0.mk (below_step (by repeat (first | (with_reducible first | exact HB.out | apply below_alloc | apply pw_below_drewN | apply below_drew1 | refine below_set ?_ GE305.out | refine below_set ?_ GE306.out | refine below_set ?_ GE332.out | refine below_set ?_ GE339.out | refine below_set ?_ GE350.out) | exact HB.out)) hb); clear HO311; clear HO314; clear HO324; clear HO327; clear HO330; clear HO335; clear HO338; clear HO349; clear BK305; clear BK306; clear BK332; clear BK339; clear BK350; clear HB; have HO311 := n0_; have HO314 := n1_; have HO324 := n2_; have HO327 := n3_; have HO330 := n4_; have HO335 := n5_; have HO338 := n6_; have HO349 := n7_; have HO353 := n8_; have HO356 := n9_; have BK305 := n10_; have BK306 := n11_; have BK332 := n12_; have BK339 := n13_; have BK350 := n14_; have HB := n15_; clear n0_ n1_ n2_ n3_ n4_ n5_ n6_ n7_ n8_ n9_ n10_ n11_ n12_ n13_ n14_ n15_; (try clear hb); (try clear hb2); (try clear hk); (try clear hi); (try clear ho0); (try clear ho1)) | ((with_reducible refine gate_dst (N := 10) rfl ?_); refine box_event ?hg (N := 10) ?hd (cs := #[.slice none 0 0, .slice none 0 0]) (t := 27) ?hr ?_; (case hd => rfl); (case hg => rfl); (case hr => first | (go_simp; done) | (go_simp; rfl)); intro gb358 hg w68 hbox hb; have n0_ := Aside0.mk (Kd.R_below (rY HO311.out) hb); have n1_ := Aside0.mk (Kd.R_below (rY HO314.out) hb); have n2_ := Aside0.mk (Kd.R_below (rY HO324.out) hb); have n3_ := Aside0.mk (Kd.R_below (rY HO327.out) hb); have n4_ := Aside0.mk (Kd.R_below (rY HO330.out) hb); have n5_ := Aside0.mk (Kd.R_below (rY HO335.out) hb); have n6_ := Aside0.mk (Kd.R_below (rY HO338.out) hb); have n7_ := Aside0.mk (Kd.R_below (rY HO349.out) hb); have n8_ := Aside0.mk (Kd.R_below (rY HO353.out) hb); have n9_ := Aside0.mk (Kd.R_below (rY HO356.out) hb); have n10_ := Aside0.mk (blk_below (bY BK305.out) hb); have n11_ := Aside0.mk (blk_below (bY BK306.out) hb); have n12_ := Aside0.mk (blk_below (bY BK332.out) hb); have n13_ := Aside0.mk (blk_below (bY BK339.out) hb); have n14_ := Aside0.mk (blk_below (bY BK350.out) hb); have n15_ := Aside0.mk (below_step (by repeat (first | (with_reducible first | exact HB.out | apply below_alloc | apply pw_below_drewN | apply below_drew1 | refine below_set ?_ GE305.out | refine below_set ?_ GE306.out | refine below_set ?_ GE332.out | refine below_set ?_ GE339.out | refine below_set ?_ GE350.out) | exact HB.out)) hb); have n16_ := Aside0.mk (hbox); have n17_ := Aside0.mk ((by rw [hg]; exact (below_size (by repeat (first | (with_reducible first | exact HB.out | apply below_alloc | apply pw_below_drewN | apply below_drew1 | refine below_set ?_ GE305.out | refine below_set ?_ GE306.out | refine below_set ?_ GE332.out | refine below_set ?_ GE339.out | refine below_set ?_ GE350.out) | exact HB.out))) : w.heap.size ≤ gb358)); have n18_ := Aside0.mk ((by rw [hg]; exact (below_size (by repeat (first | (with_reducible first | exact HB.out | apply below_alloc | apply pw_below_drewN | apply below_drew1 | refine below_set ?_ GE305.out | refine below_set ?_ GE306.out | refine below_set ?_ GE332.out | refine below_set ?_ GE339.out | refine below_set ?_ GE350.out) | exact HB.out))) : w.heap.size ≤ gb358)); have n19_ := Aside0.mk ((by rw [hg]; exact Nat.ne_of_lt (blk_lt (bY BK305.out)) : gb305 ≠ gb358)); have n20_ := Aside0.mk ((by rw [hg]; exact Nat.ne_of_gt (blk_lt (bY BK305.out)) : gb358 ≠ gb305)); have n21_ := Aside0.mk ((by rw [hg]; exact Nat.ne_of_lt (blk_lt (bY BK306.out)) : gb306 ≠ gb358)); have n22_ := Aside0.mk ((by rw [hg]; exact Nat.ne_of_gt (blk_lt (bY BK306.out)) : gb358 ≠ gb306)); have n23_ := Aside0.mk ((by rw [hg]; exact Nat.ne_of_lt (blk_lt (bY BK332.out)) : gb332 ≠ gb358)); have n24_ := Aside0.mk ((by rw [hg]; exact Nat.ne_of_gt (blk_lt (bY BK332.out)) : gb358 ≠ gb332)); have n25_ := Aside0.mk ((by rw [hg]; exact Nat.ne_of_lt (blk_lt (bY BK339.out)) : gb339 ≠ gb358)); have n26_ := Aside0.mk ((by rw [hg]; exact Nat.ne_of_gt (blk_lt (bY BK339.out)) : gb358 ≠ gb339)); have n27_ := Aside0.mk ((by rw [hg]; exact Nat.ne_of_lt (blk_lt (bY BK350.out)) : gb350 ≠ gb358)); have n28_ := Aside0.mk ((by rw [hg]; exact Nat.ne_of_gt (blk_lt (bY BK350.out)) : gb358 ≠ gb350)); clear HO311; clear HO314; clear HO324; clear HO327; clear HO330; clear HO335; clear HO338; clear HO349; clear HO353; clear HO356; clear BK305; clear BK306; clear BK332; clear BK339; clear BK350; clear HB; have HO311 := n0_; have HO314 := n1_; have HO324 := n2_; have HO327 := n3_; have HO330 := n4_; have HO335 := n5_; have HO338 := n6_; have HO349 := n7_; have HO353 := n8_; have HO356 := n9_; have BK305 := n10_; have BK306 := n11_; have BK332 := n12_; have BK339 := n13_; have BK350 := n14_; have HB := n15_; have BK358 := n16_; have GW358 := n17_; have GE358 := n18_; have NB305_358 := n19_; have NB358_305 := n20_; have NB306_358 := n21_; have NB358_306 := n22_; have NB332_358 := n23_; have NB358_332 := n24_; have NB339_358 := n25_; have NB358_339 := n26_; have NB350_358 := n27_; have NB358_350 := n28_; clear n0_ n1_ n2_ n3_ n4_ n5_ n6_ n7_ n8_ n9_ n10_ n11_ n12_ n13_ n14_ n15_ n16_ n17_ n18_ n19_ n20_ n21_ n22_ n23_ n24_ n25_ n26_ n27_ n28_; clear hb hbox hg; obtain ⟨Ao69, co69, eo69⟩ := Kd.R_slice HO353.out; subst eo69; have hnb70 := NB358_305.out; have hnc70 := NB305_358.out; have hnb71 := NB358_306.out; have hnc71 := NB306_358.out; have hnb72 := NB358_332.out; have hnc72 := NB332_358.out; have hnb73 := NB358_339.out; have hnc73 := NB339_358.out; have hnb74 := NB358_350.out; have hnc74 := NB350_358.out; have hcz75_0 : w68.cell? ⟨gb358, 0, none⟩ = some (.slice none 0 0) := (blk_cell BK358.out 0).trans rfl; have hcz75_1 : w68.cell? ⟨gb358, 1, none⟩ = some (.slice none 0 0) := (blk_cell BK358.out 1).trans rfl; have hfz75_0 := blk_frozen BK358.out 0; have hfz75_1 := blk_frozen BK358.out 1; obtain ⟨Ao76, co76, eo76⟩ := Kd.R_slice HO356.out; subst eo76))
 (try simp only [Act.put, List.setIfInBounds_toArray, List.set_cons_zero, List.set_cons_succ])
 go_cut [53] (fun v53 wc => ∃ (kq : Nat) (x53_24 : Bool), v53 = .bool x53_24 ∧ Aside0 (laws_FnExactSpendCredits.j0 kq t331 t357 x53_24 l0_0 l0_1 a1_0 a1_1 a1_2 a1_3 a1_4 a1_5 a1_6 l1_7 t325 t328 t333 t336 t340 t341 t342 t343 t344 t345 t346 t347 t351 t354 = some r) ∧ Aside0 (kq ≤ k) ∧ Aside0 (Kd.R (Kd.int .i64) 3 wc w.heap.size (fun k_ => some k_ ≠ ((.slice Ao44 t328.length co44) : Value).ownBlock ∧ some k_ ≠ ((.slice Ao50 t333.length co50) : Value).ownBlock ∧ some k_ ≠ ((.slice Ao55 t336.length co55) : Value).ownBlock ∧ some k_ ≠ ((.slice Ao65 t347.length co65) : Value).ownBlock ∧ some k_ ≠ ((.slice Ao69 t351.length co69) : Value).ownBlock ∧ some k_ ≠ ((.slice Ao76 t354.length co76) : Value).ownBlock) (.slice Ao42 t325.length co42) t325) ∧ Aside0 (Kd.R (Kd.int .i64) 3 wc w.heap.size (fun k_ => some k_ ≠ ((.slice Ao42 t325.length co42) : Value).ownBlock ∧ some k_ ≠ ((.slice Ao50 t333.length co50) : Value).ownBlock ∧ some k_ ≠ ((.slice Ao55 t336.length co55) : Value).ownBlock ∧ some k_ ≠ ((.slice Ao65 t347.length co65) : Value).ownBlock ∧ some k_ ≠ ((.slice Ao69 t351.length co69) : Value).ownBlock ∧ some k_ ≠ ((.slice Ao76 t354.length co76) : Value).ownBlock) (.slice Ao44 t328.length co44) t328) ∧ Aside0 (Kd.R (Kd.int .i64) 3 wc w.heap.size (fun k_ => some k_ ≠ ((.slice Ao42 t325.length co42) : Value).ownBlock ∧ some k_ ≠ ((.slice Ao44 t328.length co44) : Value).ownBlock ∧ some k_ ≠ ((.slice Ao55 t336.length co55) : Value).ownBlock ∧ some k_ ≠ ((.slice Ao65 t347.length co65) : Value).ownBlock ∧ some k_ ≠ ((.slice Ao69 t351.length co69) : Value).ownBlock ∧ some k_ ≠ ((.slice Ao76 t354.length co76) : Value).ownBlock) (.slice Ao50 t333.length co50) t333) ∧ Aside0 (Kd.R (Kd.int .i64) 3 wc w.heap.size (fun k_ => some k_ ≠ ((.slice Ao42 t325.length co42) : Value).ownBlock ∧ some k_ ≠ ((.slice Ao44 t328.length co44) : Value).ownBlock ∧ some k_ ≠ ((.slice Ao50 t333.length co50) : Value).ownBlock ∧ some k_ ≠ ((.slice Ao65 t347.length co65) : Value).ownBlock ∧ some k_ ≠ ((.slice Ao69 t351.length co69) : Value).ownBlock ∧ some k_ ≠ ((.slice Ao76 t354.length co76) : Value).ownBlock) (.slice Ao55 t336.length co55) t336) ∧ Aside0 (Kd.R (Kd.int .i64) 3 wc w.heap.size (fun k_ => some k_ ≠ ((.slice Ao42 t325.length co42) : Value).ownBlock ∧ some k_ ≠ ((.slice Ao44 t328.length co44) : Value).ownBlock ∧ some k_ ≠ ((.slice Ao50 t333.length co50) : Value).ownBlock ∧ some k_ ≠ ((.slice Ao55 t336.length co55) : Value).ownBlock ∧ some k_ ≠ ((.slice Ao69 t351.length co69) : Value).ownBlock ∧ some k_ ≠ ((.slice Ao76 t354.length co76) : Value).ownBlock) (.slice Ao65 t347.length co65) t347) ∧ Aside0 (Kd.R (Kd.int .i64) 3 wc w.heap.size (fun k_ => some k_ ≠ ((.slice Ao42 t325.length co42) : Value).ownBlock ∧ some k_ ≠ ((.slice Ao44 t328.length co44) : Value).ownBlock ∧ some k_ ≠ ((.slice Ao50 t333.length co50) : Value).ownBlock ∧ some k_ ≠ ((.slice Ao55 t336.length co55) : Value).ownBlock ∧ some k_ ≠ ((.slice Ao65 t347.length co65) : Value).ownBlock ∧ some k_ ≠ ((.slice Ao76 t354.length co76) : Value).ownBlock) (.slice Ao69 t351.length co69) t351) ∧ Aside0 (Kd.R (Kd.int .i64) 3 wc w.heap.size (fun k_ => some k_ ≠ ((.slice Ao42 t325.length co42) : Value).ownBlock ∧ some k_ ≠ ((.slice Ao44 t328.length co44) : Value).ownBlock ∧ some k_ ≠ ((.slice Ao50 t333.length co50) : Value).ownBlock ∧ some k_ ≠ ((.slice Ao55 t336.length co55) : Value).ownBlock ∧ some k_ ≠ ((.slice Ao65 t347.length co65) : Value).ownBlock ∧ some k_ ≠ ((.slice Ao69 t351.length co69) : Value).ownBlock) (.slice Ao76 t354.length co76) t354) ∧ Aside0 (wc.heap[gb305]? = some (.cells #[(.slice A0_0 l0_0.length c0_0), (.slice A0_1 l0_1.length c0_1)] 24 (0, 0))) ∧ Aside0 (wc.heap[gb306]? = some (.cells #[.int .i64 a1_0, .int .i64 a1_1, .int .i64 a1_2, .int .i64 a1_3, .int .i64 a1_4, .int .i64 a1_5, .int .i64 a1_6, (.slice A1_7 l1_7.length c1_7)] 32 (0, 0))) ∧ Aside0 (wc.heap[gb332]? = some (.cells #[(.slice Ao42 t325.length co42), (.slice Ao44 t328.length co44)] 27 (0, 0))) ∧ Aside0 (wc.heap[gb339]? = some (.cells #[(.slice Ao50 t333.length co50), (.slice Ao55 t336.length co55)] 27 (0, 0))) ∧ Aside0 (wc.heap[gb350]? = some (.cells #[.int .i64 t340, .int .i64 t341, .int .i64 t342, .int .i64 t343, .int .i64 t344, .int .i64 t345, .int .i64 t346, (.slice Ao65 t347.length co65)] 35 (0, 0))) ∧ Aside0 (wc.heap[gb358]? = some (.cells #[(.slice Ao69 t351.length co69), (.slice Ao76 t354.length co76)] 27 (0, 0))) ∧ Aside0 (Below w.heap.size w wc))
 case first =>
  have H := HC25.out
  clear HC25
  replace H := Option.bind_eq_some_iff.mp H
  obtain ⟨t359, A770, H⟩ := H
  have A77 := Aside0.mk A770
  clear A770
  by_cases c78 : t359 = true
  ·subst c78
   have H1 : (laws_FnExactSpendCredits.j0 k t331 t357 (t357 != t331) l0_0 l0_1 a1_0 a1_1 a1_2 a1_3 a1_4 a1_5 a1_6 l1_7 t325 t328 t333 t336 t340 t341 t342 t343 t344 t345 t346 t347 t351 t354) = some r := by rw [if_pos rfl] at H; exact H
   clear H
   have H := H1
   clear H1
   have H' := Aside0.mk H
   clear H
   have hnb79 := NB358_305.out
   have hnc79 := NB305_358.out
   have hnb80 := NB358_306.out
   have hnc80 := NB306_358.out
   have hnb81 := NB358_332.out
   have hnc81 := NB332_358.out
   have hnb82 := NB358_339.out
   have hnc82 := NB339_358.out
   have hnb83 := NB358_350.out
   have hnc83 := NB350_358.out
   obtain ⟨hcz84_0, hcz84_1, hfz84_0, hfz84_1⟩ := b2 BK358.out
   have hnb85 := NB332_305.out
   have hnc85 := NB305_332.out
   have hnb86 := NB332_306.out
   have hnc86 := NB306_332.out
   have hnb87 := NB332_339.out
   have hnc87 := NB339_332.out
   have hnb88 := NB332_350.out
   have hnc88 := NB350_332.out
   obtain ⟨hcz89_0, hcz89_1, hfz89_0, hfz89_1⟩ := b2 BK332.out
   go_wp2_with (first | ((with_reducible refine gate_callee (f := 19) rfl ?_); refine goesL_ (some 47) rfl rfl Try.func19 (by kernel_rfl) rfl #[.agg #[.slice Ao69 t351.length co69, .slice Ao76 t354.length co76], .agg #[.slice Ao42 t325.length co42, .slice Ao44 t328.length co44]] rfl (by (try simp only [List.map_toArray, List.map_cons, List.map_nil]); first | done | rfl) ?_; (with_reducible refine (laws_eqCredits.calls k _ _ t351 _ _ t354 _ _ t325 _ _ t328 true _ ?side1 ?side2 ?side3 ?side4 ?side5 ?side6 ?side7 ?side8 A77.out).mono ?_); (case side1 => refine (Kd.R_reads' (e := 3) (base := w.heap.size) (ok := fun k_ => ((((((((some k_ ≠ (.slice Ao76 t354.length co76 : Value).ownBlock ∧ some k_ ≠ (v310 : Value).ownBlock) ∧ some k_ ≠ (v313 : Value).ownBlock) ∧ some k_ ≠ (v323 : Value).ownBlock) ∧ some k_ ≠ (.slice Ao42 t325.length co42 : Value).ownBlock) ∧ some k_ ≠ (.slice Ao44 t328.length co44 : Value).ownBlock) ∧ some k_ ≠ (.slice Ao50 t333.length co50 : Value).ownBlock) ∧ some k_ ≠ (.slice Ao55 t336.length co55 : Value).ownBlock) ∧ some k_ ≠ (.slice Ao65 t347.length co65 : Value).ownBlock)) (n := t351.length) (c := co69) ?_).2.2; exact (by (repeat apply rX); exact (Kd.R_mono (Kd.R_far (p := ⟨gb358, 1, none⟩) (Kd.R_far (p := ⟨gb358, 0, none⟩) (Kd.R_types HO353.out BK358.out (by decide)) (fun _ hk => hk.2) (.slice Ao69 t351.length co69)) (fun _ hk => hk.2) (.slice Ao76 t354.length co76)) (fun _ h_ => h_.1)))); (case side2 => exact (Kd.R_reads' HO353.out).2.1); (case side3 => refine (Kd.R_reads' (e := 3) (base := w.heap.size) (ok := fun k_ => ((((((((some k_ ≠ (.slice Ao69 t351.length co69 : Value).ownBlock ∧ some k_ ≠ (v310 : Value).ownBlock) ∧ some k_ ≠ (v313 : Value).ownBlock) ∧ some k_ ≠ (v323 : Value).ownBlock) ∧ some k_ ≠ (.slice Ao42 t325.length co42 : Value).ownBlock) ∧ some k_ ≠ (.slice Ao44 t328.length co44 : Value).ownBlock) ∧ some k_ ≠ (.slice Ao50 t333.length co50 : Value).ownBlock) ∧ some k_ ≠ (.slice Ao55 t336.length co55 : Value).ownBlock) ∧ some k_ ≠ (.slice Ao65 t347.length co65 : Value).ownBlock)) (n := t354.length) (c := co76) ?_).2.2; exact (by (repeat apply rX); exact (Kd.R_mono (Kd.R_far (p := ⟨gb358, 1, none⟩) (Kd.R_far (p := ⟨gb358, 0, none⟩) (Kd.R_types HO356.out BK358.out (by decide)) (fun _ hk => hk.2) (.slice Ao69 t351.length co69)) (fun _ hk => hk.2) (.slice Ao76 t354.length co76)) (fun _ h_ => h_.1)))); (case side4 => exact (Kd.R_reads' HO356.out).2.1); (case side5 => refine (Kd.R_reads' (e := 3) (base := w.heap.size) (ok := fun k_ => ((((((some k_ ≠ (v310 : Value).ownBlock ∧ (some k_ ≠ (v313 : Value).ownBlock ∧ (some k_ ≠ (v323 : Value).ownBlock ∧ some k_ ≠ (.slice Ao44 t328.length co44 : Value).ownBlock))) ∧ some k_ ≠ (.slice Ao50 t333.length co50 : Value).ownBlock) ∧ some k_ ≠ (.slice Ao55 t336.length co55 : Value).ownBlock) ∧ some k_ ≠ (.slice Ao65 t347.length co65 : Value).ownBlock) ∧ some k_ ≠ (.slice Ao69 t351.length co69 : Value).ownBlock) ∧ some k_ ≠ (.slice Ao76 t354.length co76 : Value).ownBlock)) (n := t325.length) (c := co42) ?_).2.2; exact (by (repeat apply rX); exact (Kd.R_mono (Kd.R_far (p := ⟨gb358, 1, none⟩) (Kd.R_far (p := ⟨gb358, 0, none⟩) (Kd.R_types HO327.out BK358.out (by decide)) (fun _ hk => hk.2) (.slice Ao69 t351.length co69)) (fun _ hk => hk.2) (.slice Ao76 t354.length co76)) (fun _ h_ => h_.1)))); (case side6 => exact (Kd.R_reads' HO327.out).2.1); (case side7 => refine (Kd.R_reads' (e := 3) (base := w.heap.size) (ok := fun k_ => ((((((some k_ ≠ (v310 : Value).ownBlock ∧ (some k_ ≠ (v313 : Value).ownBlock ∧ (some k_ ≠ (v323 : Value).ownBlock ∧ some k_ ≠ (.slice Ao42 t325.length co42 : Value).ownBlock))) ∧ some k_ ≠ (.slice Ao50 t333.length co50 : Value).ownBlock) ∧ some k_ ≠ (.slice Ao55 t336.length co55 : Value).ownBlock) ∧ some k_ ≠ (.slice Ao65 t347.length co65 : Value).ownBlock) ∧ some k_ ≠ (.slice Ao69 t351.length co69 : Value).ownBlock) ∧ some k_ ≠ (.slice Ao76 t354.length co76 : Value).ownBlock)) (n := t328.length) (c := co44) ?_).2.2; exact (by (repeat apply rX); exact (Kd.R_mono (Kd.R_far (p := ⟨gb358, 1, none⟩) (Kd.R_far (p := ⟨gb358, 0, none⟩) (Kd.R_types HO330.out BK358.out (by decide)) (fun _ hk => hk.2) (.slice Ao69 t351.length co69)) (fun _ hk => hk.2) (.slice Ao76 t354.length co76)) (fun _ h_ => h_.1)))); (case side8 => exact (Kd.R_reads' HO330.out).2.1); rintro e w90 ⟨rfl, hb⟩; refine ⟨_, rfl, ?_⟩; have n0_ := Aside0.mk (Kd.R_below (by (repeat apply rX); exact (Kd.R_mono (Kd.R_far (p := ⟨gb358, 1, none⟩) (Kd.R_far (p := ⟨gb358, 0, none⟩) (Kd.R_types HO311.out BK358.out (by decide)) (fun _ hk => hk.2) (.slice Ao69 t351.length co69)) (fun _ hk => hk.2) (.slice Ao76 t354.length co76)) (fun _ h_ => h_.1))) hb); have n1_ := Aside0.mk (Kd.R_below (by (repeat apply rX); exact (Kd.R_mono (Kd.R_far (p := ⟨gb358, 1, none⟩) (Kd.R_far (p := ⟨gb358, 0, none⟩) (Kd.R_types HO314.out BK358.out (by decide)) (fun _ hk => hk.2) (.slice Ao69 t351.length co69)) (fun _ hk => hk.2) (.slice Ao76 t354.length co76)) (fun _ h_ => h_.1))) hb); have n2_ := Aside0.mk (Kd.R_below (by (repeat apply rX); exact (Kd.R_mono (Kd.R_far (p := ⟨gb358, 1, none⟩) (Kd.R_far (p := ⟨gb358, 0, none⟩) (Kd.R_types HO324.out BK358.out (by decide)) (fun _ hk => hk.2) (.slice Ao69 t351.length co69)) (fun _ hk => hk.2) (.slice Ao76 t354.length co76)) (fun _ h_ => h_.1))) hb); have n3_ := Aside0.mk (Kd.R_below (by (repeat apply rX); exact (Kd.R_mono (Kd.R_far (p := ⟨gb358, 1, none⟩) (Kd.R_far (p := ⟨gb358, 0, none⟩) (Kd.R_types HO327.out BK358.out (by decide)) (fun _ hk => hk.2) (.slice Ao69 t351.length co69)) (fun _ hk => hk.2) (.slice Ao76 t354.length co76)) (fun _ h_ => h_.1))) hb); have n4_ := Aside0.mk (Kd.R_below (by (repeat apply rX); exact (Kd.R_mono (Kd.R_far (p := ⟨gb358, 1, none⟩) (Kd.R_far (p := ⟨gb358, 0, none⟩) (Kd.R_types HO330.out BK358.out (by decide)) (fun _ hk => hk.2) (.slice Ao69 t351.length co69)) (fun _ hk => hk.2) (.slice Ao76 t354.length co76)) (fun _ h_ => h_.1))) hb); have n5_ := Aside0.mk (Kd.R_below (by (repeat apply rX); exact (Kd.R_mono (Kd.R_far (p := ⟨gb358, 1, none⟩) (Kd.R_far (p := ⟨gb358, 0, none⟩) (Kd.R_types HO335.out BK358.out (by decide)) (fun _ hk => hk.2) (.slice Ao69 t351.length co69)) (fun _ hk => hk.2) (.slice Ao76 t354.length co76)) (fun _ h_ => h_.1))) hb); have n6_ := Aside0.mk (Kd.R_below (by (repeat apply rX); exact (Kd.R_mono (Kd.R_far (p := ⟨gb358, 1, none⟩) (Kd.R_far (p := ⟨gb358, 0, none⟩) (Kd.R_types HO338.out BK358.out (by decide)) (fun _ hk => hk.2) (.slice Ao69 t351.length co69)) (fun _ hk => hk.2) (.slice Ao76 t354.length co76)) (fun _ h_ => h_.1))) hb); have n7_ := Aside0.mk (Kd.R_below (by (repeat apply rX); exact (Kd.R_mono (Kd.R_far (p := ⟨gb358, 1, none⟩) (Kd.R_far (p := ⟨gb358, 0, none⟩) (Kd.R_types HO349.out BK358.out (by decide)) (fun _ hk => hk.2) (.slice Ao69 t351.length co69)) (fun _ hk => hk.2) (.slice Ao76 t354.length co76)) (fun _ h_ => h_.1))) hb); have n8_ := Aside0.mk (Kd.R_below (by (repeat apply rX); exact (Kd.R_mono (Kd.R_far (p := ⟨gb358, 1, none⟩) (Kd.R_far (p := ⟨gb358, 0, none⟩) (Kd.R_types HO353.out BK358.out (by decide)) (fun _ hk => hk.2) (.slice Ao69 t351.length co69)) (fun _ hk => hk.2) (.slice Ao76 t354.length co76)) (fun _ h_ => h_.1))) hb); have n9_ := Aside0.mk (Kd.R_below (by (repeat apply rX); exact (Kd.R_mono (Kd.R_far (p := ⟨gb358, 1, none⟩) (Kd.R_far (p := ⟨gb358, 0, none⟩) (Kd.R_types HO356.out BK358.out (by decide)) (fun _ hk => hk.2) (.slice Ao69 t351.length co69)) (fun _ hk => hk.2) (.slice Ao76 t354.length co76)) (fun _ h_ => h_.1))) hb); have n10_ := Aside0.mk (blk_below (g := gb305) (o := .cells #[.slice A0_0 l0_0.length c0_0, .slice A0_1 l0_1.length c0_1] 24 (0, 0)) (by (repeat apply bX); refine blk_far ?_ NB305_358.out _; (repeat apply bX); refine blk_far ?_ NB305_358.out _; (repeat apply bX); exact BK305.out) hb); have n11_ := Aside0.mk (blk_below (g := gb306) (o := .cells #[.int .i64 a1_0, .int .i64 a1_1, .int .i64 a1_2, .int .i64 a1_3, .int .i64 a1_4, .int .i64 a1_5, .int .i64 a1_6, .slice A1_7 l1_7.length c1_7] 32 (0, 0)) (by (repeat apply bX); refine blk_far ?_ NB306_358.out _; (repeat apply bX); refine blk_far ?_ NB306_358.out _; (repeat apply bX); exact BK306.out) hb); have n12_ := Aside0.mk (blk_below (g := gb332) (o := .cells #[.slice Ao42 t325.length co42, .slice Ao44 t328.length co44] 27 (0, 0)) (by (repeat apply bX); refine blk_far ?_ NB332_358.out _; (repeat apply bX); refine blk_far ?_ NB332_358.out _; (repeat apply bX); exact BK332.out) hb); have n13_ := Aside0.mk (blk_below (g := gb339) (o := .cells #[.slice Ao50 t333.length co50, .slice Ao55 t336.length co55] 27 (0, 0)) (by (repeat apply bX); refine blk_far ?_ NB339_358.out _; (repeat apply bX); refine blk_far ?_ NB339_358.out _; (repeat apply bX); exact BK339.out) hb); have n14_ := Aside0.mk (blk_below (g := gb350) (o := .cells #[.int .i64 t340, .int .i64 t341, .int .i64 t342, .int .i64 t343, .int .i64 t344, .int .i64 t345, .int .i64 t346, .slice Ao65 t347.length co65] 35 (0, 0)) (by (repeat apply bX); refine blk_far ?_ NB350_358.out _; (repeat apply bX); refine blk_far ?_ NB350_358.out _; (repeat apply bX); exact BK350.out) hb); have n15_ := Aside0.mk (blk_below (g := gb358) (o := .cells #[.slice Ao69 t351.length co69, .slice Ao76 t354.length co76] 27 (0, 0)) (by (repeat apply bX); refine blk_put (cs := #[.slice Ao69 t351.length co69, .slice none 0 0]) ?_ 1 _ rfl; (repeat apply bX); refine blk_put (cs := #[.slice none 0 0, .slice none 0 0]) ?_ 0 _ rfl; (repeat apply bX); exact BK358.out) hb); have n16_ := Aside0.mk (below_step (by repeat (first | (with_reducible first | exact HB.out | apply below_alloc | apply pw_below_drewN | apply below_drew1 | refine below_set ?_ GE305.out | refine below_set ?_ GE306.out | refine below_set ?_ GE332.out | refine below_set ?_ GE339.out | refine below_set ?_ GE350.out | refine below_set ?_ GE358.out) | exact HB.out)) hb); clear HO311; clear HO314; clear HO324; clear HO327; clear HO330; clear HO335; clear HO338; clear HO349; clear HO353; clear HO356; clear BK305; clear BK306; clear BK332; clear BK339; clear BK350; clear BK358; clear HB; have HO311 := n0_; have HO314 := n1_; have HO324 := n2_; have HO327 := n3_; have HO330 := n4_; have HO335 := n5_; have HO338 := n6_; have HO349 := n7_; have HO353 := n8_; have HO356 := n9_; have BK305 := n10_; have BK306 := n11_; have BK332 := n12_; have BK339 := n13_; have BK350 := n14_; have BK358 := n15_; have HB := n16_; clear n0_ n1_ n2_ n3_ n4_ n5_ n6_ n7_ n8_ n9_ n10_ n11_ n12_ n13_ n14_ n15_ n16_; (try clear hb); (try clear hb2); (try clear hk); (try clear hi)))
   go_meet
   case rel => exact ⟨_, ((t357 != t331)), (by first | rfl | (simp; done) | (simp [*]; done)), H', ⟨by first | omega | exact Nat.le_refl _⟩, ⟨by (repeat apply rX); exact Kd.R_mono HO327.out (fun _ hk => ⟨hk.1.1.1.1.1.2.2.2, ⟨hk.1.1.1.1.2, ⟨hk.1.1.1.2, ⟨hk.1.1.2, ⟨hk.1.2, hk.2⟩⟩⟩⟩⟩)⟩, ⟨by (repeat apply rX); exact Kd.R_mono HO330.out (fun _ hk => ⟨hk.1.1.1.1.1.2.2.2, ⟨hk.1.1.1.1.2, ⟨hk.1.1.1.2, ⟨hk.1.1.2, ⟨hk.1.2, hk.2⟩⟩⟩⟩⟩)⟩, ⟨by (repeat apply rX); exact Kd.R_mono HO335.out (fun _ hk => ⟨hk.1.1.1.1.2, ⟨hk.1.1.1.2, ⟨hk.1.1.1.1.1.1.1.1, ⟨hk.1.1.2, ⟨hk.1.2, hk.2⟩⟩⟩⟩⟩)⟩, ⟨by (repeat apply rX); exact Kd.R_mono HO338.out (fun _ hk => ⟨hk.1.1.1.1.2, ⟨hk.1.1.1.2, ⟨hk.1.1.1.1.1.1.1.1, ⟨hk.1.1.2, ⟨hk.1.2, hk.2⟩⟩⟩⟩⟩)⟩, ⟨by (repeat apply rX); exact Kd.R_mono HO349.out (fun _ hk => ⟨hk.1.1.1.1.1.2, ⟨hk.1.1.1.1.2, ⟨hk.1.1.1.2, ⟨hk.1.1.2, ⟨hk.1.2, hk.2⟩⟩⟩⟩⟩)⟩, ⟨by (repeat apply rX); exact Kd.R_mono HO353.out (fun _ hk => ⟨hk.1.1.1.1.2, ⟨hk.1.1.1.2, ⟨hk.1.1.2, ⟨hk.1.2, ⟨hk.2, hk.1.1.1.1.1.1.1.1⟩⟩⟩⟩⟩)⟩, ⟨by (repeat apply rX); exact Kd.R_mono HO356.out (fun _ hk => ⟨hk.1.1.1.1.2, ⟨hk.1.1.1.2, ⟨hk.1.1.2, ⟨hk.1.2, ⟨hk.2, hk.1.1.1.1.1.1.1.1⟩⟩⟩⟩⟩)⟩, ⟨by (repeat apply bX); exact BK305.out⟩, ⟨by (repeat apply bX); exact BK306.out⟩, ⟨by (repeat apply bX); exact BK332.out⟩, ⟨by (repeat apply bX); exact BK339.out⟩, ⟨by (repeat apply bX); exact BK350.out⟩, ⟨by (repeat apply bX); exact BK358.out⟩, ⟨by repeat (first | (with_reducible first | exact HB.out | apply below_alloc | apply pw_below_drewN | apply below_drew1 | refine below_set ?_ GE305.out | refine below_set ?_ GE306.out | refine below_set ?_ GE332.out | refine below_set ?_ GE339.out | refine below_set ?_ GE350.out | refine below_set ?_ GE358.out) | exact HB.out)⟩⟩
  replace c78 := Bool.eq_false_iff.mpr c78
  subst c78
  have H1 : (laws_FnExactSpendCredits.j0 k t331 t357 true l0_0 l0_1 a1_0 a1_1 a1_2 a1_3 a1_4 a1_5 a1_6 l1_7 t325 t328 t333 t336 t340 t341 t342 t343 t344 t345 t346 t347 t351 t354) = some r := by rw [if_neg (show ¬ (false = true) by decide)] at H; exact H
  clear H
  have H := H1
  clear H1
  have H' := Aside0.mk H
  clear H
  have hnb91 := NB358_305.out
  have hnc91 := NB305_358.out
  have hnb92 := NB358_306.out
  have hnc92 := NB306_358.out
  have hnb93 := NB358_332.out
  have hnc93 := NB332_358.out
  have hnb94 := NB358_339.out
  have hnc94 := NB339_358.out
  have hnb95 := NB358_350.out
  have hnc95 := NB350_358.out
  obtain ⟨hcz96_0, hcz96_1, hfz96_0, hfz96_1⟩ := b2 BK358.out
  have hnb97 := NB332_305.out
  have hnc97 := NB305_332.out
  have hnb98 := NB332_306.out
  have hnc98 := NB306_332.out
  have hnb99 := NB332_339.out
  have hnc99 := NB339_332.out
  have hnb100 := NB332_350.out
  have hnc100 := NB350_332.out
  obtain ⟨hcz101_0, hcz101_1, hfz101_0, hfz101_1⟩ := b2 BK332.out
  go_wp2_with (first | ((with_reducible refine gate_callee (f := 19) rfl ?_); refine goesL_ (some 47) rfl rfl Try.func19 (by kernel_rfl) rfl #[.agg #[.slice Ao69 t351.length co69, .slice Ao76 t354.length co76], .agg #[.slice Ao42 t325.length co42, .slice Ao44 t328.length co44]] rfl (by (try simp only [List.map_toArray, List.map_cons, List.map_nil]); first | done | rfl) ?_; (with_reducible refine (laws_eqCredits.calls k _ _ t351 _ _ t354 _ _ t325 _ _ t328 false _ ?side1 ?side2 ?side3 ?side4 ?side5 ?side6 ?side7 ?side8 A77.out).mono ?_); (case side1 => refine (Kd.R_reads' (e := 3) (base := w.heap.size) (ok := fun k_ => ((((((((some k_ ≠ (.slice Ao76 t354.length co76 : Value).ownBlock ∧ some k_ ≠ (v310 : Value).ownBlock) ∧ some k_ ≠ (v313 : Value).ownBlock) ∧ some k_ ≠ (v323 : Value).ownBlock) ∧ some k_ ≠ (.slice Ao42 t325.length co42 : Value).ownBlock) ∧ some k_ ≠ (.slice Ao44 t328.length co44 : Value).ownBlock) ∧ some k_ ≠ (.slice Ao50 t333.length co50 : Value).ownBlock) ∧ some k_ ≠ (.slice Ao55 t336.length co55 : Value).ownBlock) ∧ some k_ ≠ (.slice Ao65 t347.length co65 : Value).ownBlock)) (n := t351.length) (c := co69) ?_).2.2; exact (by (repeat apply rX); exact (Kd.R_mono (Kd.R_far (p := ⟨gb358, 1, none⟩) (Kd.R_far (p := ⟨gb358, 0, none⟩) (Kd.R_types HO353.out BK358.out (by decide)) (fun _ hk => hk.2) (.slice Ao69 t351.length co69)) (fun _ hk => hk.2) (.slice Ao76 t354.length co76)) (fun _ h_ => h_.1)))); (case side2 => exact (Kd.R_reads' HO353.out).2.1); (case side3 => refine (Kd.R_reads' (e := 3) (base := w.heap.size) (ok := fun k_ => ((((((((some k_ ≠ (.slice Ao69 t351.length co69 : Value).ownBlock ∧ some k_ ≠ (v310 : Value).ownBlock) ∧ some k_ ≠ (v313 : Value).ownBlock) ∧ some k_ ≠ (v323 : Value).ownBlock) ∧ some k_ ≠ (.slice Ao42 t325.length co42 : Value).ownBlock) ∧ some k_ ≠ (.slice Ao44 t328.length co44 : Value).ownBlock) ∧ some k_ ≠ (.slice Ao50 t333.length co50 : Value).ownBlock) ∧ some k_ ≠ (.slice Ao55 t336.length co55 : Value).ownBlock) ∧ some k_ ≠ (.slice Ao65 t347.length co65 : Value).ownBlock)) (n := t354.length) (c := co76) ?_).2.2; exact (by (repeat apply rX); exact (Kd.R_mono (Kd.R_far (p := ⟨gb358, 1, none⟩) (Kd.R_far (p := ⟨gb358, 0, none⟩) (Kd.R_types HO356.out BK358.out (by decide)) (fun _ hk => hk.2) (.slice Ao69 t351.length co69)) (fun _ hk => hk.2) (.slice Ao76 t354.length co76)) (fun _ h_ => h_.1)))); (case side4 => exact (Kd.R_reads' HO356.out).2.1); (case side5 => refine (Kd.R_reads' (e := 3) (base := w.heap.size) (ok := fun k_ => ((((((some k_ ≠ (v310 : Value).ownBlock ∧ (some k_ ≠ (v313 : Value).ownBlock ∧ (some k_ ≠ (v323 : Value).ownBlock ∧ some k_ ≠ (.slice Ao44 t328.length co44 : Value).ownBlock))) ∧ some k_ ≠ (.slice Ao50 t333.length co50 : Value).ownBlock) ∧ some k_ ≠ (.slice Ao55 t336.length co55 : Value).ownBlock) ∧ some k_ ≠ (.slice Ao65 t347.length co65 : Value).ownBlock) ∧ some k_ ≠ (.slice Ao69 t351.length co69 : Value).ownBlock) ∧ some k_ ≠ (.slice Ao76 t354.length co76 : Value).ownBlock)) (n := t325.length) (c := co42) ?_).2.2; exact (by (repeat apply rX); exact (Kd.R_mono (Kd.R_far (p := ⟨gb358, 1, none⟩) (Kd.R_far (p := ⟨gb358, 0, none⟩) (Kd.R_types HO327.out BK358.out (by decide)) (fun _ hk => hk.2) (.slice Ao69 t351.length co69)) (fun _ hk => hk.2) (.slice Ao76 t354.length co76)) (fun _ h_ => h_.1)))); (case side6 => exact (Kd.R_reads' HO327.out).2.1); (case side7 => refine (Kd.R_reads' (e := 3) (base := w.heap.size) (ok := fun k_ => ((((((some k_ ≠ (v310 : Value).ownBlock ∧ (some k_ ≠ (v313 : Value).ownBlock ∧ (some k_ ≠ (v323 : Value).ownBlock ∧ some k_ ≠ (.slice Ao42 t325.length co42 : Value).ownBlock))) ∧ some k_ ≠ (.slice Ao50 t333.length co50 : Value).ownBlock) ∧ some k_ ≠ (.slice Ao55 t336.length co55 : Value).ownBlock) ∧ some k_ ≠ (.slice Ao65 t347.length co65 : Value).ownBlock) ∧ some k_ ≠ (.slice Ao69 t351.length co69 : Value).ownBlock) ∧ some k_ ≠ (.slice Ao76 t354.length co76 : Value).ownBlock)) (n := t328.length) (c := co44) ?_).2.2; exact (by (repeat apply rX); exact (Kd.R_mono (Kd.R_far (p := ⟨gb358, 1, none⟩) (Kd.R_far (p := ⟨gb358, 0, none⟩) (Kd.R_types HO330.out BK358.out (by decide)) (fun _ hk => hk.2) (.slice Ao69 t351.length co69)) (fun _ hk => hk.2) (.slice Ao76 t354.length co76)) (fun _ h_ => h_.1)))); (case side8 => exact (Kd.R_reads' HO330.out).2.1); rintro e w102 ⟨rfl, hb⟩; refine ⟨_, rfl, ?_⟩; have n0_ := Aside0.mk (Kd.R_below (by (repeat apply rX); exact (Kd.R_mono (Kd.R_far (p := ⟨gb358, 1, none⟩) (Kd.R_far (p := ⟨gb358, 0, none⟩) (Kd.R_types HO311.out BK358.out (by decide)) (fun _ hk => hk.2) (.slice Ao69 t351.length co69)) (fun _ hk => hk.2) (.slice Ao76 t354.length co76)) (fun _ h_ => h_.1))) hb); have n1_ := Aside0.mk (Kd.R_below (by (repeat apply rX); exact (Kd.R_mono (Kd.R_far (p := ⟨gb358, 1, none⟩) (Kd.R_far (p := ⟨gb358, 0, none⟩) (Kd.R_types HO314.out BK358.out (by decide)) (fun _ hk => hk.2) (.slice Ao69 t351.length co69)) (fun _ hk => hk.2) (.slice Ao76 t354.length co76)) (fun _ h_ => h_.1))) hb); have n2_ := Aside0.mk (Kd.R_below (by (repeat apply rX); exact (Kd.R_mono (Kd.R_far (p := ⟨gb358, 1, none⟩) (Kd.R_far (p := ⟨gb358, 0, none⟩) (Kd.R_types HO324.out BK358.out (by decide)) (fun _ hk => hk.2) (.slice Ao69 t351.length co69)) (fun _ hk => hk.2) (.slice Ao76 t354.length co76)) (fun _ h_ => h_.1))) hb); have n3_ := Aside0.mk (Kd.R_below (by (repeat apply rX); exact (Kd.R_mono (Kd.R_far (p := ⟨gb358, 1, none⟩) (Kd.R_far (p := ⟨gb358, 0, none⟩) (Kd.R_types HO327.out BK358.out (by decide)) (fun _ hk => hk.2) (.slice Ao69 t351.length co69)) (fun _ hk => hk.2) (.slice Ao76 t354.length co76)) (fun _ h_ => h_.1))) hb); have n4_ := Aside0.mk (Kd.R_below (by (repeat apply rX); exact (Kd.R_mono (Kd.R_far (p := ⟨gb358, 1, none⟩) (Kd.R_far (p := ⟨gb358, 0, none⟩) (Kd.R_types HO330.out BK358.out (by decide)) (fun _ hk => hk.2) (.slice Ao69 t351.length co69)) (fun _ hk => hk.2) (.slice Ao76 t354.length co76)) (fun _ h_ => h_.1))) hb); have n5_ := Aside0.mk (Kd.R_below (by (repeat apply rX); exact (Kd.R_mono (Kd.R_far (p := ⟨gb358, 1, none⟩) (Kd.R_far (p := ⟨gb358, 0, none⟩) (Kd.R_types HO335.out BK358.out (by decide)) (fun _ hk => hk.2) (.slice Ao69 t351.length co69)) (fun _ hk => hk.2) (.slice Ao76 t354.length co76)) (fun _ h_ => h_.1))) hb); have n6_ := Aside0.mk (Kd.R_below (by (repeat apply rX); exact (Kd.R_mono (Kd.R_far (p := ⟨gb358, 1, none⟩) (Kd.R_far (p := ⟨gb358, 0, none⟩) (Kd.R_types HO338.out BK358.out (by decide)) (fun _ hk => hk.2) (.slice Ao69 t351.length co69)) (fun _ hk => hk.2) (.slice Ao76 t354.length co76)) (fun _ h_ => h_.1))) hb); have n7_ := Aside0.mk (Kd.R_below (by (repeat apply rX); exact (Kd.R_mono (Kd.R_far (p := ⟨gb358, 1, none⟩) (Kd.R_far (p := ⟨gb358, 0, none⟩) (Kd.R_types HO349.out BK358.out (by decide)) (fun _ hk => hk.2) (.slice Ao69 t351.length co69)) (fun _ hk => hk.2) (.slice Ao76 t354.length co76)) (fun _ h_ => h_.1))) hb); have n8_ := Aside0.mk (Kd.R_below (by (repeat apply rX); exact (Kd.R_mono (Kd.R_far (p := ⟨gb358, 1, none⟩) (Kd.R_far (p := ⟨gb358, 0, none⟩) (Kd.R_types HO353.out BK358.out (by decide)) (fun _ hk => hk.2) (.slice Ao69 t351.length co69)) (fun _ hk => hk.2) (.slice Ao76 t354.length co76)) (fun _ h_ => h_.1))) hb); have n9_ := Aside0.mk (Kd.R_below (by (repeat apply rX); exact (Kd.R_mono (Kd.R_far (p := ⟨gb358, 1, none⟩) (Kd.R_far (p := ⟨gb358, 0, none⟩) (Kd.R_types HO356.out BK358.out (by decide)) (fun _ hk => hk.2) (.slice Ao69 t351.length co69)) (fun _ hk => hk.2) (.slice Ao76 t354.length co76)) (fun _ h_ => h_.1))) hb); have n10_ := Aside0.mk (blk_below (g := gb305) (o := .cells #[.slice A0_0 l0_0.length c0_0, .slice A0_1 l0_1.length c0_1] 24 (0, 0)) (by (repeat apply bX); refine blk_far ?_ NB305_358.out _; (repeat apply bX); refine blk_far ?_ NB305_358.out _; (repeat apply bX); exact BK305.out) hb); have n11_ := Aside0.mk (blk_below (g := gb306) (o := .cells #[.int .i64 a1_0, .int .i64 a1_1, .int .i64 a1_2, .int .i64 a1_3, .int .i64 a1_4, .int .i64 a1_5, .int .i64 a1_6, .slice A1_7 l1_7.length c1_7] 32 (0, 0)) (by (repeat apply bX); refine blk_far ?_ NB306_358.out _; (repeat apply bX); refine blk_far ?_ NB306_358.out _; (repeat apply bX); exact BK306.out) hb); have n12_ := Aside0.mk (blk_below (g := gb332) (o := .cells #[.slice Ao42 t325.length co42, .slice Ao44 t328.length co44] 27 (0, 0)) (by (repeat apply bX); refine blk_far ?_ NB332_358.out _; (repeat apply bX); refine blk_far ?_ NB332_358.out _; (repeat apply bX); exact BK332.out) hb); have n13_ := Aside0.mk (blk_below (g := gb339) (o := .cells #[.slice Ao50 t333.length co50, .slice Ao55 t336.length co55] 27 (0, 0)) (by (repeat apply bX); refine blk_far ?_ NB339_358.out _; (repeat apply bX); refine blk_far ?_ NB339_358.out _; (repeat apply bX); exact BK339.out) hb); have n14_ := Aside0.mk (blk_below (g := gb350) (o := .cells #[.int .i64 t340, .int .i64 t341, .int .i64 t342, .int .i64 t343, .int .i64 t344, .int .i64 t345, .int .i64 t346, .slice Ao65 t347.length co65] 35 (0, 0)) (by (repeat apply bX); refine blk_far ?_ NB350_358.out _; (repeat apply bX); refine blk_far ?_ NB350_358.out _; (repeat apply bX); exact BK350.out) hb); have n15_ := Aside0.mk (blk_below (g := gb358) (o := .cells #[.slice Ao69 t351.length co69, .slice Ao76 t354.length co76] 27 (0, 0)) (by (repeat apply bX); refine blk_put (cs := #[.slice Ao69 t351.length co69, .slice none 0 0]) ?_ 1 _ rfl; (repeat apply bX); refine blk_put (cs := #[.slice none 0 0, .slice none 0 0]) ?_ 0 _ rfl; (repeat apply bX); exact BK358.out) hb); have n16_ := Aside0.mk (below_step (by repeat (first | (with_reducible first | exact HB.out | apply below_alloc | apply pw_below_drewN | apply below_drew1 | refine below_set ?_ GE305.out | refine below_set ?_ GE306.out | refine below_set ?_ GE332.out | refine below_set ?_ GE339.out | refine below_set ?_ GE350.out | refine below_set ?_ GE358.out) | exact HB.out)) hb); clear HO311; clear HO314; clear HO324; clear HO327; clear HO330; clear HO335; clear HO338; clear HO349; clear HO353; clear HO356; clear BK305; clear BK306; clear BK332; clear BK339; clear BK350; clear BK358; clear HB; have HO311 := n0_; have HO314 := n1_; have HO324 := n2_; have HO327 := n3_; have HO330 := n4_; have HO335 := n5_; have HO338 := n6_; have HO349 := n7_; have HO353 := n8_; have HO356 := n9_; have BK305 := n10_; have BK306 := n11_; have BK332 := n12_; have BK339 := n13_; have BK350 := n14_; have BK358 := n15_; have HB := n16_; clear n0_ n1_ n2_ n3_ n4_ n5_ n6_ n7_ n8_ n9_ n10_ n11_ n12_ n13_ n14_ n15_ n16_; (try clear hb); (try clear hb2); (try clear hk); (try clear hi)))
  go_meet
  case rel => exact ⟨_, (true), (by first | rfl | (simp; done) | (simp [*]; done)), H', ⟨by first | omega | exact Nat.le_refl _⟩, ⟨by (repeat apply rX); exact Kd.R_mono HO327.out (fun _ hk => ⟨hk.1.1.1.1.1.2.2.2, ⟨hk.1.1.1.1.2, ⟨hk.1.1.1.2, ⟨hk.1.1.2, ⟨hk.1.2, hk.2⟩⟩⟩⟩⟩)⟩, ⟨by (repeat apply rX); exact Kd.R_mono HO330.out (fun _ hk => ⟨hk.1.1.1.1.1.2.2.2, ⟨hk.1.1.1.1.2, ⟨hk.1.1.1.2, ⟨hk.1.1.2, ⟨hk.1.2, hk.2⟩⟩⟩⟩⟩)⟩, ⟨by (repeat apply rX); exact Kd.R_mono HO335.out (fun _ hk => ⟨hk.1.1.1.1.2, ⟨hk.1.1.1.2, ⟨hk.1.1.1.1.1.1.1.1, ⟨hk.1.1.2, ⟨hk.1.2, hk.2⟩⟩⟩⟩⟩)⟩, ⟨by (repeat apply rX); exact Kd.R_mono HO338.out (fun _ hk => ⟨hk.1.1.1.1.2, ⟨hk.1.1.1.2, ⟨hk.1.1.1.1.1.1.1.1, ⟨hk.1.1.2, ⟨hk.1.2, hk.2⟩⟩⟩⟩⟩)⟩, ⟨by (repeat apply rX); exact Kd.R_mono HO349.out (fun _ hk => ⟨hk.1.1.1.1.1.2, ⟨hk.1.1.1.1.2, ⟨hk.1.1.1.2, ⟨hk.1.1.2, ⟨hk.1.2, hk.2⟩⟩⟩⟩⟩)⟩, ⟨by (repeat apply rX); exact Kd.R_mono HO353.out (fun _ hk => ⟨hk.1.1.1.1.2, ⟨hk.1.1.1.2, ⟨hk.1.1.2, ⟨hk.1.2, ⟨hk.2, hk.1.1.1.1.1.1.1.1⟩⟩⟩⟩⟩)⟩, ⟨by (repeat apply rX); exact Kd.R_mono HO356.out (fun _ hk => ⟨hk.1.1.1.1.2, ⟨hk.1.1.1.2, ⟨hk.1.1.2, ⟨hk.1.2, ⟨hk.2, hk.1.1.1.1.1.1.1.1⟩⟩⟩⟩⟩)⟩, ⟨by (repeat apply bX); exact BK305.out⟩, ⟨by (repeat apply bX); exact BK306.out⟩, ⟨by (repeat apply bX); exact BK332.out⟩, ⟨by (repeat apply bX); exact BK339.out⟩, ⟨by (repeat apply bX); exact BK350.out⟩, ⟨by (repeat apply bX); exact BK358.out⟩, ⟨by repeat (first | (with_reducible first | exact HB.out | apply below_alloc | apply pw_below_drewN | apply below_drew1 | refine below_set ?_ GE305.out | refine below_set ?_ GE306.out | refine below_set ?_ GE332.out | refine below_set ?_ GE339.out | refine below_set ?_ GE350.out | refine below_set ?_ GE358.out) | exact HB.out)⟩⟩
 case rest =>
  clear HC25
  obtain ⟨kq, x53_24, rfl, HA, HJ24, HO_333000, HO_333001, HO_340000, HO_340001, HO_351007, HO_359000, HO_359001, BK305, BK306, BK332, BK339, BK350, BK358, HB⟩ := hcut
  cases kq with
  | zero => exact absurd HA.out (by simp [laws_FnExactSpendCredits.j0])
  | succ kj24 =>
   have H := HA.out
   clear HA
   simp only [laws_FnExactSpendCredits.j0] at H
   by_cases c103 : x53_24 = true
   ·subst c103
    have H1 : (some false) = some r := by rw [if_pos rfl] at H; exact H
    clear H
    have H := H1
    clear H1
    exact absurd (H.trans (congrArg some hrt.out)) (by simp)
   replace c103 := Bool.eq_false_iff.mpr c103
   subst c103
   have H1 : ((laws_toCredits.f kj24 l0_0 l0_1).bind fun bt360 => ((laws_eqCredits.f kj24 t333 t336 bt360.1 bt360.2).bind fun t366 => (if t366 = true then ((laws_toPacket.f kj24 a1_0 a1_1 a1_2 a1_3 a1_4 a1_5 a1_6 l1_7).bind fun bt367 => ((laws_eqPacket.f kj24 t340 t341 t342 t343 t344 t345 t346 t347 bt367.1 bt367.2.1 bt367.2.2.1 bt367.2.2.2.1 bt367.2.2.2.2.1 bt367.2.2.2.2.2.1 bt367.2.2.2.2.2.2.1 bt367.2.2.2.2.2.2.2).bind fun t377 => (if t377 = true then ((laws_markCredits.f kj24 t333 t336 1).bind fun bt378 => ((laws_markPacket.f kj24 t340 t341 t342 t343 t344 t345 t346 t347 bt378.1).bind fun bt381 => (if bt381.1 < 0 then (laws_FnExactSpendCredits.j1 kj24 t331 true l0_0 l0_1 a1_0 a1_1 a1_2 a1_3 a1_4 a1_5 a1_6 l1_7 t325 t328 t351 t354) else ((laws_eqCredits.f kj24 t351 t354 t325 t328).bind fun t383 => (if t383 = true then (laws_FnExactSpendCredits.j1 kj24 t331 (t357 != t331) l0_0 l0_1 a1_0 a1_1 a1_2 a1_3 a1_4 a1_5 a1_6 l1_7 t325 t328 t351 t354) else (laws_FnExactSpendCredits.j1 kj24 t331 true l0_0 l0_1 a1_0 a1_1 a1_2 a1_3 a1_4 a1_5 a1_6 l1_7 t325 t328 t351 t354)))))) else (some false)))) else (some false)))) = some r := by rw [if_neg (show ¬ (false = true) by decide)] at H; exact H
   clear H
   have H := H1
   clear H1
   replace H := Option.bind_eq_some_iff.mp H
   obtain ⟨⟨t360, t363⟩, A1040, H⟩ := H
   replace H : ((laws_eqCredits.f kj24 t333 t336 t360 t363).bind fun t366 => (if t366 = true then ((laws_toPacket.f kj24 a1_0 a1_1 a1_2 a1_3 a1_4 a1_5 a1_6 l1_7).bind fun bt367 => ((laws_eqPacket.f kj24 t340 t341 t342 t343 t344 t345 t346 t347 bt367.1 bt367.2.1 bt367.2.2.1 bt367.2.2.2.1 bt367.2.2.2.2.1 bt367.2.2.2.2.2.1 bt367.2.2.2.2.2.2.1 bt367.2.2.2.2.2.2.2).bind fun t377 => (if t377 = true then ((laws_markCredits.f kj24 t333 t336 1).bind fun bt378 => ((laws_markPacket.f kj24 t340 t341 t342 t343 t344 t345 t346 t347 bt378.1).bind fun bt381 => (if bt381.1 < 0 then (laws_FnExactSpendCredits.j1 kj24 t331 true l0_0 l0_1 a1_0 a1_1 a1_2 a1_3 a1_4 a1_5 a1_6 l1_7 t325 t328 t351 t354) else ((laws_eqCredits.f kj24 t351 t354 t325 t328).bind fun t383 => (if t383 = true then (laws_FnExactSpendCredits.j1 kj24 t331 (t357 != t331) l0_0 l0_1 a1_0 a1_1 a1_2 a1_3 a1_4 a1_5 a1_6 l1_7 t325 t328 t351 t354) else (laws_FnExactSpendCredits.j1 kj24 t331 true l0_0 l0_1 a1_0 a1_1 a1_2 a1_3 a1_4 a1_5 a1_6 l1_7 t325 t328 t351 t354)))))) else (some false)))) else (some false))) = some r := H
   have A104 := Aside0.mk A1040
   clear A1040
   replace H := Option.bind_eq_some_iff.mp H
   obtain ⟨t366, A1050, H⟩ := H
   have A105 := Aside0.mk A1050
   clear A1050
   by_cases c106 : t366 = true
   rotate_left
   ·replace c106 := Bool.eq_false_iff.mpr c106
    subst c106
    have H1 : (some false) = some r := by rw [if_neg (show ¬ (false = true) by decide)] at H; exact H
    clear H
    have H := H1
    clear H1
    exact absurd (H.trans (congrArg some hrt.out)) (by simp)
   subst c106
   have H1 : ((laws_toPacket.f kj24 a1_0 a1_1 a1_2 a1_3 a1_4 a1_5 a1_6 l1_7).bind fun bt367 => ((laws_eqPacket.f kj24 t340 t341 t342 t343 t344 t345 t346 t347 bt367.1 bt367.2.1 bt367.2.2.1 bt367.2.2.2.1 bt367.2.2.2.2.1 bt367.2.2.2.2.2.1 bt367.2.2.2.2.2.2.1 bt367.2.2.2.2.2.2.2).bind fun t377 => (if t377 = true then ((laws_markCredits.f kj24 t333 t336 1).bind fun bt378 => ((laws_markPacket.f kj24 t340 t341 t342 t343 t344 t345 t346 t347 bt378.1).bind fun bt381 => (if bt381.1 < 0 then (laws_FnExactSpendCredits.j1 kj24 t331 true l0_0 l0_1 a1_0 a1_1 a1_2 a1_3 a1_4 a1_5 a1_6 l1_7 t325 t328 t351 t354) else ((laws_eqCredits.f kj24 t351 t354 t325 t328).bind fun t383 => (if t383 = true then (laws_FnExactSpendCredits.j1 kj24 t331 (t357 != t331) l0_0 l0_1 a1_0 a1_1 a1_2 a1_3 a1_4 a1_5 a1_6 l1_7 t325 t328 t351 t354) else (laws_FnExactSpendCredits.j1 kj24 t331 true l0_0 l0_1 a1_0 a1_1 a1_2 a1_3 a1_4 a1_5 a1_6 l1_7 t325 t328 t351 t354)))))) else (some false)))) = some r := by rw [if_pos rfl] at H; exact H
   clear H
   have H := H1
   clear H1
   replace H := Option.bind_eq_some_iff.mp H
   obtain ⟨⟨t367, t368, t369, t370, t371, t372, t373, t374⟩, A1070, H⟩ := H
   replace H : ((laws_eqPacket.f kj24 t340 t341 t342 t343 t344 t345 t346 t347 t367 t368 t369 t370 t371 t372 t373 t374).bind fun t377 => (if t377 = true then ((laws_markCredits.f kj24 t333 t336 1).bind fun bt378 => ((laws_markPacket.f kj24 t340 t341 t342 t343 t344 t345 t346 t347 bt378.1).bind fun bt381 => (if bt381.1 < 0 then (laws_FnExactSpendCredits.j1 kj24 t331 true l0_0 l0_1 a1_0 a1_1 a1_2 a1_3 a1_4 a1_5 a1_6 l1_7 t325 t328 t351 t354) else ((laws_eqCredits.f kj24 t351 t354 t325 t328).bind fun t383 => (if t383 = true then (laws_FnExactSpendCredits.j1 kj24 t331 (t357 != t331) l0_0 l0_1 a1_0 a1_1 a1_2 a1_3 a1_4 a1_5 a1_6 l1_7 t325 t328 t351 t354) else (laws_FnExactSpendCredits.j1 kj24 t331 true l0_0 l0_1 a1_0 a1_1 a1_2 a1_3 a1_4 a1_5 a1_6 l1_7 t325 t328 t351 t354)))))) else (some false))) = some r := H
   have A107 := Aside0.mk A1070
   clear A1070
   replace H := Option.bind_eq_some_iff.mp H
   obtain ⟨t377, A1080, H⟩ := H
   have A108 := Aside0.mk A1080
   clear A1080
   by_cases c109 : t377 = true
   rotate_left
   ·replace c109 := Bool.eq_false_iff.mpr c109
    subst c109
    have H1 : (some false) = some r := by rw [if_neg (show ¬ (false = true) by decide)] at H; exact H
    clear H
    have H := H1
    clear H1
    exact absurd (H.trans (congrArg some hrt.out)) (by simp)
   subst c109
   have H1 : ((laws_markCredits.f kj24 t333 t336 1).bind fun bt378 => ((laws_markPacket.f kj24 t340 t341 t342 t343 t344 t345 t346 t347 bt378.1).bind fun bt381 => (if bt381.1 < 0 then (laws_FnExactSpendCredits.j1 kj24 t331 true l0_0 l0_1 a1_0 a1_1 a1_2 a1_3 a1_4 a1_5 a1_6 l1_7 t325 t328 t351 t354) else ((laws_eqCredits.f kj24 t351 t354 t325 t328).bind fun t383 => (if t383 = true then (laws_FnExactSpendCredits.j1 kj24 t331 (t357 != t331) l0_0 l0_1 a1_0 a1_1 a1_2 a1_3 a1_4 a1_5 a1_6 l1_7 t325 t328 t351 t354) else (laws_FnExactSpendCredits.j1 kj24 t331 true l0_0 l0_1 a1_0 a1_1 a1_2 a1_3 a1_4 a1_5 a1_6 l1_7 t325 t328 t351 t354)))))) = some r := by rw [if_pos rfl] at H; exact H
   clear H
   have H := H1
   clear H1
   replace H := Option.bind_eq_some_iff.mp H
   obtain ⟨⟨t378, t379, t380⟩, A1100, H⟩ := H
   replace H : ((laws_markPacket.f kj24 t340 t341 t342 t343 t344 t345 t346 t347 t378).bind fun bt381 => (if bt381.1 < 0 then (laws_FnExactSpendCredits.j1 kj24 t331 true l0_0 l0_1 a1_0 a1_1 a1_2 a1_3 a1_4 a1_5 a1_6 l1_7 t325 t328 t351 t354) else ((laws_eqCredits.f kj24 t351 t354 t325 t328).bind fun t383 => (if t383 = true then (laws_FnExactSpendCredits.j1 kj24 t331 (t357 != t331) l0_0 l0_1 a1_0 a1_1 a1_2 a1_3 a1_4 a1_5 a1_6 l1_7 t325 t328 t351 t354) else (laws_FnExactSpendCredits.j1 kj24 t331 true l0_0 l0_1 a1_0 a1_1 a1_2 a1_3 a1_4 a1_5 a1_6 l1_7 t325 t328 t351 t354))))) = some r := H
   have A110 := Aside0.mk A1100
   clear A1100
   replace H := Option.bind_eq_some_iff.mp H
   obtain ⟨⟨t381, t382⟩, A1110, H⟩ := H
   replace H : (if t381 < 0 then (laws_FnExactSpendCredits.j1 kj24 t331 true l0_0 l0_1 a1_0 a1_1 a1_2 a1_3 a1_4 a1_5 a1_6 l1_7 t325 t328 t351 t354) else ((laws_eqCredits.f kj24 t351 t354 t325 t328).bind fun t383 => (if t383 = true then (laws_FnExactSpendCredits.j1 kj24 t331 (t357 != t331) l0_0 l0_1 a1_0 a1_1 a1_2 a1_3 a1_4 a1_5 a1_6 l1_7 t325 t328 t351 t354) else (laws_FnExactSpendCredits.j1 kj24 t331 true l0_0 l0_1 a1_0 a1_1 a1_2 a1_3 a1_4 a1_5 a1_6 l1_7 t325 t328 t351 t354)))) = some r := H
   have A111 := Aside0.mk A1110
   clear A1110
   have HC112 := Aside0.mk H
   clear H
   try go_wp2
   have n0_ := Aside0.mk (Kd.R_drew HO_333000.out)
   have n1_ := Aside0.mk (Kd.R_drew HO_333001.out)
   have n2_ := Aside0.mk (Kd.R_drew HO_340000.out)
   have n3_ := Aside0.mk (Kd.R_drew HO_340001.out)
   have n4_ := Aside0.mk (Kd.R_drew HO_351007.out)
   have n5_ := Aside0.mk (Kd.R_drew HO_359000.out)
   have n6_ := Aside0.mk (Kd.R_drew HO_359001.out)
   have n7_ := Aside0.mk (blk_drew BK305.out)
   have n8_ := Aside0.mk (blk_drew BK306.out)
   have n9_ := Aside0.mk (blk_drew BK332.out)
   have n10_ := Aside0.mk (blk_drew BK339.out)
   have n11_ := Aside0.mk (blk_drew BK350.out)
   have n12_ := Aside0.mk (blk_drew BK358.out)
   have n13_ := Aside0.mk (below_drew1 HB.out)
   clear HO_333000
   clear HO_333001
   clear HO_340000
   clear HO_340001
   clear HO_351007
   clear HO_359000
   clear HO_359001
   clear BK305
   clear BK306
   clear BK332
   clear BK339
   clear BK350
   clear BK358
   clear HB
   have HO_333000 := n0_
   have HO_333001 := n1_
   have HO_340000 := n2_
   have HO_340001 := n3_
   have HO_351007 := n4_
   have HO_359000 := n5_
   have HO_359001 := n6_
   have BK305 := n7_
   have BK306 := n8_
   have BK332 := n9_
   have BK339 := n10_
   have BK350 := n11_
   have BK358 := n12_
   have HB := n13_
   clear n0_ n1_ n2_ n3_ n4_ n5_ n6_ n7_ n8_ n9_ n10_ n11_ n12_ n13_
   refine start_ (n := 5) (S := fun w' => w'.cell? ⟨gb339, 0, none⟩ = some (.slice Ao50 t333.length co50) ∧ w'.cell? ⟨gb339, 1, none⟩ = some (.slice Ao55 t336.length co55) ∧ w'.cell? ⟨gb305, 0, none⟩ = some (.slice A0_0 l0_0.length c0_0) ∧ w'.cell? ⟨gb305, 1, none⟩ = some (.slice A0_1 l0_1.length c0_1)) (ds := []) #[F, F, F, F, F] (by kernel_rfl) rfl rfl ⟨(blk_cell BK339.out 0).trans rfl, (blk_cell BK339.out 1).trans rfl, (blk_cell BK305.out 0).trans rfl, (blk_cell BK305.out 1).trans rfl⟩ (fun hHeld => ?_)
   generalize wc.drew = w113 at HO_333000 HO_333001 HO_340000 HO_340001 HO_351007 HO_359000 HO_359001 BK305 BK306 BK332 BK339 BK350 BK358 HB hHeld ⊢
   refine take_ (i := 0) (N := some 54) (v := ?_) (a' := ?_) #[T, F, F, F, F] rfl rfl (by kernel_rfl) (fun _ _ _ h => h) (Or.inl ⟨by rfl, ?_⟩) hHeld ?_ ?_
   rotate_left
   ·rintro w' ⟨s0, s1, s2, s3⟩
    go_simp
    with_reducible rfl
   rotate_left
   ·simp only [pS]
    rfl
   refine take_ (i := 1) (N := some 55) (v := ?_) (a' := ?_) #[T, T, F, F, F] rfl rfl (by kernel_rfl) (fun _ _ _ h => h) (Or.inl ⟨by rfl, ?_⟩) hHeld ?_ ?_
   rotate_left
   ·rintro w' ⟨s0, s1, s2, s3⟩
    go_simp
    with_reducible rfl
   rotate_left
   ·simp only [pS]
    rfl
   refine one_ (i := 2) (N := some 56) #[T, T, T, F, F] rfl rfl (by kernel_rfl) (by decide) (fun K hK => ?_)
   refine goes_ Try.func17 (by kernel_rfl) rfl #[.agg #[.slice A0_0 l0_0.length c0_0, .slice A0_1 l0_1.length c0_1]] (by rfl) rfl rfl (by (try simp only [List.map_toArray, List.map_cons, List.map_nil]); first | done | rfl) ?_
   with_reducible refine (laws_toCredits.calls kj24 _ _ l0_0 _ _ l0_1 t360 t363 _ ?side1 ?side2 ?side3 ?side4 A104.out).mono ?_
   (case side1 => exact cY ((Kd.C_below HR0_0.out HB.out)))
   (case side2 => exact HC0_0.out)
   (case side3 => exact cY ((Kd.C_below HR0_1.out HB.out)))
   (case side4 => exact HC0_1.out)
   rintro e w114 ⟨v361, v364, rfl, ho0, ho1, hb⟩
   refine ⟨_, rfl, ?_⟩
   have n0_ := Aside0.mk (Kd.R_mono (Kd.R_told (Kd.R_told (Kd.R_old (rY HO_333000.out) hb) (Kd.R_base ho0)) (Kd.R_base ho1)) (fun _ h_ => h_.1))
   have n1_ := Aside0.mk (Kd.R_mono (Kd.R_told (Kd.R_told (Kd.R_old (rY HO_333001.out) hb) (Kd.R_base ho0)) (Kd.R_base ho1)) (fun _ h_ => h_.1))
   have n2_ := Aside0.mk (Kd.R_mono (Kd.R_told (Kd.R_told (Kd.R_old (rY HO_340000.out) hb) (Kd.R_base ho0)) (Kd.R_base ho1)) (fun _ h_ => h_.1))
   have n3_ := Aside0.mk (Kd.R_mono (Kd.R_told (Kd.R_told (Kd.R_old (rY HO_340001.out) hb) (Kd.R_base ho0)) (Kd.R_base ho1)) (fun _ h_ => h_.1))
   have n4_ := Aside0.mk (Kd.R_mono (Kd.R_told (Kd.R_told (Kd.R_old (rY HO_351007.out) hb) (Kd.R_base ho0)) (Kd.R_base ho1)) (fun _ h_ => h_.1))
   have n5_ := Aside0.mk (Kd.R_mono (Kd.R_told (Kd.R_told (Kd.R_old (rY HO_359000.out) hb) (Kd.R_base ho0)) (Kd.R_base ho1)) (fun _ h_ => h_.1))
   have n6_ := Aside0.mk (Kd.R_mono (Kd.R_told (Kd.R_told (Kd.R_old (rY HO_359001.out) hb) (Kd.R_base ho0)) (Kd.R_base ho1)) (fun _ h_ => h_.1))
   have n7_ := Aside0.mk (Kd.R_lower (Kd.R_new' (Kd.R_new' (Kd.R_new' (Kd.R_new' (Kd.R_new' (Kd.R_new' (Kd.R_new' ho0 (Kd.R_lt (rY HO_333000.out))) (Kd.R_lt (rY HO_333001.out))) (Kd.R_lt (rY HO_340000.out))) (Kd.R_lt (rY HO_340001.out))) (Kd.R_lt (rY HO_351007.out))) (Kd.R_lt (rY HO_359000.out))) (Kd.R_lt (rY HO_359001.out))) (below_size (by repeat (first | (with_reducible first | exact HB.out | apply below_alloc | apply pw_below_drewN | apply below_drew1 | refine below_set ?_ GE305.out | refine below_set ?_ GE306.out | refine below_set ?_ GE332.out | refine below_set ?_ GE339.out | refine below_set ?_ GE350.out | refine below_set ?_ GE358.out) | exact HB.out))))
   have n8_ := Aside0.mk (Kd.R_lower (Kd.R_new' (Kd.R_new' (Kd.R_new' (Kd.R_new' (Kd.R_new' (Kd.R_new' (Kd.R_new' ho1 (Kd.R_lt (rY HO_333000.out))) (Kd.R_lt (rY HO_333001.out))) (Kd.R_lt (rY HO_340000.out))) (Kd.R_lt (rY HO_340001.out))) (Kd.R_lt (rY HO_351007.out))) (Kd.R_lt (rY HO_359000.out))) (Kd.R_lt (rY HO_359001.out))) (below_size (by repeat (first | (with_reducible first | exact HB.out | apply below_alloc | apply pw_below_drewN | apply below_drew1 | refine below_set ?_ GE305.out | refine below_set ?_ GE306.out | refine below_set ?_ GE332.out | refine below_set ?_ GE339.out | refine below_set ?_ GE350.out | refine below_set ?_ GE358.out) | exact HB.out))))
   have n9_ := Aside0.mk (blk_below (bY BK305.out) hb)
   have n10_ := Aside0.mk (blk_below (bY BK306.out) hb)
   have n11_ := Aside0.mk (blk_below (bY BK332.out) hb)
   have n12_ := Aside0.mk (blk_below (bY BK339.out) hb)
   have n13_ := Aside0.mk (blk_below (bY BK350.out) hb)
   have n14_ := Aside0.mk (blk_below (bY BK358.out) hb)
   have n15_ := Aside0.mk (below_step (by repeat (first | (with_reducible first | exact HB.out | apply below_alloc | apply pw_below_drewN | apply below_drew1 | refine below_set ?_ GE305.out | refine below_set ?_ GE306.out | refine below_set ?_ GE332.out | refine below_set ?_ GE339.out | refine below_set ?_ GE350.out | refine below_set ?_ GE358.out) | exact HB.out)) hb)
   clear HO_333000
   clear HO_333001
   clear HO_340000
   clear HO_340001
   clear HO_351007
   clear HO_359000
   clear HO_359001
   clear BK305
   clear BK306
   clear BK332
   clear BK339
   clear BK350
   clear BK358
   clear HB
   have HO_333000 := n0_
   have HO_333001 := n1_
   have HO_340000 := n2_
   have HO_340001 := n3_
   have HO_351007 := n4_
   have HO_359000 := n5_
   have HO_359001 := n6_
   have HO362 := n7_
   have HO365 := n8_
   have BK305 := n9_
   have BK306 := n10_
   have BK332 := n11_
   have BK339 := n12_
   have BK350 := n13_
   have BK358 := n14_
   have HB := n15_
   clear n0_ n1_ n2_ n3_ n4_ n5_ n6_ n7_ n8_ n9_ n10_ n11_ n12_ n13_ n14_ n15_
   obtain ⟨Ao115, co115, eo115⟩ := Kd.R_slice HO362.out
   (first | subst eo115 | (injection eo115 with f1_ f2_ f3_; have f4_ := f1_.symm; have f5_ := f3_.symm; clear f1_ f2_ f3_; subst f4_; subst f5_))
   obtain ⟨Ao116, co116, eo116⟩ := Kd.R_slice HO365.out
   (first | subst eo116 | (injection eo116 with f1_ f2_ f3_; have f4_ := f1_.symm; have f5_ := f3_.symm; clear f1_ f2_ f3_; subst f4_; subst f5_))
   refine hK.out _ _ ⟨(blk_cell BK339.out 0).trans rfl, (blk_cell BK339.out 1).trans rfl, (blk_cell BK305.out 0).trans rfl, (blk_cell BK305.out 1).trans rfl⟩ (fun hHeld => ?_)
   clear hK K
   refine norm_ (a' := ?_) ?_ ?_
   rotate_left
   ·show Act.put _ (some 56) _ = _
    simp only [pS]
    rfl
   refine one_ (i := 3) (N := some 57) #[T, T, T, T, F] rfl rfl (by kernel_rfl) (by decide) (fun K hK => ?_)
   refine goes_ Try.func19 (by kernel_rfl) rfl #[.agg #[.slice Ao50 t333.length co50, .slice Ao55 t336.length co55], .agg #[.slice Ao115 t360.length co115, .slice Ao116 t363.length co116]] (by rfl) rfl rfl (by (try simp only [List.map_toArray, List.map_cons, List.map_nil]); first | done | rfl) ?_
   with_reducible refine (laws_eqCredits.calls kj24 _ _ t333 _ _ t336 _ _ t360 _ _ t363 true _ ?side1 ?side2 ?side3 ?side4 ?side5 ?side6 ?side7 ?side8 A105.out).mono ?_
   (case side1 => exact cY ((Kd.R_reads' HO_340000.out).2.2))
   (case side2 => exact (Kd.R_reads' HO_340000.out).2.1)
   (case side3 => exact cY ((Kd.R_reads' HO_340001.out).2.2))
   (case side4 => exact (Kd.R_reads' HO_340001.out).2.1)
   (case side5 => exact cY ((Kd.R_reads' HO362.out).2.2))
   (case side6 => exact (Kd.R_reads' HO362.out).2.1)
   (case side7 => exact cY ((Kd.R_reads' HO365.out).2.2))
   (case side8 => exact (Kd.R_reads' HO365.out).2.1)
   rintro e w117 ⟨rfl, hb⟩
   refine ⟨_, rfl, ?_⟩
   have n0_ := Aside0.mk (Kd.R_below (rY HO_333000.out) hb)
   have n1_ := Aside0.mk (Kd.R_below (rY HO_333001.out) hb)
   have n2_ := Aside0.mk (Kd.R_below (rY HO_340000.out) hb)
   have n3_ := Aside0.mk (Kd.R_below (rY HO_340001.out) hb)
   have n4_ := Aside0.mk (Kd.R_below (rY HO_351007.out) hb)
   have n5_ := Aside0.mk (Kd.R_below (rY HO_359000.out) hb)
   have n6_ := Aside0.mk (Kd.R_below (rY HO_359001.out) hb)
   have n7_ := Aside0.mk (Kd.R_below (rY HO362.out) hb)
   have n8_ := Aside0.mk (Kd.R_below (rY HO365.out) hb)
   have n9_ := Aside0.mk (blk_below (bY BK305.out) hb)
   have n10_ := Aside0.mk (blk_below (bY BK306.out) hb)
   have n11_ := Aside0.mk (blk_below (bY BK332.out) hb)
   have n12_ := Aside0.mk (blk_below (bY BK339.out) hb)
   have n13_ := Aside0.mk (blk_below (bY BK350.out) hb)
   have n14_ := Aside0.mk (blk_below (bY BK358.out) hb)
   have n15_ := Aside0.mk (below_step (by repeat (first | (with_reducible first | exact HB.out | apply below_alloc | apply pw_below_drewN | apply below_drew1 | refine below_set ?_ GE305.out | refine below_set ?_ GE306.out | refine below_set ?_ GE332.out | refine below_set ?_ GE339.out | refine below_set ?_ GE350.out | refine below_set ?_ GE358.out) | exact HB.out)) hb)
   clear HO_333000
   clear HO_333001
   clear HO_340000
   clear HO_340001
   clear HO_351007
   clear HO_359000
   clear HO_359001
   clear HO362
   clear HO365
   clear BK305
   clear BK306
   clear BK332
   clear BK339
   clear BK350
   clear BK358
   clear HB
   have HO_333000 := n0_
   have HO_333001 := n1_
   have HO_340000 := n2_
   have HO_340001 := n3_
   have HO_351007 := n4_
   have HO_359000 := n5_
   have HO_359001 := n6_
   have HO362 := n7_
   have HO365 := n8_
   have BK305 := n9_
   have BK306 := n10_
   have BK332 := n11_
   have BK339 := n12_
   have BK350 := n13_
   have BK358 := n14_
   have HB := n15_
   clear n0_ n1_ n2_ n3_ n4_ n5_ n6_ n7_ n8_ n9_ n10_ n11_ n12_ n13_ n14_ n15_
   refine hK.out _ _ ⟨(blk_cell BK339.out 0).trans rfl, (blk_cell BK339.out 1).trans rfl, (blk_cell BK305.out 0).trans rfl, (blk_cell BK305.out 1).trans rfl⟩ (fun hHeld => ?_)
   clear hK K
   refine norm_ (a' := ?_) ?_ ?_
   rotate_left
   ·show Act.put _ (some 57) _ = _
    simp only [pS]
    rfl
   refine pure_ (i := 4) (N := some 58) (v := ?_) (a' := ?_) #[T, T, T, T, T] rfl rfl (by kernel_rfl) (fun _ _ _ h => h) (Or.inl ⟨by rfl, ?_⟩) ?_ ?_
   rotate_left
   ·intro w'
    go_simp
    with_reducible rfl
   rotate_left
   ·simp only [pS]
    rfl
   refine done_ (by kernel_rfl) ?_
   try go_wp2
   have n0_ := Aside0.mk (Kd.R_drew HO_333000.out)
   have n1_ := Aside0.mk (Kd.R_drew HO_333001.out)
   have n2_ := Aside0.mk (Kd.R_drew HO_340000.out)
   have n3_ := Aside0.mk (Kd.R_drew HO_340001.out)
   have n4_ := Aside0.mk (Kd.R_drew HO_351007.out)
   have n5_ := Aside0.mk (Kd.R_drew HO_359000.out)
   have n6_ := Aside0.mk (Kd.R_drew HO_359001.out)
   have n7_ := Aside0.mk (Kd.R_drew HO362.out)
   have n8_ := Aside0.mk (Kd.R_drew HO365.out)
   have n9_ := Aside0.mk (blk_drew BK305.out)
   have n10_ := Aside0.mk (blk_drew BK306.out)
   have n11_ := Aside0.mk (blk_drew BK332.out)
   have n12_ := Aside0.mk (blk_drew BK339.out)
   have n13_ := Aside0.mk (blk_drew BK350.out)
   have n14_ := Aside0.mk (blk_drew BK358.out)
   have n15_ := Aside0.mk (below_drew1 HB.out)
   clear HO_333000
   clear HO_333001
   clear HO_340000
   clear HO_340001
   clear HO_351007
   clear HO_359000
   clear HO_359001
   clear HO362
   clear HO365
   clear BK305
   clear BK306
   clear BK332
   clear BK339
   clear BK350
   clear BK358
   clear HB
   have HO_333000 := n0_
   have HO_333001 := n1_
   have HO_340000 := n2_
   have HO_340001 := n3_
   have HO_351007 := n4_
   have HO_359000 := n5_
   have HO_359001 := n6_
   have HO362 := n7_
   have HO365 := n8_
   have BK305 := n9_
   have BK306 := n10_
   have BK332 := n11_
   have BK339 := n12_
   have BK350 := n13_
   have BK358 := n14_
   have HB := n15_
   clear n0_ n1_ n2_ n3_ n4_ n5_ n6_ n7_ n8_ n9_ n10_ n11_ n12_ n13_ n14_ n15_
   refine start_ (n := 5) (S := fun w' => w'.cell? ⟨gb350, 0, none⟩ = some (.int .i64 t340) ∧ w'.cell? ⟨gb350, 1, none⟩ = some (.int .i64 t341) ∧ w'.cell? ⟨gb350, 2, none⟩ = some (.int .i64 t342) ∧ w'.cell? ⟨gb350, 3, none⟩ = some (.int .i64 t343) ∧ w'.cell? ⟨gb350, 4, none⟩ = some (.int .i64 t344) ∧ w'.cell? ⟨gb350, 5, none⟩ = some (.int .i64 t345) ∧ w'.cell? ⟨gb350, 6, none⟩ = some (.int .i64 t346) ∧ w'.cell? ⟨gb350, 7, none⟩ = some (.slice Ao65 t347.length co65) ∧ w'.cell? ⟨gb306, 0, none⟩ = some (.int .i64 a1_0) ∧ w'.cell? ⟨gb306, 1, none⟩ = some (.int .i64 a1_1) ∧ w'.cell? ⟨gb306, 2, none⟩ = some (.int .i64 a1_2) ∧ w'.cell? ⟨gb306, 3, none⟩ = some (.int .i64 a1_3) ∧ w'.cell? ⟨gb306, 4, none⟩ = some (.int .i64 a1_4) ∧ w'.cell? ⟨gb306, 5, none⟩ = some (.int .i64 a1_5) ∧ w'.cell? ⟨gb306, 6, none⟩ = some (.int .i64 a1_6) ∧ w'.cell? ⟨gb306, 7, none⟩ = some (.slice A1_7 l1_7.length c1_7)) (ds := []) #[F, F, F, F, F] (by kernel_rfl) rfl rfl ⟨(blk_cell BK350.out 0).trans rfl, (blk_cell BK350.out 1).trans rfl, (blk_cell BK350.out 2).trans rfl, (blk_cell BK350.out 3).trans rfl, (blk_cell BK350.out 4).trans rfl, (blk_cell BK350.out 5).trans rfl, (blk_cell BK350.out 6).trans rfl, (blk_cell BK350.out 7).trans rfl, (blk_cell BK306.out 0).trans rfl, (blk_cell BK306.out 1).trans rfl, (blk_cell BK306.out 2).trans rfl, (blk_cell BK306.out 3).trans rfl, (blk_cell BK306.out 4).trans rfl, (blk_cell BK306.out 5).trans rfl, (blk_cell BK306.out 6).trans rfl, (blk_cell BK306.out 7).trans rfl⟩ (fun hHeld => ?_)
   generalize w117.drew = w118 at HO_333000 HO_333001 HO_340000 HO_340001 HO_351007 HO_359000 HO_359001 HO362 HO365 BK305 BK306 BK332 BK339 BK350 BK358 HB hHeld ⊢
   refine take_ (i := 0) (N := some 59) (v := ?_) (a' := ?_) #[T, F, F, F, F] rfl rfl (by kernel_rfl) (fun _ _ _ h => h) (Or.inl ⟨by rfl, ?_⟩) hHeld ?_ ?_
   rotate_left
   ·rintro w' ⟨s0, s1, s2, s3, s4, s5, s6, s7, s8, s9, s10, s11, s12, s13, s14, s15⟩
    go_simp
    with_reducible rfl
   rotate_left
   ·simp only [pS]
    rfl
   refine take_ (i := 1) (N := some 60) (v := ?_) (a' := ?_) #[T, T, F, F, F] rfl rfl (by kernel_rfl) (fun _ _ _ h => h) (Or.inl ⟨by rfl, ?_⟩) hHeld ?_ ?_
   rotate_left
   ·rintro w' ⟨s0, s1, s2, s3, s4, s5, s6, s7, s8, s9, s10, s11, s12, s13, s14, s15⟩
    go_simp
    with_reducible rfl
   rotate_left
   ·simp only [pS]
    rfl
   refine one_ (i := 2) (N := some 61) #[T, T, T, F, F] rfl rfl (by kernel_rfl) (by decide) (fun K hK => ?_)
   refine goes_ Try.func22 (by kernel_rfl) rfl #[.agg #[.int .i64 a1_0, .int .i64 a1_1, .int .i64 a1_2, .int .i64 a1_3, .int .i64 a1_4, .int .i64 a1_5, .int .i64 a1_6, .slice A1_7 l1_7.length c1_7]] (by rfl) rfl rfl (by (try simp only [List.map_toArray, List.map_cons, List.map_nil]); first | done | rfl) ?_
   with_reducible refine (laws_toPacket.calls kj24 a1_0 a1_1 a1_2 a1_3 a1_4 a1_5 a1_6 _ _ l1_7 t367 t368 t369 t370 t371 t372 t373 t374 _ ?side1 ?side2 A107.out).mono ?_
   (case side1 => exact cY ((Kd.C_below HR1_7.out HB.out)))
   (case side2 => exact HC1_7.out)
   rintro e w119 ⟨v375, rfl, ho0, hb⟩
   refine ⟨_, rfl, ?_⟩
   have n0_ := Aside0.mk (Kd.R_elder' (rY HO_333000.out) (Kd.R_base ho0) hb)
   have n1_ := Aside0.mk (Kd.R_elder' (rY HO_333001.out) (Kd.R_base ho0) hb)
   have n2_ := Aside0.mk (Kd.R_elder' (rY HO_340000.out) (Kd.R_base ho0) hb)
   have n3_ := Aside0.mk (Kd.R_elder' (rY HO_340001.out) (Kd.R_base ho0) hb)
   have n4_ := Aside0.mk (Kd.R_elder' (rY HO_351007.out) (Kd.R_base ho0) hb)
   have n5_ := Aside0.mk (Kd.R_elder' (rY HO_359000.out) (Kd.R_base ho0) hb)
   have n6_ := Aside0.mk (Kd.R_elder' (rY HO_359001.out) (Kd.R_base ho0) hb)
   have n7_ := Aside0.mk (Kd.R_elder' (rY HO362.out) (Kd.R_base ho0) hb)
   have n8_ := Aside0.mk (Kd.R_elder' (rY HO365.out) (Kd.R_base ho0) hb)
   have n9_ := Aside0.mk (Kd.R_lower (Kd.R_new' (Kd.R_new' (Kd.R_new' (Kd.R_new' (Kd.R_new' (Kd.R_new' (Kd.R_new' (Kd.R_new' (Kd.R_new' ho0 (Kd.R_lt (rY HO_333000.out))) (Kd.R_lt (rY HO_333001.out))) (Kd.R_lt (rY HO_340000.out))) (Kd.R_lt (rY HO_340001.out))) (Kd.R_lt (rY HO_351007.out))) (Kd.R_lt (rY HO_359000.out))) (Kd.R_lt (rY HO_359001.out))) (Kd.R_lt (rY HO362.out))) (Kd.R_lt (rY HO365.out))) (below_size (by repeat (first | (with_reducible first | exact HB.out | apply below_alloc | apply pw_below_drewN | apply below_drew1 | refine below_set ?_ GE305.out | refine below_set ?_ GE306.out | refine below_set ?_ GE332.out | refine below_set ?_ GE339.out | refine below_set ?_ GE350.out | refine below_set ?_ GE358.out) | exact HB.out))))
   have n10_ := Aside0.mk (blk_below (bY BK305.out) hb)
   have n11_ := Aside0.mk (blk_below (bY BK306.out) hb)
   have n12_ := Aside0.mk (blk_below (bY BK332.out) hb)
   have n13_ := Aside0.mk (blk_below (bY BK339.out) hb)
   have n14_ := Aside0.mk (blk_below (bY BK350.out) hb)
   have n15_ := Aside0.mk (blk_below (bY BK358.out) hb)
   have n16_ := Aside0.mk (below_step (by repeat (first | (with_reducible first | exact HB.out | apply below_alloc | apply pw_below_drewN | apply below_drew1 | refine below_set ?_ GE305.out | refine below_set ?_ GE306.out | refine below_set ?_ GE332.out | refine below_set ?_ GE339.out | refine below_set ?_ GE350.out | refine below_set ?_ GE358.out) | exact HB.out)) hb)
   clear HO_333000
   clear HO_333001
   clear HO_340000
   clear HO_340001
   clear HO_351007
   clear HO_359000
   clear HO_359001
   clear HO362
   clear HO365
   clear BK305
   clear BK306
   clear BK332
   clear BK339
   clear BK350
   clear BK358
   clear HB
   have HO_333000 := n0_
   have HO_333001 := n1_
   have HO_340000 := n2_
   have HO_340001 := n3_
   have HO_351007 := n4_
   have HO_359000 := n5_
   have HO_359001 := n6_
   have HO362 := n7_
   have HO365 := n8_
   have HO376 := n9_
   have BK305 := n10_
   have BK306 := n11_
   have BK332 := n12_
   have BK339 := n13_
   have BK350 := n14_
   have BK358 := n15_
   have HB := n16_
   clear n0_ n1_ n2_ n3_ n4_ n5_ n6_ n7_ n8_ n9_ n10_ n11_ n12_ n13_ n14_ n15_ n16_
   obtain ⟨Ao120, co120, eo120⟩ := Kd.R_slice HO376.out
   (first | subst eo120 | (injection eo120 with f1_ f2_ f3_; have f4_ := f1_.symm; have f5_ := f3_.symm; clear f1_ f2_ f3_; subst f4_; subst f5_))
   refine hK.out _ _ ⟨(blk_cell BK350.out 0).trans rfl, (blk_cell BK350.out 1).trans rfl, (blk_cell BK350.out 2).trans rfl, (blk_cell BK350.out 3).trans rfl, (blk_cell BK350.out 4).trans rfl, (blk_cell BK350.out 5).trans rfl, (blk_cell BK350.out 6).trans rfl, (blk_cell BK350.out 7).trans rfl, (blk_cell BK306.out 0).trans rfl, (blk_cell BK306.out 1).trans rfl, (blk_cell BK306.out 2).trans rfl, (blk_cell BK306.out 3).trans rfl, (blk_cell BK306.out 4).trans rfl, (blk_cell BK306.out 5).trans rfl, (blk_cell BK306.out 6).trans rfl, (blk_cell BK306.out 7).trans rfl⟩ (fun hHeld => ?_)
   clear hK K
   refine norm_ (a' := ?_) ?_ ?_
   rotate_left
   ·show Act.put _ (some 61) _ = _
    simp only [pS]
    rfl
   refine one_ (i := 3) (N := some 62) #[T, T, T, T, F] rfl rfl (by kernel_rfl) (by decide) (fun K hK => ?_)
   refine goes_ Try.func24 (by kernel_rfl) rfl #[.agg #[.int .i64 t340, .int .i64 t341, .int .i64 t342, .int .i64 t343, .int .i64 t344, .int .i64 t345, .int .i64 t346, .slice Ao65 t347.length co65], .agg #[.int .i64 t367, .int .i64 t368, .int .i64 t369, .int .i64 t370, .int .i64 t371, .int .i64 t372, .int .i64 t373, .slice Ao120 t374.length co120]] (by rfl) rfl rfl (by (try simp only [List.map_toArray, List.map_cons, List.map_nil]); first | done | rfl) ?_
   with_reducible refine (laws_eqPacket.calls kj24 t340 t341 t342 t343 t344 t345 t346 _ _ t347 t367 t368 t369 t370 t371 t372 t373 _ _ t374 true _ ?side1 ?side2 ?side3 ?side4 A108.out).mono ?_
   (case side1 => exact cY ((Kd.R_reads' HO_351007.out).2.2))
   (case side2 => exact (Kd.R_reads' HO_351007.out).2.1)
   (case side3 => exact cY ((Kd.R_reads' HO376.out).2.2))
   (case side4 => exact (Kd.R_reads' HO376.out).2.1)
   rintro e w121 ⟨rfl, hb⟩
   refine ⟨_, rfl, ?_⟩
   have n0_ := Aside0.mk (Kd.R_below (rY HO_333000.out) hb)
   have n1_ := Aside0.mk (Kd.R_below (rY HO_333001.out) hb)
   have n2_ := Aside0.mk (Kd.R_below (rY HO_340000.out) hb)
   have n3_ := Aside0.mk (Kd.R_below (rY HO_340001.out) hb)
   have n4_ := Aside0.mk (Kd.R_below (rY HO_351007.out) hb)
   have n5_ := Aside0.mk (Kd.R_below (rY HO_359000.out) hb)
   have n6_ := Aside0.mk (Kd.R_below (rY HO_359001.out) hb)
   have n7_ := Aside0.mk (Kd.R_below (rY HO362.out) hb)
   have n8_ := Aside0.mk (Kd.R_below (rY HO365.out) hb)
   have n9_ := Aside0.mk (Kd.R_below (rY HO376.out) hb)
   have n10_ := Aside0.mk (blk_below (bY BK305.out) hb)
   have n11_ := Aside0.mk (blk_below (bY BK306.out) hb)
   have n12_ := Aside0.mk (blk_below (bY BK332.out) hb)
   have n13_ := Aside0.mk (blk_below (bY BK339.out) hb)
   have n14_ := Aside0.mk (blk_below (bY BK350.out) hb)
   have n15_ := Aside0.mk (blk_below (bY BK358.out) hb)
   have n16_ := Aside0.mk (below_step (by repeat (first | (with_reducible first | exact HB.out | apply below_alloc | apply pw_below_drewN | apply below_drew1 | refine below_set ?_ GE305.out | refine below_set ?_ GE306.out | refine below_set ?_ GE332.out | refine below_set ?_ GE339.out | refine below_set ?_ GE350.out | refine below_set ?_ GE358.out) | exact HB.out)) hb)
   clear HO_333000
   clear HO_333001
   clear HO_340000
   clear HO_340001
   clear HO_351007
   clear HO_359000
   clear HO_359001
   clear HO362
   clear HO365
   clear HO376
   clear BK305
   clear BK306
   clear BK332
   clear BK339
   clear BK350
   clear BK358
   clear HB
   have HO_333000 := n0_
   have HO_333001 := n1_
   have HO_340000 := n2_
   have HO_340001 := n3_
   have HO_351007 := n4_
   have HO_359000 := n5_
   have HO_359001 := n6_
   have HO362 := n7_
   have HO365 := n8_
   have HO376 := n9_
   have BK305 := n10_
   have BK306 := n11_
   have BK332 := n12_
   have BK339 := n13_
   have BK350 := n14_
   have BK358 := n15_
   have HB := n16_
   clear n0_ n1_ n2_ n3_ n4_ n5_ n6_ n7_ n8_ n9_ n10_ n11_ n12_ n13_ n14_ n15_ n16_
   refine hK.out _ _ ⟨(blk_cell BK350.out 0).trans rfl, (blk_cell BK350.out 1).trans rfl, (blk_cell BK350.out 2).trans rfl, (blk_cell BK350.out 3).trans rfl, (blk_cell BK350.out 4).trans rfl, (blk_cell BK350.out 5).trans rfl, (blk_cell BK350.out 6).trans rfl, (blk_cell BK350.out 7).trans rfl, (blk_cell BK306.out 0).trans rfl, (blk_cell BK306.out 1).trans rfl, (blk_cell BK306.out 2).trans rfl, (blk_cell BK306.out 3).trans rfl, (blk_cell BK306.out 4).trans rfl, (blk_cell BK306.out 5).trans rfl, (blk_cell BK306.out 6).trans rfl, (blk_cell BK306.out 7).trans rfl⟩ (fun hHeld => ?_)
   clear hK K
   refine norm_ (a' := ?_) ?_ ?_
   rotate_left
   ·show Act.put _ (some 62) _ = _
    simp only [pS]
    rfl
   refine pure_ (i := 4) (N := some 63) (v := ?_) (a' := ?_) #[T, T, T, T, T] rfl rfl (by kernel_rfl) (fun _ _ _ h => h) (Or.inl ⟨by rfl, ?_⟩) ?_ ?_
   rotate_left
   ·intro w'
    go_simp
    with_reducible rfl
   rotate_left
   ·simp only [pS]
    rfl
   refine done_ (by kernel_rfl) ?_
   have hnb122 := NB339_305.out
   have hnc122 := NB305_339.out
   have hnb123 := NB339_306.out
   have hnc123 := NB306_339.out
   have hnb124 := NB339_332.out
   have hnc124 := NB332_339.out
   have hnb125 := NB339_350.out
   have hnc125 := NB350_339.out
   have hnb126 := NB339_358.out
   have hnc126 := NB358_339.out
   obtain ⟨hcz127_0, hcz127_1, hfz127_0, hfz127_1⟩ := b2 BK339.out
   go_upto_region 21 with (first | ((with_reducible refine gate_callee (f := 32) rfl ?_); refine goesL_ (some 66) rfl rfl Try.func32 (by kernel_rfl) rfl #[.agg #[.slice Ao50 t333.length co50, .slice Ao55 t336.length co55], .int .i64 1] rfl (by (try simp only [List.map_toArray, List.map_cons, List.map_nil]); first | done | rfl) ?_; (with_reducible refine (laws_markCredits.calls kj24 (fun k_ => some k_ = (.slice Ao50 t333.length co50 : Value).ownBlock) (.slice Ao50 t333.length co50) t333 (fun k_ => some k_ = (.slice Ao55 t336.length co55 : Value).ownBlock) (.slice Ao55 t336.length co55) t336 1 t378 t379 t380 w _ ?side1 ?side2 ?side3 ?side4 ?side5 A110.out).mono ?_); (case side1 => repeat (first | (with_reducible first | exact HB.out | apply below_alloc | apply pw_below_drewN | apply below_drew1 | refine below_set ?_ GE305.out | refine below_set ?_ GE306.out | refine below_set ?_ GE332.out | refine below_set ?_ GE339.out | refine below_set ?_ GE350.out | refine below_set ?_ GE358.out) | exact HB.out)); (case side2 => exact Kd.R_tight rfl HO_340000.out); (case side3 => exact fun k_ e_ => (HO_340000.out.1 k_ e_.symm).1.1.1.2.2.1); (case side4 => exact Kd.R_tight rfl HO_340001.out); (case side5 => exact fun k_ e_ => (HO_340001.out.1 k_ e_.symm).1.1.1.2.2.1); rintro e w128 ⟨rfl, hy0, hy1, hb, hkp⟩; refine ⟨_, rfl, ?_⟩; have n0_ := Aside0.mk (Kd.R_mono (ok' := fun k_ => some k_ ≠ (.slice Ao44 t328.length co44 : Value).ownBlock ∧ some k_ ≠ (.slice Ao50 t333.length co50 : Value).ownBlock ∧ some k_ ≠ (.slice Ao55 t336.length co55 : Value).ownBlock ∧ some k_ ≠ (.slice Ao65 t347.length co65 : Value).ownBlock ∧ some k_ ≠ (.slice Ao69 t351.length co69 : Value).ownBlock ∧ some k_ ≠ (.slice Ao76 t354.length co76 : Value).ownBlock ∧ some k_ ≠ (.slice Ao115 t360.length co115 : Value).ownBlock ∧ some k_ ≠ (.slice Ao116 t363.length co116 : Value).ownBlock ∧ some k_ ≠ (.slice Ao120 t374.length co120 : Value).ownBlock) (Kd.R_keptB (HO_333000.out) hkp (fun k_ hk_ hs_ => Or.elim hs_ (fun e_ => (hk_.1.1.1.2.1) e_) (fun e_ => (hk_.1.1.1.2.2.1) e_))) (fun k_ hk_ => ⟨hk_.1.1.1.1.1, hk_.1.1.1.1.2.1, hk_.1.1.1.1.2.2.1, hk_.1.1.1.1.2.2.2.1, hk_.1.1.1.1.2.2.2.2.1, hk_.1.1.1.1.2.2.2.2.2, hk_.1.1.1.2, hk_.1.1.2, hk_.1.2⟩)); have n1_ := Aside0.mk (Kd.R_mono (ok' := fun k_ => some k_ ≠ (.slice Ao42 t325.length co42 : Value).ownBlock ∧ some k_ ≠ (.slice Ao50 t333.length co50 : Value).ownBlock ∧ some k_ ≠ (.slice Ao55 t336.length co55 : Value).ownBlock ∧ some k_ ≠ (.slice Ao65 t347.length co65 : Value).ownBlock ∧ some k_ ≠ (.slice Ao69 t351.length co69 : Value).ownBlock ∧ some k_ ≠ (.slice Ao76 t354.length co76 : Value).ownBlock ∧ some k_ ≠ (.slice Ao115 t360.length co115 : Value).ownBlock ∧ some k_ ≠ (.slice Ao116 t363.length co116 : Value).ownBlock ∧ some k_ ≠ (.slice Ao120 t374.length co120 : Value).ownBlock) (Kd.R_keptB (HO_333001.out) hkp (fun k_ hk_ hs_ => Or.elim hs_ (fun e_ => (hk_.1.1.1.2.1) e_) (fun e_ => (hk_.1.1.1.2.2.1) e_))) (fun k_ hk_ => ⟨hk_.1.1.1.1.1, hk_.1.1.1.1.2.1, hk_.1.1.1.1.2.2.1, hk_.1.1.1.1.2.2.2.1, hk_.1.1.1.1.2.2.2.2.1, hk_.1.1.1.1.2.2.2.2.2, hk_.1.1.1.2, hk_.1.1.2, hk_.1.2⟩)); have n2_ := Aside0.mk (Kd.R_reok rfl hy0 (fun k_ e_ => HO_340000.out.1 k_ e_)); have n3_ := Aside0.mk (Kd.R_reok rfl hy1 (fun k_ e_ => HO_340001.out.1 k_ e_)); have n4_ := Aside0.mk (Kd.R_mono (ok' := fun k_ => some k_ ≠ (.slice Ao42 t325.length co42 : Value).ownBlock ∧ some k_ ≠ (.slice Ao44 t328.length co44 : Value).ownBlock ∧ some k_ ≠ (.slice Ao50 t333.length co50 : Value).ownBlock ∧ some k_ ≠ (.slice Ao55 t336.length co55 : Value).ownBlock ∧ some k_ ≠ (.slice Ao69 t351.length co69 : Value).ownBlock ∧ some k_ ≠ (.slice Ao76 t354.length co76 : Value).ownBlock ∧ some k_ ≠ (.slice Ao115 t360.length co115 : Value).ownBlock ∧ some k_ ≠ (.slice Ao116 t363.length co116 : Value).ownBlock ∧ some k_ ≠ (.slice Ao120 t374.length co120 : Value).ownBlock) (Kd.R_keptB (HO_351007.out) hkp (fun k_ hk_ hs_ => Or.elim hs_ (fun e_ => (hk_.1.1.1.2.2.1) e_) (fun e_ => (hk_.1.1.1.2.2.2.1) e_))) (fun k_ hk_ => ⟨hk_.1.1.1.1.1, hk_.1.1.1.1.2.1, hk_.1.1.1.1.2.2.1, hk_.1.1.1.1.2.2.2.1, hk_.1.1.1.1.2.2.2.2.1, hk_.1.1.1.1.2.2.2.2.2, hk_.1.1.1.2, hk_.1.1.2, hk_.1.2⟩)); have n5_ := Aside0.mk (Kd.R_mono (ok' := fun k_ => some k_ ≠ (.slice Ao42 t325.length co42 : Value).ownBlock ∧ some k_ ≠ (.slice Ao44 t328.length co44 : Value).ownBlock ∧ some k_ ≠ (.slice Ao50 t333.length co50 : Value).ownBlock ∧ some k_ ≠ (.slice Ao55 t336.length co55 : Value).ownBlock ∧ some k_ ≠ (.slice Ao65 t347.length co65 : Value).ownBlock ∧ some k_ ≠ (.slice Ao76 t354.length co76 : Value).ownBlock ∧ some k_ ≠ (.slice Ao115 t360.length co115 : Value).ownBlock ∧ some k_ ≠ (.slice Ao116 t363.length co116 : Value).ownBlock ∧ some k_ ≠ (.slice Ao120 t374.length co120 : Value).ownBlock) (Kd.R_keptB (HO_359000.out) hkp (fun k_ hk_ hs_ => Or.elim hs_ (fun e_ => (hk_.1.1.1.2.2.1) e_) (fun e_ => (hk_.1.1.1.2.2.2.1) e_))) (fun k_ hk_ => ⟨hk_.1.1.1.1.1, hk_.1.1.1.1.2.1, hk_.1.1.1.1.2.2.1, hk_.1.1.1.1.2.2.2.1, hk_.1.1.1.1.2.2.2.2.1, hk_.1.1.1.1.2.2.2.2.2, hk_.1.1.1.2, hk_.1.1.2, hk_.1.2⟩)); have n6_ := Aside0.mk (Kd.R_mono (ok' := fun k_ => some k_ ≠ (.slice Ao42 t325.length co42 : Value).ownBlock ∧ some k_ ≠ (.slice Ao44 t328.length co44 : Value).ownBlock ∧ some k_ ≠ (.slice Ao50 t333.length co50 : Value).ownBlock ∧ some k_ ≠ (.slice Ao55 t336.length co55 : Value).ownBlock ∧ some k_ ≠ (.slice Ao65 t347.length co65 : Value).ownBlock ∧ some k_ ≠ (.slice Ao69 t351.length co69 : Value).ownBlock ∧ some k_ ≠ (.slice Ao115 t360.length co115 : Value).ownBlock ∧ some k_ ≠ (.slice Ao116 t363.length co116 : Value).ownBlock ∧ some k_ ≠ (.slice Ao120 t374.length co120 : Value).ownBlock) (Kd.R_keptB (HO_359001.out) hkp (fun k_ hk_ hs_ => Or.elim hs_ (fun e_ => (hk_.1.1.1.2.2.1) e_) (fun e_ => (hk_.1.1.1.2.2.2.1) e_))) (fun k_ hk_ => ⟨hk_.1.1.1.1.1, hk_.1.1.1.1.2.1, hk_.1.1.1.1.2.2.1, hk_.1.1.1.1.2.2.2.1, hk_.1.1.1.1.2.2.2.2.1, hk_.1.1.1.1.2.2.2.2.2, hk_.1.1.1.2, hk_.1.1.2, hk_.1.2⟩)); have n7_ := Aside0.mk (blk_kept (bY BK305.out) hkp (fun hs_ => Or.elim hs_ (fun e_ => (fun e_ => (Kd.R_ne HO_340000.out BK305.out (by decide)) e_) e_) (fun e_ => (fun e_ => (Kd.R_ne HO_340001.out BK305.out (by decide)) e_) e_))); have n8_ := Aside0.mk (blk_kept (bY BK306.out) hkp (fun hs_ => Or.elim hs_ (fun e_ => (fun e_ => (Kd.R_ne HO_340000.out BK306.out (by decide)) e_) e_) (fun e_ => (fun e_ => (Kd.R_ne HO_340001.out BK306.out (by decide)) e_) e_))); have n9_ := Aside0.mk (blk_kept (bY BK332.out) hkp (fun hs_ => Or.elim hs_ (fun e_ => (fun e_ => (Kd.R_ne HO_340000.out BK332.out (by decide)) e_) e_) (fun e_ => (fun e_ => (Kd.R_ne HO_340001.out BK332.out (by decide)) e_) e_))); have n10_ := Aside0.mk (blk_kept (bY BK339.out) hkp (fun hs_ => Or.elim hs_ (fun e_ => (fun e_ => (Kd.R_ne HO_340000.out BK339.out (by decide)) e_) e_) (fun e_ => (fun e_ => (Kd.R_ne HO_340001.out BK339.out (by decide)) e_) e_))); have n11_ := Aside0.mk (blk_kept (bY BK350.out) hkp (fun hs_ => Or.elim hs_ (fun e_ => (fun e_ => (Kd.R_ne HO_340000.out BK350.out (by decide)) e_) e_) (fun e_ => (fun e_ => (Kd.R_ne HO_340001.out BK350.out (by decide)) e_) e_))); have n12_ := Aside0.mk (blk_kept (bY BK358.out) hkp (fun hs_ => Or.elim hs_ (fun e_ => (fun e_ => (Kd.R_ne HO_340000.out BK358.out (by decide)) e_) e_) (fun e_ => (fun e_ => (Kd.R_ne HO_340001.out BK358.out (by decide)) e_) e_))); have n13_ := Aside0.mk (Kd.R_mono (ok' := fun k_ => some k_ ≠ (.slice Ao42 t325.length co42 : Value).ownBlock ∧ some k_ ≠ (.slice Ao44 t328.length co44 : Value).ownBlock ∧ some k_ ≠ (.slice Ao50 t333.length co50 : Value).ownBlock ∧ some k_ ≠ (.slice Ao55 t336.length co55 : Value).ownBlock ∧ some k_ ≠ (.slice Ao65 t347.length co65 : Value).ownBlock ∧ some k_ ≠ (.slice Ao69 t351.length co69 : Value).ownBlock ∧ some k_ ≠ (.slice Ao76 t354.length co76 : Value).ownBlock ∧ some k_ ≠ (.slice Ao116 t363.length co116 : Value).ownBlock ∧ some k_ ≠ (.slice Ao120 t374.length co120 : Value).ownBlock) (Kd.R_keptB (HO362.out) hkp (fun k_ hk_ hs_ => Or.elim hs_ (fun e_ => (hk_.1.1.1.1.1.2) e_) (fun e_ => (hk_.1.1.1.1.2) e_))) (fun k_ hk_ => ⟨hk_.1.1.1.1.1.1.1.1.2, hk_.1.1.1.1.1.1.1.2, hk_.1.1.1.1.1.1.2, hk_.1.1.1.1.1.2, hk_.1.1.1.1.2, hk_.1.1.1.2, hk_.1.1.2, hk_.1.1.1.1.1.1.1.1.1, hk_.1.2⟩)); have n14_ := Aside0.mk (Kd.R_mono (ok' := fun k_ => some k_ ≠ (.slice Ao42 t325.length co42 : Value).ownBlock ∧ some k_ ≠ (.slice Ao44 t328.length co44 : Value).ownBlock ∧ some k_ ≠ (.slice Ao50 t333.length co50 : Value).ownBlock ∧ some k_ ≠ (.slice Ao55 t336.length co55 : Value).ownBlock ∧ some k_ ≠ (.slice Ao65 t347.length co65 : Value).ownBlock ∧ some k_ ≠ (.slice Ao69 t351.length co69 : Value).ownBlock ∧ some k_ ≠ (.slice Ao76 t354.length co76 : Value).ownBlock ∧ some k_ ≠ (.slice Ao115 t360.length co115 : Value).ownBlock ∧ some k_ ≠ (.slice Ao120 t374.length co120 : Value).ownBlock) (Kd.R_keptB (HO365.out) hkp (fun k_ hk_ hs_ => Or.elim hs_ (fun e_ => (hk_.1.1.1.1.1.2) e_) (fun e_ => (hk_.1.1.1.1.2) e_))) (fun k_ hk_ => ⟨hk_.1.1.1.1.1.1.1.1.2, hk_.1.1.1.1.1.1.1.2, hk_.1.1.1.1.1.1.2, hk_.1.1.1.1.1.2, hk_.1.1.1.1.2, hk_.1.1.1.2, hk_.1.1.2, hk_.1.1.1.1.1.1.1.1.1, hk_.1.2⟩)); have n15_ := Aside0.mk (Kd.R_mono (ok' := fun k_ => some k_ ≠ (.slice Ao42 t325.length co42 : Value).ownBlock ∧ some k_ ≠ (.slice Ao44 t328.length co44 : Value).ownBlock ∧ some k_ ≠ (.slice Ao50 t333.length co50 : Value).ownBlock ∧ some k_ ≠ (.slice Ao55 t336.length co55 : Value).ownBlock ∧ some k_ ≠ (.slice Ao65 t347.length co65 : Value).ownBlock ∧ some k_ ≠ (.slice Ao69 t351.length co69 : Value).ownBlock ∧ some k_ ≠ (.slice Ao76 t354.length co76 : Value).ownBlock ∧ some k_ ≠ (.slice Ao115 t360.length co115 : Value).ownBlock ∧ some k_ ≠ (.slice Ao116 t363.length co116 : Value).ownBlock) (Kd.R_keptB (HO376.out) hkp (fun k_ hk_ hs_ => Or.elim hs_ (fun e_ => (hk_.1.1.1.1.1.1.2) e_) (fun e_ => (hk_.1.1.1.1.1.2) e_))) (fun k_ hk_ => ⟨hk_.1.1.1.1.1.1.1.1.1.2, hk_.1.1.1.1.1.1.1.1.2, hk_.1.1.1.1.1.1.1.2, hk_.1.1.1.1.1.1.2, hk_.1.1.1.1.1.2, hk_.1.1.1.1.2, hk_.1.1.1.2, hk_.1.1.2, hk_.1.2⟩)); have n16_ := Aside0.mk (hb); clear HO_333000; clear HO_333001; clear HO_340000; clear HO_340001; clear HO_351007; clear HO_359000; clear HO_359001; clear BK305; clear BK306; clear BK332; clear BK339; clear BK350; clear BK358; clear HO362; clear HO365; clear HO376; clear HB; have HO_333000 := n0_; have HO_333001 := n1_; have HO_340000 := n2_; have HO_340001 := n3_; have HO_351007 := n4_; have HO_359000 := n5_; have HO_359001 := n6_; have BK305 := n7_; have BK306 := n8_; have BK332 := n9_; have BK339 := n10_; have BK350 := n11_; have BK358 := n12_; have HO362 := n13_; have HO365 := n14_; have HO376 := n15_; have HB := n16_; clear n0_ n1_ n2_ n3_ n4_ n5_ n6_ n7_ n8_ n9_ n10_ n11_ n12_ n13_ n14_ n15_ n16_; (try clear hb); (try clear hkp); (try clear hy0); (try clear hy1); have hnb129 := NB350_305.out; have hnc129 := NB305_350.out; have hnb130 := NB350_306.out; have hnc130 := NB306_350.out; have hnb131 := NB350_332.out; have hnc131 := NB332_350.out; have hnb132 := NB350_358.out; have hnc132 := NB358_350.out; have hcz133_0 : w128.cell? ⟨gb350, 0, none⟩ = some (.int .i64 t340) := (blk_cell BK350.out 0).trans rfl; have hcz133_1 : w128.cell? ⟨gb350, 1, none⟩ = some (.int .i64 t341) := (blk_cell BK350.out 1).trans rfl; have hcz133_2 : w128.cell? ⟨gb350, 2, none⟩ = some (.int .i64 t342) := (blk_cell BK350.out 2).trans rfl; have hcz133_3 : w128.cell? ⟨gb350, 3, none⟩ = some (.int .i64 t343) := (blk_cell BK350.out 3).trans rfl; have hcz133_4 : w128.cell? ⟨gb350, 4, none⟩ = some (.int .i64 t344) := (blk_cell BK350.out 4).trans rfl; have hcz133_5 : w128.cell? ⟨gb350, 5, none⟩ = some (.int .i64 t345) := (blk_cell BK350.out 5).trans rfl; have hcz133_6 : w128.cell? ⟨gb350, 6, none⟩ = some (.int .i64 t346) := (blk_cell BK350.out 6).trans rfl; have hcz133_7 : w128.cell? ⟨gb350, 7, none⟩ = some (.slice Ao65 t347.length co65) := (blk_cell BK350.out 7).trans rfl; have hfz133_0 := blk_frozen BK350.out 0; have hfz133_1 := blk_frozen BK350.out 1; have hfz133_2 := blk_frozen BK350.out 2; have hfz133_3 := blk_frozen BK350.out 3; have hfz133_4 := blk_frozen BK350.out 4; have hfz133_5 := blk_frozen BK350.out 5; have hfz133_6 := blk_frozen BK350.out 6; have hfz133_7 := blk_frozen BK350.out 7) | ((with_reducible refine gate_callee (f := 58) rfl ?_); refine goesL_ (some 69) rfl rfl Try.func58 (by kernel_rfl) rfl #[.agg #[.int .i64 t340, .int .i64 t341, .int .i64 t342, .int .i64 t343, .int .i64 t344, .int .i64 t345, .int .i64 t346, .slice Ao65 t347.length co65], .int .i64 t378] rfl (by (try simp only [List.map_toArray, List.map_cons, List.map_nil]); first | done | rfl) ?_; (with_reducible refine (laws_markPacket.calls kj24 t340 t341 t342 t343 t344 t345 t346 (fun k_ => some k_ = (.slice Ao65 t347.length co65 : Value).ownBlock) (.slice Ao65 t347.length co65) t347 t378 t381 t382 w _ ?side1 ?side2 A111.out).mono ?_); (case side1 => repeat (first | (with_reducible first | exact HB.out | apply below_alloc | apply pw_below_drewN | apply below_drew1 | refine below_set ?_ GE305.out | refine below_set ?_ GE306.out | refine below_set ?_ GE332.out | refine below_set ?_ GE339.out | refine below_set ?_ GE350.out | refine below_set ?_ GE358.out) | exact HB.out)); (case side2 => exact Kd.R_tight rfl HO_351007.out); rintro e w134 ⟨rfl, hy0, hb, hkp⟩; refine ⟨_, rfl, ?_⟩; have n0_ := Aside0.mk (Kd.R_mono (ok' := fun k_ => some k_ ≠ (.slice Ao44 t328.length co44 : Value).ownBlock ∧ some k_ ≠ (.slice Ao50 t333.length co50 : Value).ownBlock ∧ some k_ ≠ (.slice Ao55 t336.length co55 : Value).ownBlock ∧ some k_ ≠ (.slice Ao65 t347.length co65 : Value).ownBlock ∧ some k_ ≠ (.slice Ao69 t351.length co69 : Value).ownBlock ∧ some k_ ≠ (.slice Ao76 t354.length co76 : Value).ownBlock ∧ some k_ ≠ (.slice Ao115 t360.length co115 : Value).ownBlock ∧ some k_ ≠ (.slice Ao116 t363.length co116 : Value).ownBlock ∧ some k_ ≠ (.slice Ao120 t374.length co120 : Value).ownBlock) (Kd.R_keptB (HO_333000.out) hkp (fun k_ hk_ hs_ => (hk_.2.2.2.1) hs_)) (fun k_ hk_ => ⟨hk_.1.1, hk_.1.2.1, hk_.1.2.2.1, hk_.1.2.2.2.1, hk_.1.2.2.2.2.1, hk_.1.2.2.2.2.2.1, hk_.1.2.2.2.2.2.2.1, hk_.1.2.2.2.2.2.2.2.1, hk_.1.2.2.2.2.2.2.2.2⟩)); have n1_ := Aside0.mk (Kd.R_mono (ok' := fun k_ => some k_ ≠ (.slice Ao42 t325.length co42 : Value).ownBlock ∧ some k_ ≠ (.slice Ao50 t333.length co50 : Value).ownBlock ∧ some k_ ≠ (.slice Ao55 t336.length co55 : Value).ownBlock ∧ some k_ ≠ (.slice Ao65 t347.length co65 : Value).ownBlock ∧ some k_ ≠ (.slice Ao69 t351.length co69 : Value).ownBlock ∧ some k_ ≠ (.slice Ao76 t354.length co76 : Value).ownBlock ∧ some k_ ≠ (.slice Ao115 t360.length co115 : Value).ownBlock ∧ some k_ ≠ (.slice Ao116 t363.length co116 : Value).ownBlock ∧ some k_ ≠ (.slice Ao120 t374.length co120 : Value).ownBlock) (Kd.R_keptB (HO_333001.out) hkp (fun k_ hk_ hs_ => (hk_.2.2.2.1) hs_)) (fun k_ hk_ => ⟨hk_.1.1, hk_.1.2.1, hk_.1.2.2.1, hk_.1.2.2.2.1, hk_.1.2.2.2.2.1, hk_.1.2.2.2.2.2.1, hk_.1.2.2.2.2.2.2.1, hk_.1.2.2.2.2.2.2.2.1, hk_.1.2.2.2.2.2.2.2.2⟩)); have n2_ := Aside0.mk (Kd.R_mono (ok' := fun k_ => some k_ ≠ (.slice Ao42 t325.length co42 : Value).ownBlock ∧ some k_ ≠ (.slice Ao44 t328.length co44 : Value).ownBlock ∧ some k_ ≠ (.slice Ao55 t336.length co55 : Value).ownBlock ∧ some k_ ≠ (.slice Ao65 t347.length co65 : Value).ownBlock ∧ some k_ ≠ (.slice Ao69 t351.length co69 : Value).ownBlock ∧ some k_ ≠ (.slice Ao76 t354.length co76 : Value).ownBlock ∧ some k_ ≠ (.slice Ao115 t360.length co115 : Value).ownBlock ∧ some k_ ≠ (.slice Ao116 t363.length co116 : Value).ownBlock ∧ some k_ ≠ (.slice Ao120 t374.length co120 : Value).ownBlock) (Kd.R_keptB (HO_340000.out) hkp (fun k_ hk_ hs_ => (hk_.1.1.1.2.2.2.1) hs_)) (fun k_ hk_ => ⟨hk_.1.1.1.1.1, hk_.1.1.1.1.2.1, hk_.1.1.1.1.2.2.1, hk_.1.1.1.1.2.2.2.1, hk_.1.1.1.1.2.2.2.2.1, hk_.1.1.1.1.2.2.2.2.2, hk_.1.1.1.2, hk_.1.1.2, hk_.1.2⟩)); have n3_ := Aside0.mk (Kd.R_mono (ok' := fun k_ => some k_ ≠ (.slice Ao42 t325.length co42 : Value).ownBlock ∧ some k_ ≠ (.slice Ao44 t328.length co44 : Value).ownBlock ∧ some k_ ≠ (.slice Ao50 t333.length co50 : Value).ownBlock ∧ some k_ ≠ (.slice Ao65 t347.length co65 : Value).ownBlock ∧ some k_ ≠ (.slice Ao69 t351.length co69 : Value).ownBlock ∧ some k_ ≠ (.slice Ao76 t354.length co76 : Value).ownBlock ∧ some k_ ≠ (.slice Ao115 t360.length co115 : Value).ownBlock ∧ some k_ ≠ (.slice Ao116 t363.length co116 : Value).ownBlock ∧ some k_ ≠ (.slice Ao120 t374.length co120 : Value).ownBlock) (Kd.R_keptB (HO_340001.out) hkp (fun k_ hk_ hs_ => (hk_.1.1.1.2.2.2.1) hs_)) (fun k_ hk_ => ⟨hk_.1.1.1.1.1, hk_.1.1.1.1.2.1, hk_.1.1.1.1.2.2.1, hk_.1.1.1.1.2.2.2.1, hk_.1.1.1.1.2.2.2.2.1, hk_.1.1.1.1.2.2.2.2.2, hk_.1.1.1.2, hk_.1.1.2, hk_.1.2⟩)); have n4_ := Aside0.mk (Kd.R_reok rfl hy0 (fun k_ e_ => HO_351007.out.1 k_ e_)); have n5_ := Aside0.mk (Kd.R_mono (ok' := fun k_ => some k_ ≠ (.slice Ao42 t325.length co42 : Value).ownBlock ∧ some k_ ≠ (.slice Ao44 t328.length co44 : Value).ownBlock ∧ some k_ ≠ (.slice Ao50 t333.length co50 : Value).ownBlock ∧ some k_ ≠ (.slice Ao55 t336.length co55 : Value).ownBlock ∧ some k_ ≠ (.slice Ao65 t347.length co65 : Value).ownBlock ∧ some k_ ≠ (.slice Ao76 t354.length co76 : Value).ownBlock ∧ some k_ ≠ (.slice Ao115 t360.length co115 : Value).ownBlock ∧ some k_ ≠ (.slice Ao116 t363.length co116 : Value).ownBlock ∧ some k_ ≠ (.slice Ao120 t374.length co120 : Value).ownBlock) (Kd.R_keptB (HO_359000.out) hkp (fun k_ hk_ hs_ => (hk_.2.2.2.2.1) hs_)) (fun k_ hk_ => ⟨hk_.1.1, hk_.1.2.1, hk_.1.2.2.1, hk_.1.2.2.2.1, hk_.1.2.2.2.2.1, hk_.1.2.2.2.2.2.1, hk_.1.2.2.2.2.2.2.1, hk_.1.2.2.2.2.2.2.2.1, hk_.1.2.2.2.2.2.2.2.2⟩)); have n6_ := Aside0.mk (Kd.R_mono (ok' := fun k_ => some k_ ≠ (.slice Ao42 t325.length co42 : Value).ownBlock ∧ some k_ ≠ (.slice Ao44 t328.length co44 : Value).ownBlock ∧ some k_ ≠ (.slice Ao50 t333.length co50 : Value).ownBlock ∧ some k_ ≠ (.slice Ao55 t336.length co55 : Value).ownBlock ∧ some k_ ≠ (.slice Ao65 t347.length co65 : Value).ownBlock ∧ some k_ ≠ (.slice Ao69 t351.length co69 : Value).ownBlock ∧ some k_ ≠ (.slice Ao115 t360.length co115 : Value).ownBlock ∧ some k_ ≠ (.slice Ao116 t363.length co116 : Value).ownBlock ∧ some k_ ≠ (.slice Ao120 t374.length co120 : Value).ownBlock) (Kd.R_keptB (HO_359001.out) hkp (fun k_ hk_ hs_ => (hk_.2.2.2.2.1) hs_)) (fun k_ hk_ => ⟨hk_.1.1, hk_.1.2.1, hk_.1.2.2.1, hk_.1.2.2.2.1, hk_.1.2.2.2.2.1, hk_.1.2.2.2.2.2.1, hk_.1.2.2.2.2.2.2.1, hk_.1.2.2.2.2.2.2.2.1, hk_.1.2.2.2.2.2.2.2.2⟩)); have n7_ := Aside0.mk (blk_kept (bY BK305.out) hkp (fun hs_ => (fun e_ => (Kd.R_ne HO_351007.out BK305.out (by decide)) e_) hs_)); have n8_ := Aside0.mk (blk_kept (bY BK306.out) hkp (fun hs_ => (fun e_ => (Kd.R_ne HO_351007.out BK306.out (by decide)) e_) hs_)); have n9_ := Aside0.mk (blk_kept (bY BK332.out) hkp (fun hs_ => (fun e_ => (Kd.R_ne HO_351007.out BK332.out (by decide)) e_) hs_)); have n10_ := Aside0.mk (blk_kept (bY BK339.out) hkp (fun hs_ => (fun e_ => (Kd.R_ne HO_351007.out BK339.out (by decide)) e_) hs_)); have n11_ := Aside0.mk (blk_kept (bY BK350.out) hkp (fun hs_ => (fun e_ => (Kd.R_ne HO_351007.out BK350.out (by decide)) e_) hs_)); have n12_ := Aside0.mk (blk_kept (bY BK358.out) hkp (fun hs_ => (fun e_ => (Kd.R_ne HO_351007.out BK358.out (by decide)) e_) hs_)); have n13_ := Aside0.mk (Kd.R_mono (ok' := fun k_ => some k_ ≠ (.slice Ao42 t325.length co42 : Value).ownBlock ∧ some k_ ≠ (.slice Ao44 t328.length co44 : Value).ownBlock ∧ some k_ ≠ (.slice Ao50 t333.length co50 : Value).ownBlock ∧ some k_ ≠ (.slice Ao55 t336.length co55 : Value).ownBlock ∧ some k_ ≠ (.slice Ao65 t347.length co65 : Value).ownBlock ∧ some k_ ≠ (.slice Ao69 t351.length co69 : Value).ownBlock ∧ some k_ ≠ (.slice Ao76 t354.length co76 : Value).ownBlock ∧ some k_ ≠ (.slice Ao116 t363.length co116 : Value).ownBlock ∧ some k_ ≠ (.slice Ao120 t374.length co120 : Value).ownBlock) (Kd.R_keptB (HO362.out) hkp (fun k_ hk_ hs_ => (hk_.2.2.2.2.1) hs_)) (fun k_ hk_ => ⟨hk_.1.1, hk_.1.2.1, hk_.1.2.2.1, hk_.1.2.2.2.1, hk_.1.2.2.2.2.1, hk_.1.2.2.2.2.2.1, hk_.1.2.2.2.2.2.2.1, hk_.1.2.2.2.2.2.2.2.1, hk_.1.2.2.2.2.2.2.2.2⟩)); have n14_ := Aside0.mk (Kd.R_mono (ok' := fun k_ => some k_ ≠ (.slice Ao42 t325.length co42 : Value).ownBlock ∧ some k_ ≠ (.slice Ao44 t328.length co44 : Value).ownBlock ∧ some k_ ≠ (.slice Ao50 t333.length co50 : Value).ownBlock ∧ some k_ ≠ (.slice Ao55 t336.length co55 : Value).ownBlock ∧ some k_ ≠ (.slice Ao65 t347.length co65 : Value).ownBlock ∧ some k_ ≠ (.slice Ao69 t351.length co69 : Value).ownBlock ∧ some k_ ≠ (.slice Ao76 t354.length co76 : Value).ownBlock ∧ some k_ ≠ (.slice Ao115 t360.length co115 : Value).ownBlock ∧ some k_ ≠ (.slice Ao120 t374.length co120 : Value).ownBlock) (Kd.R_keptB (HO365.out) hkp (fun k_ hk_ hs_ => (hk_.2.2.2.2.1) hs_)) (fun k_ hk_ => ⟨hk_.1.1, hk_.1.2.1, hk_.1.2.2.1, hk_.1.2.2.2.1, hk_.1.2.2.2.2.1, hk_.1.2.2.2.2.2.1, hk_.1.2.2.2.2.2.2.1, hk_.1.2.2.2.2.2.2.2.1, hk_.1.2.2.2.2.2.2.2.2⟩)); have n15_ := Aside0.mk (Kd.R_mono (ok' := fun k_ => some k_ ≠ (.slice Ao42 t325.length co42 : Value).ownBlock ∧ some k_ ≠ (.slice Ao44 t328.length co44 : Value).ownBlock ∧ some k_ ≠ (.slice Ao50 t333.length co50 : Value).ownBlock ∧ some k_ ≠ (.slice Ao55 t336.length co55 : Value).ownBlock ∧ some k_ ≠ (.slice Ao65 t347.length co65 : Value).ownBlock ∧ some k_ ≠ (.slice Ao69 t351.length co69 : Value).ownBlock ∧ some k_ ≠ (.slice Ao76 t354.length co76 : Value).ownBlock ∧ some k_ ≠ (.slice Ao115 t360.length co115 : Value).ownBlock ∧ some k_ ≠ (.slice Ao116 t363.length co116 : Value).ownBlock) (Kd.R_keptB (HO376.out) hkp (fun k_ hk_ hs_ => (hk_.2.2.2.2.1) hs_)) (fun k_ hk_ => ⟨hk_.1.1, hk_.1.2.1, hk_.1.2.2.1, hk_.1.2.2.2.1, hk_.1.2.2.2.2.1, hk_.1.2.2.2.2.2.1, hk_.1.2.2.2.2.2.2.1, hk_.1.2.2.2.2.2.2.2.1, hk_.1.2.2.2.2.2.2.2.2⟩)); have n16_ := Aside0.mk (hb); clear HO_333000; clear HO_333001; clear HO_340000; clear HO_340001; clear HO_351007; clear HO_359000; clear HO_359001; clear BK305; clear BK306; clear BK332; clear BK339; clear BK350; clear BK358; clear HO362; clear HO365; clear HO376; clear HB; have HO_333000 := n0_; have HO_333001 := n1_; have HO_340000 := n2_; have HO_340001 := n3_; have HO_351007 := n4_; have HO_359000 := n5_; have HO_359001 := n6_; have BK305 := n7_; have BK306 := n8_; have BK332 := n9_; have BK339 := n10_; have BK350 := n11_; have BK358 := n12_; have HO362 := n13_; have HO365 := n14_; have HO376 := n15_; have HB := n16_; clear n0_ n1_ n2_ n3_ n4_ n5_ n6_ n7_ n8_ n9_ n10_ n11_ n12_ n13_ n14_ n15_ n16_; (try clear hb); (try clear hkp); (try clear hy0)))
   (try simp only [Act.put, List.setIfInBounds_toArray, List.set_cons_zero, List.set_cons_succ])
   go_cut [82] (fun v82 wc => ∃ (kq : Nat) (x82_111 : Bool), v82 = .bool x82_111 ∧ Aside0 (laws_FnExactSpendCredits.j1 kq t331 x82_111 l0_0 l0_1 a1_0 a1_1 a1_2 a1_3 a1_4 a1_5 a1_6 l1_7 t325 t328 t351 t354 = some r) ∧ Aside0 (kq ≤ kj24) ∧ Aside0 (Kd.R (Kd.int .i64) 3 wc w.heap.size (fun k_ => some k_ ≠ ((.slice Ao44 t328.length co44) : Value).ownBlock ∧ some k_ ≠ ((.slice Ao50 t333.length co50) : Value).ownBlock ∧ some k_ ≠ ((.slice Ao55 t336.length co55) : Value).ownBlock ∧ some k_ ≠ ((.slice Ao65 t347.length co65) : Value).ownBlock ∧ some k_ ≠ ((.slice Ao69 t351.length co69) : Value).ownBlock ∧ some k_ ≠ ((.slice Ao76 t354.length co76) : Value).ownBlock) (.slice Ao42 t325.length co42) t325) ∧ Aside0 (Kd.R (Kd.int .i64) 3 wc w.heap.size (fun k_ => some k_ ≠ ((.slice Ao42 t325.length co42) : Value).ownBlock ∧ some k_ ≠ ((.slice Ao50 t333.length co50) : Value).ownBlock ∧ some k_ ≠ ((.slice Ao55 t336.length co55) : Value).ownBlock ∧ some k_ ≠ ((.slice Ao65 t347.length co65) : Value).ownBlock ∧ some k_ ≠ ((.slice Ao69 t351.length co69) : Value).ownBlock ∧ some k_ ≠ ((.slice Ao76 t354.length co76) : Value).ownBlock) (.slice Ao44 t328.length co44) t328) ∧ Aside0 (Kd.R (Kd.int .i64) 3 wc w.heap.size (fun k_ => some k_ ≠ ((.slice Ao42 t325.length co42) : Value).ownBlock ∧ some k_ ≠ ((.slice Ao44 t328.length co44) : Value).ownBlock ∧ some k_ ≠ ((.slice Ao55 t336.length co55) : Value).ownBlock ∧ some k_ ≠ ((.slice Ao65 t347.length co65) : Value).ownBlock ∧ some k_ ≠ ((.slice Ao69 t351.length co69) : Value).ownBlock ∧ some k_ ≠ ((.slice Ao76 t354.length co76) : Value).ownBlock) (.slice Ao50 t333.length co50) t379) ∧ Aside0 (Kd.R (Kd.int .i64) 3 wc w.heap.size (fun k_ => some k_ ≠ ((.slice Ao42 t325.length co42) : Value).ownBlock ∧ some k_ ≠ ((.slice Ao44 t328.length co44) : Value).ownBlock ∧ some k_ ≠ ((.slice Ao50 t333.length co50) : Value).ownBlock ∧ some k_ ≠ ((.slice Ao65 t347.length co65) : Value).ownBlock ∧ some k_ ≠ ((.slice Ao69 t351.length co69) : Value).ownBlock ∧ some k_ ≠ ((.slice Ao76 t354.length co76) : Value).ownBlock) (.slice Ao55 t336.length co55) t380) ∧ Aside0 (Kd.R (Kd.int .i64) 3 wc w.heap.size (fun k_ => some k_ ≠ ((.slice Ao42 t325.length co42) : Value).ownBlock ∧ some k_ ≠ ((.slice Ao44 t328.length co44) : Value).ownBlock ∧ some k_ ≠ ((.slice Ao50 t333.length co50) : Value).ownBlock ∧ some k_ ≠ ((.slice Ao55 t336.length co55) : Value).ownBlock ∧ some k_ ≠ ((.slice Ao69 t351.length co69) : Value).ownBlock ∧ some k_ ≠ ((.slice Ao76 t354.length co76) : Value).ownBlock) (.slice Ao65 t347.length co65) t382) ∧ Aside0 (Kd.R (Kd.int .i64) 3 wc w.heap.size (fun k_ => some k_ ≠ ((.slice Ao42 t325.length co42) : Value).ownBlock ∧ some k_ ≠ ((.slice Ao44 t328.length co44) : Value).ownBlock ∧ some k_ ≠ ((.slice Ao50 t333.length co50) : Value).ownBlock ∧ some k_ ≠ ((.slice Ao55 t336.length co55) : Value).ownBlock ∧ some k_ ≠ ((.slice Ao65 t347.length co65) : Value).ownBlock ∧ some k_ ≠ ((.slice Ao76 t354.length co76) : Value).ownBlock) (.slice Ao69 t351.length co69) t351) ∧ Aside0 (Kd.R (Kd.int .i64) 3 wc w.heap.size (fun k_ => some k_ ≠ ((.slice Ao42 t325.length co42) : Value).ownBlock ∧ some k_ ≠ ((.slice Ao44 t328.length co44) : Value).ownBlock ∧ some k_ ≠ ((.slice Ao50 t333.length co50) : Value).ownBlock ∧ some k_ ≠ ((.slice Ao55 t336.length co55) : Value).ownBlock ∧ some k_ ≠ ((.slice Ao65 t347.length co65) : Value).ownBlock ∧ some k_ ≠ ((.slice Ao69 t351.length co69) : Value).ownBlock) (.slice Ao76 t354.length co76) t354) ∧ Aside0 (wc.heap[gb305]? = some (.cells #[(.slice A0_0 l0_0.length c0_0), (.slice A0_1 l0_1.length c0_1)] 24 (0, 0))) ∧ Aside0 (wc.heap[gb306]? = some (.cells #[.int .i64 a1_0, .int .i64 a1_1, .int .i64 a1_2, .int .i64 a1_3, .int .i64 a1_4, .int .i64 a1_5, .int .i64 a1_6, (.slice A1_7 l1_7.length c1_7)] 32 (0, 0))) ∧ Aside0 (wc.heap[gb332]? = some (.cells #[(.slice Ao42 t325.length co42), (.slice Ao44 t328.length co44)] 27 (0, 0))) ∧ Aside0 (wc.heap[gb339]? = some (.cells #[(.slice Ao50 t333.length co50), (.slice Ao55 t336.length co55)] 27 (0, 0))) ∧ Aside0 (wc.heap[gb350]? = some (.cells #[.int .i64 t340, .int .i64 t341, .int .i64 t342, .int .i64 t343, .int .i64 t344, .int .i64 t345, .int .i64 t346, (.slice Ao65 t347.length co65)] 35 (0, 0))) ∧ Aside0 (wc.heap[gb358]? = some (.cells #[(.slice Ao69 t351.length co69), (.slice Ao76 t354.length co76)] 27 (0, 0))) ∧ Aside0 (Below w.heap.size w wc))
   case first =>
    have H := HC112.out
    clear HC112
    by_cases c135 : t381 < 0
    ·rw [if_pos c135] at H
     have c135b0 : decide (t381 < 0) = true := decide_eq_true c135
     clear c135
     (first | rw [c135b0] | (simp only [i64_w, i32_w]; rw [c135b0]) | skip)
     have H' := Aside0.mk H
     clear H
     go_wp2
     go_meet
     case rel => exact ⟨_, (true), (by first | rfl | (simp; done) | (simp [*]; done)), H', ⟨by have := HJ24.out; first | omega | exact Nat.le_refl _⟩, ⟨by (repeat apply rX); exact Kd.R_mono HO_333000.out (fun _ hk => ⟨hk.1, ⟨hk.2.1, ⟨hk.2.2.1, ⟨hk.2.2.2.1, ⟨hk.2.2.2.2.1, hk.2.2.2.2.2.1⟩⟩⟩⟩⟩)⟩, ⟨by (repeat apply rX); exact Kd.R_mono HO_333001.out (fun _ hk => ⟨hk.1, ⟨hk.2.1, ⟨hk.2.2.1, ⟨hk.2.2.2.1, ⟨hk.2.2.2.2.1, hk.2.2.2.2.2.1⟩⟩⟩⟩⟩)⟩, ⟨by (repeat apply rX); exact Kd.R_mono HO_340000.out (fun _ hk => ⟨hk.1, ⟨hk.2.1, ⟨hk.2.2.1, ⟨hk.2.2.2.1, ⟨hk.2.2.2.2.1, hk.2.2.2.2.2.1⟩⟩⟩⟩⟩)⟩, ⟨by (repeat apply rX); exact Kd.R_mono HO_340001.out (fun _ hk => ⟨hk.1, ⟨hk.2.1, ⟨hk.2.2.1, ⟨hk.2.2.2.1, ⟨hk.2.2.2.2.1, hk.2.2.2.2.2.1⟩⟩⟩⟩⟩)⟩, ⟨by (repeat apply rX); exact Kd.R_mono HO_351007.out (fun _ hk => ⟨hk.1, ⟨hk.2.1, ⟨hk.2.2.1, ⟨hk.2.2.2.1, ⟨hk.2.2.2.2.1, hk.2.2.2.2.2.1⟩⟩⟩⟩⟩)⟩, ⟨by (repeat apply rX); exact Kd.R_mono HO_359000.out (fun _ hk => ⟨hk.1, ⟨hk.2.1, ⟨hk.2.2.1, ⟨hk.2.2.2.1, ⟨hk.2.2.2.2.1, hk.2.2.2.2.2.1⟩⟩⟩⟩⟩)⟩, ⟨by (repeat apply rX); exact Kd.R_mono HO_359001.out (fun _ hk => ⟨hk.1, ⟨hk.2.1, ⟨hk.2.2.1, ⟨hk.2.2.2.1, ⟨hk.2.2.2.2.1, hk.2.2.2.2.2.1⟩⟩⟩⟩⟩)⟩, ⟨by (repeat apply bX); exact BK305.out⟩, ⟨by (repeat apply bX); exact BK306.out⟩, ⟨by (repeat apply bX); exact BK332.out⟩, ⟨by (repeat apply bX); exact BK339.out⟩, ⟨by (repeat apply bX); exact BK350.out⟩, ⟨by (repeat apply bX); exact BK358.out⟩, ⟨by repeat (first | (with_reducible first | exact HB.out | apply below_alloc | apply pw_below_drewN | apply below_drew1 | refine below_set ?_ GE305.out | refine below_set ?_ GE306.out | refine below_set ?_ GE332.out | refine below_set ?_ GE339.out | refine below_set ?_ GE350.out | refine below_set ?_ GE358.out) | exact HB.out)⟩⟩
    rw [if_neg c135] at H
    have c135b0 : decide (t381 < 0) = false := decide_eq_false c135
    clear c135
    (first | rw [c135b0] | (simp only [i64_w, i32_w]; rw [c135b0]) | skip)
    replace H := Option.bind_eq_some_iff.mp H
    obtain ⟨t383, A1360, H⟩ := H
    have A136 := Aside0.mk A1360
    clear A1360
    by_cases c137 : t383 = true
    ·subst c137
     have H1 : (laws_FnExactSpendCredits.j1 kj24 t331 (t357 != t331) l0_0 l0_1 a1_0 a1_1 a1_2 a1_3 a1_4 a1_5 a1_6 l1_7 t325 t328 t351 t354) = some r := by rw [if_pos rfl] at H; exact H
     clear H
     have H := H1
     clear H1
     have H' := Aside0.mk H
     clear H
     have hnb138 := NB358_305.out
     have hnc138 := NB305_358.out
     have hnb139 := NB358_306.out
     have hnc139 := NB306_358.out
     have hnb140 := NB358_332.out
     have hnc140 := NB332_358.out
     have hnb141 := NB358_339.out
     have hnc141 := NB339_358.out
     have hnb142 := NB358_350.out
     have hnc142 := NB350_358.out
     obtain ⟨hcz143_0, hcz143_1, hfz143_0, hfz143_1⟩ := b2 BK358.out
     have hnb144 := NB332_305.out
     have hnc144 := NB305_332.out
     have hnb145 := NB332_306.out
     have hnc145 := NB306_332.out
     have hnb146 := NB332_339.out
     have hnc146 := NB339_332.out
     have hnb147 := NB332_350.out
     have hnc147 := NB350_332.out
     obtain ⟨hcz148_0, hcz148_1, hfz148_0, hfz148_1⟩ := b2 BK332.out
     go_wp2_with (first | (go_at_call 19; (with_reducible refine (laws_eqCredits.calls kj24 _ _ t351 _ _ t354 _ _ t325 _ _ t328 true _ ?side1 ?side2 ?side3 ?side4 ?side5 ?side6 ?side7 ?side8 A136.out).mono ?_); (case side1 => exact cY ((Kd.R_reads' HO_359000.out).2.2)); (case side2 => exact (Kd.R_reads' HO_359000.out).2.1); (case side3 => exact cY ((Kd.R_reads' HO_359001.out).2.2)); (case side4 => exact (Kd.R_reads' HO_359001.out).2.1); (case side5 => exact cY ((Kd.R_reads' HO_333000.out).2.2)); (case side6 => exact (Kd.R_reads' HO_333000.out).2.1); (case side7 => exact cY ((Kd.R_reads' HO_333001.out).2.2)); (case side8 => exact (Kd.R_reads' HO_333001.out).2.1); rintro e w149 ⟨rfl, hb⟩; have n0_ := Aside0.mk (Kd.R_below (rY HO_333000.out) hb); have n1_ := Aside0.mk (Kd.R_below (rY HO_333001.out) hb); have n2_ := Aside0.mk (Kd.R_below (rY HO_340000.out) hb); have n3_ := Aside0.mk (Kd.R_below (rY HO_340001.out) hb); have n4_ := Aside0.mk (Kd.R_below (rY HO_351007.out) hb); have n5_ := Aside0.mk (Kd.R_below (rY HO_359000.out) hb); have n6_ := Aside0.mk (Kd.R_below (rY HO_359001.out) hb); have n7_ := Aside0.mk (Kd.R_below (rY HO362.out) hb); have n8_ := Aside0.mk (Kd.R_below (rY HO365.out) hb); have n9_ := Aside0.mk (Kd.R_below (rY HO376.out) hb); have n10_ := Aside0.mk (blk_below (bY BK305.out) hb); have n11_ := Aside0.mk (blk_below (bY BK306.out) hb); have n12_ := Aside0.mk (blk_below (bY BK332.out) hb); have n13_ := Aside0.mk (blk_below (bY BK339.out) hb); have n14_ := Aside0.mk (blk_below (bY BK350.out) hb); have n15_ := Aside0.mk (blk_below (bY BK358.out) hb); have n16_ := Aside0.mk (below_step (by repeat (first | (with_reducible first | exact HB.out | apply below_alloc | apply pw_below_drewN | apply below_drew1 | refine below_set ?_ GE305.out | refine below_set ?_ GE306.out | refine below_set ?_ GE332.out | refine below_set ?_ GE339.out | refine below_set ?_ GE350.out | refine below_set ?_ GE358.out) | exact HB.out)) hb); clear HO_333000; clear HO_333001; clear HO_340000; clear HO_340001; clear HO_351007; clear HO_359000; clear HO_359001; clear HO362; clear HO365; clear HO376; clear BK305; clear BK306; clear BK332; clear BK339; clear BK350; clear BK358; clear HB; have HO_333000 := n0_; have HO_333001 := n1_; have HO_340000 := n2_; have HO_340001 := n3_; have HO_351007 := n4_; have HO_359000 := n5_; have HO_359001 := n6_; have HO362 := n7_; have HO365 := n8_; have HO376 := n9_; have BK305 := n10_; have BK306 := n11_; have BK332 := n12_; have BK339 := n13_; have BK350 := n14_; have BK358 := n15_; have HB := n16_; clear n0_ n1_ n2_ n3_ n4_ n5_ n6_ n7_ n8_ n9_ n10_ n11_ n12_ n13_ n14_ n15_ n16_; (try clear hb); (try clear hb2); (try clear hk); (try clear hi)))
     go_meet
     case rel => exact ⟨_, ((t357 != t331)), (by first | rfl | (simp; done) | (simp [*]; done)), H', ⟨by have := HJ24.out; first | omega | exact Nat.le_refl _⟩, ⟨by (repeat apply rX); exact Kd.R_mono HO_333000.out (fun _ hk => ⟨hk.1, ⟨hk.2.1, ⟨hk.2.2.1, ⟨hk.2.2.2.1, ⟨hk.2.2.2.2.1, hk.2.2.2.2.2.1⟩⟩⟩⟩⟩)⟩, ⟨by (repeat apply rX); exact Kd.R_mono HO_333001.out (fun _ hk => ⟨hk.1, ⟨hk.2.1, ⟨hk.2.2.1, ⟨hk.2.2.2.1, ⟨hk.2.2.2.2.1, hk.2.2.2.2.2.1⟩⟩⟩⟩⟩)⟩, ⟨by (repeat apply rX); exact Kd.R_mono HO_340000.out (fun _ hk => ⟨hk.1, ⟨hk.2.1, ⟨hk.2.2.1, ⟨hk.2.2.2.1, ⟨hk.2.2.2.2.1, hk.2.2.2.2.2.1⟩⟩⟩⟩⟩)⟩, ⟨by (repeat apply rX); exact Kd.R_mono HO_340001.out (fun _ hk => ⟨hk.1, ⟨hk.2.1, ⟨hk.2.2.1, ⟨hk.2.2.2.1, ⟨hk.2.2.2.2.1, hk.2.2.2.2.2.1⟩⟩⟩⟩⟩)⟩, ⟨by (repeat apply rX); exact Kd.R_mono HO_351007.out (fun _ hk => ⟨hk.1, ⟨hk.2.1, ⟨hk.2.2.1, ⟨hk.2.2.2.1, ⟨hk.2.2.2.2.1, hk.2.2.2.2.2.1⟩⟩⟩⟩⟩)⟩, ⟨by (repeat apply rX); exact Kd.R_mono HO_359000.out (fun _ hk => ⟨hk.1, ⟨hk.2.1, ⟨hk.2.2.1, ⟨hk.2.2.2.1, ⟨hk.2.2.2.2.1, hk.2.2.2.2.2.1⟩⟩⟩⟩⟩)⟩, ⟨by (repeat apply rX); exact Kd.R_mono HO_359001.out (fun _ hk => ⟨hk.1, ⟨hk.2.1, ⟨hk.2.2.1, ⟨hk.2.2.2.1, ⟨hk.2.2.2.2.1, hk.2.2.2.2.2.1⟩⟩⟩⟩⟩)⟩, ⟨by (repeat apply bX); exact BK305.out⟩, ⟨by (repeat apply bX); exact BK306.out⟩, ⟨by (repeat apply bX); exact BK332.out⟩, ⟨by (repeat apply bX); exact BK339.out⟩, ⟨by (repeat apply bX); exact BK350.out⟩, ⟨by (repeat apply bX); exact BK358.out⟩, ⟨by repeat (first | (with_reducible first | exact HB.out | apply below_alloc | apply pw_below_drewN | apply below_drew1 | refine below_set ?_ GE305.out | refine below_set ?_ GE306.out | refine below_set ?_ GE332.out | refine below_set ?_ GE339.out | refine below_set ?_ GE350.out | refine below_set ?_ GE358.out) | exact HB.out)⟩⟩
    replace c137 := Bool.eq_false_iff.mpr c137
    subst c137
    have H1 : (laws_FnExactSpendCredits.j1 kj24 t331 true l0_0 l0_1 a1_0 a1_1 a1_2 a1_3 a1_4 a1_5 a1_6 l1_7 t325 t328 t351 t354) = some r := by rw [if_neg (show ¬ (false = true) by decide)] at H; exact H
    clear H
    have H := H1
    clear H1
    have H' := Aside0.mk H
    clear H
    have hnb150 := NB358_305.out
    have hnc150 := NB305_358.out
    have hnb151 := NB358_306.out
    have hnc151 := NB306_358.out
    have hnb152 := NB358_332.out
    have hnc152 := NB332_358.out
    have hnb153 := NB358_339.out
    have hnc153 := NB339_358.out
    have hnb154 := NB358_350.out
    have hnc154 := NB350_358.out
    obtain ⟨hcz155_0, hcz155_1, hfz155_0, hfz155_1⟩ := b2 BK358.out
    have hnb156 := NB332_305.out
    have hnc156 := NB305_332.out
    have hnb157 := NB332_306.out
    have hnc157 := NB306_332.out
    have hnb158 := NB332_339.out
    have hnc158 := NB339_332.out
    have hnb159 := NB332_350.out
    have hnc159 := NB350_332.out
    obtain ⟨hcz160_0, hcz160_1, hfz160_0, hfz160_1⟩ := b2 BK332.out
    go_wp2_with (first | (go_at_call 19; (with_reducible refine (laws_eqCredits.calls kj24 _ _ t351 _ _ t354 _ _ t325 _ _ t328 false _ ?side1 ?side2 ?side3 ?side4 ?side5 ?side6 ?side7 ?side8 A136.out).mono ?_); (case side1 => exact cY ((Kd.R_reads' HO_359000.out).2.2)); (case side2 => exact (Kd.R_reads' HO_359000.out).2.1); (case side3 => exact cY ((Kd.R_reads' HO_359001.out).2.2)); (case side4 => exact (Kd.R_reads' HO_359001.out).2.1); (case side5 => exact cY ((Kd.R_reads' HO_333000.out).2.2)); (case side6 => exact (Kd.R_reads' HO_333000.out).2.1); (case side7 => exact cY ((Kd.R_reads' HO_333001.out).2.2)); (case side8 => exact (Kd.R_reads' HO_333001.out).2.1); rintro e w161 ⟨rfl, hb⟩; have n0_ := Aside0.mk (Kd.R_below (rY HO_333000.out) hb); have n1_ := Aside0.mk (Kd.R_below (rY HO_333001.out) hb); have n2_ := Aside0.mk (Kd.R_below (rY HO_340000.out) hb); have n3_ := Aside0.mk (Kd.R_below (rY HO_340001.out) hb); have n4_ := Aside0.mk (Kd.R_below (rY HO_351007.out) hb); have n5_ := Aside0.mk (Kd.R_below (rY HO_359000.out) hb); have n6_ := Aside0.mk (Kd.R_below (rY HO_359001.out) hb); have n7_ := Aside0.mk (Kd.R_below (rY HO362.out) hb); have n8_ := Aside0.mk (Kd.R_below (rY HO365.out) hb); have n9_ := Aside0.mk (Kd.R_below (rY HO376.out) hb); have n10_ := Aside0.mk (blk_below (bY BK305.out) hb); have n11_ := Aside0.mk (blk_below (bY BK306.out) hb); have n12_ := Aside0.mk (blk_below (bY BK332.out) hb); have n13_ := Aside0.mk (blk_below (bY BK339.out) hb); have n14_ := Aside0.mk (blk_below (bY BK350.out) hb); have n15_ := Aside0.mk (blk_below (bY BK358.out) hb); have n16_ := Aside0.mk (below_step (by repeat (first | (with_reducible first | exact HB.out | apply below_alloc | apply pw_below_drewN | apply below_drew1 | refine below_set ?_ GE305.out | refine below_set ?_ GE306.out | refine below_set ?_ GE332.out | refine below_set ?_ GE339.out | refine below_set ?_ GE350.out | refine below_set ?_ GE358.out) | exact HB.out)) hb); clear HO_333000; clear HO_333001; clear HO_340000; clear HO_340001; clear HO_351007; clear HO_359000; clear HO_359001; clear HO362; clear HO365; clear HO376; clear BK305; clear BK306; clear BK332; clear BK339; clear BK350; clear BK358; clear HB; have HO_333000 := n0_; have HO_333001 := n1_; have HO_340000 := n2_; have HO_340001 := n3_; have HO_351007 := n4_; have HO_359000 := n5_; have HO_359001 := n6_; have HO362 := n7_; have HO365 := n8_; have HO376 := n9_; have BK305 := n10_; have BK306 := n11_; have BK332 := n12_; have BK339 := n13_; have BK350 := n14_; have BK358 := n15_; have HB := n16_; clear n0_ n1_ n2_ n3_ n4_ n5_ n6_ n7_ n8_ n9_ n10_ n11_ n12_ n13_ n14_ n15_ n16_; (try clear hb); (try clear hb2); (try clear hk); (try clear hi)))
    go_meet
    case rel => exact ⟨_, (true), (by first | rfl | (simp; done) | (simp [*]; done)), H', ⟨by have := HJ24.out; first | omega | exact Nat.le_refl _⟩, ⟨by (repeat apply rX); exact Kd.R_mono HO_333000.out (fun _ hk => ⟨hk.1, ⟨hk.2.1, ⟨hk.2.2.1, ⟨hk.2.2.2.1, ⟨hk.2.2.2.2.1, hk.2.2.2.2.2.1⟩⟩⟩⟩⟩)⟩, ⟨by (repeat apply rX); exact Kd.R_mono HO_333001.out (fun _ hk => ⟨hk.1, ⟨hk.2.1, ⟨hk.2.2.1, ⟨hk.2.2.2.1, ⟨hk.2.2.2.2.1, hk.2.2.2.2.2.1⟩⟩⟩⟩⟩)⟩, ⟨by (repeat apply rX); exact Kd.R_mono HO_340000.out (fun _ hk => ⟨hk.1, ⟨hk.2.1, ⟨hk.2.2.1, ⟨hk.2.2.2.1, ⟨hk.2.2.2.2.1, hk.2.2.2.2.2.1⟩⟩⟩⟩⟩)⟩, ⟨by (repeat apply rX); exact Kd.R_mono HO_340001.out (fun _ hk => ⟨hk.1, ⟨hk.2.1, ⟨hk.2.2.1, ⟨hk.2.2.2.1, ⟨hk.2.2.2.2.1, hk.2.2.2.2.2.1⟩⟩⟩⟩⟩)⟩, ⟨by (repeat apply rX); exact Kd.R_mono HO_351007.out (fun _ hk => ⟨hk.1, ⟨hk.2.1, ⟨hk.2.2.1, ⟨hk.2.2.2.1, ⟨hk.2.2.2.2.1, hk.2.2.2.2.2.1⟩⟩⟩⟩⟩)⟩, ⟨by (repeat apply rX); exact Kd.R_mono HO_359000.out (fun _ hk => ⟨hk.1, ⟨hk.2.1, ⟨hk.2.2.1, ⟨hk.2.2.2.1, ⟨hk.2.2.2.2.1, hk.2.2.2.2.2.1⟩⟩⟩⟩⟩)⟩, ⟨by (repeat apply rX); exact Kd.R_mono HO_359001.out (fun _ hk => ⟨hk.1, ⟨hk.2.1, ⟨hk.2.2.1, ⟨hk.2.2.2.1, ⟨hk.2.2.2.2.1, hk.2.2.2.2.2.1⟩⟩⟩⟩⟩)⟩, ⟨by (repeat apply bX); exact BK305.out⟩, ⟨by (repeat apply bX); exact BK306.out⟩, ⟨by (repeat apply bX); exact BK332.out⟩, ⟨by (repeat apply bX); exact BK339.out⟩, ⟨by (repeat apply bX); exact BK350.out⟩, ⟨by (repeat apply bX); exact BK358.out⟩, ⟨by repeat (first | (with_reducible first | exact HB.out | apply below_alloc | apply pw_below_drewN | apply below_drew1 | refine below_set ?_ GE305.out | refine below_set ?_ GE306.out | refine below_set ?_ GE332.out | refine below_set ?_ GE339.out | refine below_set ?_ GE350.out | refine below_set ?_ GE358.out) | exact HB.out)⟩⟩
   case rest => exact laws_FnExactSpendCredits.rest2 k A0_0 c0_0 l0_0 A0_1 c0_1 l0_1 a1_0 a1_1 a1_2 a1_3 a1_4 a1_5 a1_6 A1_7 c1_7 l1_7 r w hrt hu24 hu32 hu27 hu35 HR0_0 HC0_0 HR0_1 HC0_1 HR1_7 HC1_7 t307 A3 c4b0 t308 A10 c11b0 t309 t312 A19 t315 t316 t317 t318 t319 t320 t321 t322 A20 t325 t328 t331 A21 t333 t336 A22 t340 t341 t342 t343 t344 t345 t346 t347 A23 t351 t354 t357 A24 gb305 GW305 GE305 gb306 GW306 GE306 NB305_306 NB306_305 hnb28 hnc28 HT_ HW_ v310 v313 v323 gb332 GW332 GE332 NB305_332 NB332_305 NB306_332 NB332_306 Ao42 co42 Ao44 co44 hns43_0 hns43_1 hms43_0 hms43_1 hns45_0 hns45_1 hms45_0 hms45_1 hnb46 hnc46 gb339 GW339 GE339 NB305_339 NB339_305 NB306_339 NB339_306 NB332_339 NB339_332 Ao50 co50 hnb51 hnc51 hnb52 hnc52 hnb53 hnc53 Ao55 co55 hnb56 hnc56 gb350 GW350 GE350 NB305_350 NB350_305 NB306_350 NB350_306 NB332_350 NB350_332 NB339_350 NB350_339 hnb60 hnc60 hnb61 hnc61 hnb62 hnc62 hnb63 hnc63 Ao65 co65 gb358 GW358 GE358 NB305_358 NB358_305 NB306_358 NB358_306 NB332_358 NB358_332 NB339_358 NB358_339 NB350_358 NB358_350 Ao69 co69 hnb70 hnc70 hnb71 hnc71 hnb72 hnc72 hnb73 hnc73 hnb74 hnc74 Ao76 co76 kj24 HJ24 t360 t363 A104 A105 t367 t368 t369 t370 t371 t372 t373 t374 A107 A108 t378 t379 t380 A110 t381 t382 A111 Ao115 co115 Ao116 co116 Ao120 co120 hnb122 hnc122 hnb123 hnc123 hnb124 hnc124 hnb125 hnc125 hnb126 hnc126 hnb129 hnc129 hnb130 hnc130 hnb131 hnc131 hnb132 hnc132 wc u17 u18 u19 u20 u21 u22 u23 u24 u25 u26 u27 u28 u29 u30 u31 u32 u33 u34 u35 u36 u37 u38 u39 u40 u41 u42 u43 u44 u45 u46 u47 u48 u49 u50 u51 u52 u53 u54 u55 u56 u57 u58 u59 u60 u61 u62 u63 u64 u65 u66 u67 u68 u69 u70 u71 u72 u73 u74 u75 u76 u77 u78 u79 u80 u81 u82 u83 u84 u85 u86 u87 u88 u89 u90 u91 u92 u93 u94 u95 u96 u97 u98 u99 u100 u101 u102 u103 u104 u105 u106 u107 u108 u109 u110 u111 u112 u113 u114 u115 u116 u117 u118 hcut _ (by assumption) _ (by assumption)
/-- THE ONE PURE STATEMENT of laws_FnExactSpendCredits. -/
def laws_FnExactSpendCredits.Pure : Prop := ∀ (l0_0 : List Int) (l0_1 : List Int) (a1_0 : Int) (a1_1 : Int) (a1_2 : Int) (a1_3 : Int) (a1_4 : Int) (a1_5 : Int) (a1_6 : Int) (l1_7 : List Int), (l0_0.length ≤ 9223372036854775807 ∧ ∀ e414 ∈ l0_0, (Lit.int .i64 e414).wf = true) → (l0_1.length ≤ 9223372036854775807 ∧ ∀ e415 ∈ l0_1, (Lit.int .i64 e415).wf = true) → ((Lit.int .i64 a1_0).wf = true) → ((Lit.int .i64 a1_1).wf = true) → ((Lit.int .i64 a1_2).wf = true) → ((Lit.int .i64 a1_3).wf = true) → ((Lit.int .i64 a1_4).wf = true) → ((Lit.int .i64 a1_5).wf = true) → ((Lit.int .i64 a1_6).wf = true) → (l1_7.length ≤ 9223372036854775807 ∧ ∀ e416 ∈ l1_7, (Lit.int .i64 e416).wf = true) → ∃ k, laws_FnExactSpendCredits.f k l0_0 l0_1 a1_0 a1_1 a1_2 a1_3 a1_4 a1_5 a1_6 l1_7 = some true

end Go.Proofs.Ytkapncihoabnmaa.PFnExactSpendCredits
