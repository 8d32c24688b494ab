-- Written by a program of this session (wip/xp): not trusted, Lean checks it.
import Derived.Test.YtkapncihoabnmaaPFnExactReturnCreditsx0
import Derived.Test.YtkapncihoabnmaaPFnExactReturnCreditsx1
import Derived.Test.YtkapncihoabnmaaPFnExactReturnCreditsx6
import Derived.Test.YtkapncihoabnmaaPFnExactReturnCreditsx8
import Derived.Test.YtkapncihoabnmaaPFnExactReturnCreditsx9
namespace Go.Proofs.Ytkapncihoabnmaa.PFnExactReturnCredits
open Go.RowKit Go.Proofs.YtkapncihoabnmaaW.PrintWords Go.Proofs.YtkapncihoabnmaaW.PrintLast Go.Proofs.YtkapncihoabnmaaW.PrintMore
attribute [local go_sem] max2_int min2_int max_two min_two max_three min_three max_four min_four   -- for this text's walks alone
set_option linter.unusedVariables false
set_option linter.unusedSimpArgs false

/-! ### impl_ReturnCredits: function 57 -/
def impl_ReturnCredits.j0 : Nat → Bool → List Int → List Int → Int → Int → Int → Int → Int → Int → Int → List Int → List Int → List Int → Option (List Int × List Int × Bool)
 | 0, _, _, _, _, _, _, _, _, _, _, _, _, _ => none
 | k + 1, x17, x270000, x270001, x271000, x271001, x271002, x271003, x271004, x271005, x271006, x271007, x279000, x279001 => if x17 = true then (some (x279000, x279001, false)) else ((impl_ClassOf.f k x271000 x271001 x271002 x271003 x271004 x271005 x271006 x271007).bind fun t281 => (if 0 ≤ t281 then (if t281 < (x279000.length : Int) then ((some (x279000.set (t281 : Int).toNat (wrap64 ((rd x279000 t281) + 1)) : List Int)).bind fun y283 => (if t281 < (x279001.length : Int) then ((impl_PacketUnits.f k x271000 x271001 x271002 x271003 x271004 x271005 x271006 x271007).bind fun t285 => ((some (x279001.set (t281 : Int).toNat (wrap64 ((rd x279001 t281) + t285)) : List Int)).bind fun y286 => ((impl_CreditsOk.f k y283 y286).bind fun t287 => (if t287 = true then (some (y283, y286, true)) else ((impl_copyCredits.f x270000 x270001).bind fun bt288 => (some (bt288.1, bt288.2, false))))))) else (none))) else (none)) else (none)))
def impl_ReturnCredits.f (k : Nat) (l0_0 : List Int) (l0_1 : List Int) (a1_0 : Int) (a1_1 : Int) (a1_2 : Int) (a1_3 : Int) (a1_4 : Int) (a1_5 : Int) (a1_6 : Int) (l1_7 : List Int) : Option (List Int × List Int × Bool) := (impl_copyCredits.f l0_0 l0_1).bind fun bt272 => ((impl_CreditsOk.f k l0_0 l0_1).bind fun t279 => (if t279 = true then ((impl_IsPacket.f k a1_0 a1_1 a1_2 a1_3 a1_4 a1_5 a1_6 l1_7).bind fun t280 => (impl_ReturnCredits.j0 k (!t280) l0_0 l0_1 a1_0 a1_1 a1_2 a1_3 a1_4 a1_5 a1_6 l1_7 bt272.1 bt272.2)) else (impl_ReturnCredits.j0 k true l0_0 l0_1 a1_0 a1_1 a1_2 a1_3 a1_4 a1_5 a1_6 l1_7 bt272.1 bt272.2)))
def impl_ReturnCredits.T6 : Bool × List (List Nat × List Nat) := (true, [([], []), ([0], [0]), ([], []), ([1, 2], [1, 2]), ([3], [3]), ([], []), ([5], [5]), ([4, 6], [4, 6]), ([1, 2, 0, 1, 2, 3, 4, 5, 6, 7], [1, 2]), ([8, 7, 6, 0, 1, 2, 3, 4, 5, 6, 7], [7, 8])])
def impl_ReturnCredits.B6 : List Nat := [0, 1, 0, 7, 15, 0, 32, 127, 255, 511]
theorem impl_ReturnCredits.tab6 : rtab .any (opsOf Try.f57 6) = impl_ReturnCredits.T6 := by kernel_rfl
theorem impl_ReturnCredits.bits6 : waitsOk impl_ReturnCredits.T6.2 impl_ReturnCredits.B6 = true := by kernel_rfl
set_option maxHeartbeats 8000000 in
set_option maxRecDepth 100000 in
theorem impl_ReturnCredits.calls (k : Nat) (A0_0 : Option Addr) (c0_0 : Nat) (l0_0 : List Int) (A0_1 : Option Addr) (c0_1 : Nat) (l0_1 : List Int) (a1_0 : Int) (a1_1 : Int) (a1_2 : Int) (a1_3 : Int) (a1_4 : Int) (a1_5 : Int) (a1_6 : Int) (A1_7 : Option Addr) (c1_7 : Nat) (l1_7 : List Int) (r1 : List Int) (r2 : List Int) (r3 : Bool) (w : World) (hr0_0 : Kd.C (Kd.int .i64) w A0_0 l0_0.length l0_0) (hc0_0 : l0_0.length ≤ c0_0) (hr0_1 : Kd.C (Kd.int .i64) w A0_1 l0_1.length l0_1) (hc0_1 : l0_1.length ≤ c0_1) (hr1_7 : Kd.C (Kd.int .i64) w A1_7 l1_7.length l1_7) (hc1_7 : l1_7.length ≤ c1_7) (h : impl_ReturnCredits.f k l0_0 l0_1 a1_0 a1_1 a1_2 a1_3 a1_4 a1_5 a1_6 l1_7 = some (r1, r2, r3)) :
  Calls Try.prog 57 #[.agg #[.slice A0_0 l0_0.length c0_0, .slice A0_1 l0_1.length c0_1], .agg #[.int .i64 a1_0, .int .i64 a1_1, .int .i64 a1_2, .int .i64 a1_3, .int .i64 a1_4, .int .i64 a1_5, .int .i64 a1_6, .slice A1_7 l1_7.length c1_7]] w fun e w' => ∃ v0_ v1_ : Value, e = .returned (.tuple #[.agg #[v0_, v1_], .bool r3]) ∧ Kd.R (Kd.int .i64) 3 w' w.heap.size (fun k_ => some k_ ≠ (v1_ : Value).ownBlock) v0_ r1 ∧ Kd.R (Kd.int .i64) 3 w' w.heap.size (fun k_ => some k_ ≠ (v0_ : Value).ownBlock) v1_ r2 ∧ Below w.heap.size w w' := by
 have hu27 := Try.underlying27
 have hu35 := Try.underlying35
 have HR0_0 := Aside0.mk hr0_0
 have HC0_0 := Aside0.mk hc0_0
 clear hr0_0 hc0_0
 have HR0_1 := Aside0.mk hr0_1
 have HC0_1 := Aside0.mk hc0_1
 clear hr0_1 hc0_1
 have HR1_7 := Aside0.mk hr1_7
 have HC1_7 := Aside0.mk hc1_7
 clear hr1_7 hc1_7
 have HB := Aside0.mk (Below.refl w.heap.size w)
 have H : ((impl_copyCredits.f l0_0 l0_1).bind fun bt272 => ((impl_CreditsOk.f k l0_0 l0_1).bind fun t279 => (if t279 = true then ((impl_IsPacket.f k a1_0 a1_1 a1_2 a1_3 a1_4 a1_5 a1_6 l1_7).bind fun t280 => (impl_ReturnCredits.j0 k (!t280) l0_0 l0_1 a1_0 a1_1 a1_2 a1_3 a1_4 a1_5 a1_6 l1_7 bt272.1 bt272.2)) else (impl_ReturnCredits.j0 k true l0_0 l0_1 a1_0 a1_1 a1_2 a1_3 a1_4 a1_5 a1_6 l1_7 bt272.1 bt272.2)))) = some (r1, r2, r3) := h
 clear h
 replace H := Option.bind_eq_some_iff.mp H
 obtain ⟨⟨t272, t275⟩, A30, H⟩ := H
 replace H : ((impl_CreditsOk.f k l0_0 l0_1).bind fun t279 => (if t279 = true then ((impl_IsPacket.f k a1_0 a1_1 a1_2 a1_3 a1_4 a1_5 a1_6 l1_7).bind fun t280 => (impl_ReturnCredits.j0 k (!t280) l0_0 l0_1 a1_0 a1_1 a1_2 a1_3 a1_4 a1_5 a1_6 l1_7 t272 t275)) else (impl_ReturnCredits.j0 k true l0_0 l0_1 a1_0 a1_1 a1_2 a1_3 a1_4 a1_5 a1_6 l1_7 t272 t275))) = some (r1, r2, r3) := H
 have A3 := Aside0.mk A30
 clear A30
 have HC4 := Aside0.mk H
 clear H
 go_enter Try.func57, Try.ntmps57
 go_upto_region 2 with (first | ((with_reducible refine gate_dst (N := 2) rfl ?_); refine box_event ?hg (N := 2) ?hd (cs := #[.slice A0_0 l0_0.length c0_0, .slice A0_1 l0_1.length c0_1]) (t := 27) ?hr ?_; (case hd => rfl); (case hg => rfl); (case hr => first | (go_simp; done) | (go_simp; rfl)); intro gb269 hg w5 hbox hb; have n0_ := Aside0.mk (below_step (beY HB.out) hb); have n1_ := Aside0.mk (hbox); have n2_ := Aside0.mk ((by rw [hg]; exact (below_size (beY HB.out)) : w.heap.size ≤ gb269)); have n3_ := Aside0.mk ((by rw [hg]; exact (below_size (beY HB.out)) : w.heap.size ≤ gb269)); clear HB; have HB := n0_; have BK269 := n1_; have GW269 := n2_; have GE269 := n3_; clear n0_ n1_ n2_ n3_; clear hb hbox hg) | ((with_reducible refine gate_dst (N := 3) rfl ?_); refine box_event ?hg (N := 3) ?hd (cs := #[.int .i64 a1_0, .int .i64 a1_1, .int .i64 a1_2, .int .i64 a1_3, .int .i64 a1_4, .int .i64 a1_5, .int .i64 a1_6, .slice A1_7 l1_7.length c1_7]) (t := 35) ?hr ?_; (case hd => rfl); (case hg => rfl); (case hr => first | (go_simp; done) | (go_simp; rfl)); intro gb270 hg w6 hbox hb; have n0_ := Aside0.mk (blk_below (bY BK269.out) hb); have n1_ := Aside0.mk (below_step (by repeat (first | (with_reducible first | exact HB.out | apply below_alloc | apply pw_below_drewN | apply below_drew1 | refine below_set ?_ GE269.out) | exact HB.out)) hb); have n2_ := Aside0.mk (hbox); have n3_ := Aside0.mk ((by rw [hg]; exact (below_size (by repeat (first | (with_reducible first | exact HB.out | apply below_alloc | apply pw_below_drewN | apply below_drew1 | refine below_set ?_ GE269.out) | exact HB.out))) : w.heap.size ≤ gb270)); have n4_ := Aside0.mk ((by rw [hg]; exact (below_size (by repeat (first | (with_reducible first | exact HB.out | apply below_alloc | apply pw_below_drewN | apply below_drew1 | refine below_set ?_ GE269.out) | exact HB.out))) : w.heap.size ≤ gb270)); have n5_ := Aside0.mk ((by rw [hg]; exact Nat.ne_of_lt (blk_lt (bY BK269.out)) : gb269 ≠ gb270)); have n6_ := Aside0.mk ((by rw [hg]; exact Nat.ne_of_gt (blk_lt (bY BK269.out)) : gb270 ≠ gb269)); clear BK269; clear HB; have BK269 := n0_; have HB := n1_; have BK270 := n2_; have GW270 := n3_; have GE270 := n4_; have NB269_270 := n5_; have NB270_269 := n6_; clear n0_ n1_ n2_ n3_ n4_ n5_ n6_; clear hb hbox hg) | ((with_reducible refine gate_dst (N := 4) rfl ?_); refine box_event ?hg (N := 4) ?hd (cs := #[.slice none 0 0, .slice none 0 0]) (t := 27) ?hr ?_; (case hd => rfl); (case hg => rfl); (case hr => first | (go_simp; done) | (go_simp; rfl)); intro gb271 hg w7 hbox hb; have n0_ := Aside0.mk (blk_below (bY BK269.out) hb); have n1_ := Aside0.mk (blk_below (bY BK270.out) hb); have n2_ := Aside0.mk (below_step (by repeat (first | (with_reducible first | exact HB.out | apply below_alloc | apply pw_below_drewN | apply below_drew1 | refine below_set ?_ GE269.out | refine below_set ?_ GE270.out) | exact HB.out)) hb); have n3_ := Aside0.mk (hbox); have n4_ := Aside0.mk ((by rw [hg]; exact (below_size (by repeat (first | (with_reducible first | exact HB.out | apply below_alloc | apply pw_below_drewN | apply below_drew1 | refine below_set ?_ GE269.out | refine below_set ?_ GE270.out) | exact HB.out))) : w.heap.size ≤ gb271)); have n5_ := Aside0.mk ((by rw [hg]; exact (below_size (by repeat (first | (with_reducible first | exact HB.out | apply below_alloc | apply pw_below_drewN | apply below_drew1 | refine below_set ?_ GE269.out | refine below_set ?_ GE270.out) | exact HB.out))) : w.heap.size ≤ gb271)); have n6_ := Aside0.mk ((by rw [hg]; exact Nat.ne_of_lt (blk_lt (bY BK269.out)) : gb269 ≠ gb271)); have n7_ := Aside0.mk ((by rw [hg]; exact Nat.ne_of_gt (blk_lt (bY BK269.out)) : gb271 ≠ gb269)); have n8_ := Aside0.mk ((by rw [hg]; exact Nat.ne_of_lt (blk_lt (bY BK270.out)) : gb270 ≠ gb271)); have n9_ := Aside0.mk ((by rw [hg]; exact Nat.ne_of_gt (blk_lt (bY BK270.out)) : gb271 ≠ gb270)); clear BK269; clear BK270; clear HB; have BK269 := n0_; have BK270 := n1_; have HB := n2_; have BK271 := n3_; have GW271 := n4_; have GE271 := n5_; have NB269_271 := n6_; have NB271_269 := n7_; have NB270_271 := n8_; have NB271_270 := n9_; clear n0_ n1_ n2_ n3_ n4_ n5_ n6_ n7_ n8_ n9_; clear hb hbox hg; have hnb8 := NB269_270.out; have hnc8 := NB270_269.out; have hnb9 := NB269_271.out; have hnc9 := NB271_269.out; have hcz10_0 : w7.cell? ⟨gb269, 0, none⟩ = some (.slice A0_0 l0_0.length c0_0) := (blk_cell BK269.out 0).trans rfl; have hcz10_1 : w7.cell? ⟨gb269, 1, none⟩ = some (.slice A0_1 l0_1.length c0_1) := (blk_cell BK269.out 1).trans rfl; have hfz10_0 := blk_frozen BK269.out 0; have hfz10_1 := blk_frozen BK269.out 1) | ((with_reducible refine gate_callee (f := 73) rfl ?_); refine goesL_ (some 9) rfl rfl Try.func73 (by kernel_rfl) rfl #[.agg #[.slice A0_0 l0_0.length c0_0, .slice A0_1 l0_1.length c0_1]] rfl (by (try simp only [List.map_toArray, List.map_cons, List.map_nil]); first | done | rfl) ?_; (with_reducible refine (impl_copyCredits.calls _ _ l0_0 _ _ l0_1 t272 t275 _ ?side1 ?side2 ?side3 ?side4 A3.out).mono ?_); (case side1 => exact cY ((Kd.C_below HR0_0.out HB.out))); (case side2 => exact HC0_0.out); (case side3 => exact cY ((Kd.C_below HR0_1.out HB.out))); (case side4 => exact HC0_1.out); rintro e w11 ⟨v273, v276, rfl, ho0, ho1, hb⟩; refine ⟨_, rfl, ?_⟩; have n0_ := Aside0.mk (Kd.R_lower ho0 (below_size (by repeat (first | (with_reducible first | exact HB.out | apply below_alloc | apply pw_below_drewN | apply below_drew1 | refine below_set ?_ GE269.out | refine below_set ?_ GE270.out | refine below_set ?_ GE271.out) | exact HB.out)))); have n1_ := Aside0.mk (Kd.R_lower ho1 (below_size (by repeat (first | (with_reducible first | exact HB.out | apply below_alloc | apply pw_below_drewN | apply below_drew1 | refine below_set ?_ GE269.out | refine below_set ?_ GE270.out | refine below_set ?_ GE271.out) | exact HB.out)))); have n2_ := Aside0.mk (blk_below (bY BK269.out) hb); have n3_ := Aside0.mk (blk_below (bY BK270.out) hb); have n4_ := Aside0.mk (blk_below (bY BK271.out) hb); have n5_ := Aside0.mk (below_step (by repeat (first | (with_reducible first | exact HB.out | apply below_alloc | apply pw_below_drewN | apply below_drew1 | refine below_set ?_ GE269.out | refine below_set ?_ GE270.out | refine below_set ?_ GE271.out) | exact HB.out)) hb); clear BK269; clear BK270; clear BK271; clear HB; have HO274 := n0_; have HO277 := n1_; have BK269 := n2_; have BK270 := n3_; have BK271 := n4_; have HB := n5_; clear n0_ n1_ n2_ n3_ n4_ n5_; (try clear hb); (try clear hb2); (try clear hk); (try clear hi); (try clear ho0); (try clear ho1)) | ((with_reducible refine gate_dst (N := 6) rfl ?_); refine box_event ?hg (N := 6) ?hd (cs := #[.slice none 0 0, .slice none 0 0]) (t := 27) ?hr ?_; (case hd => rfl); (case hg => rfl); (case hr => first | (go_simp; done) | (go_simp; rfl)); intro gb278 hg w12 hbox hb; have n0_ := Aside0.mk (Kd.R_below (rY HO274.out) hb); have n1_ := Aside0.mk (Kd.R_below (rY HO277.out) hb); have n2_ := Aside0.mk (blk_below (bY BK269.out) hb); have n3_ := Aside0.mk (blk_below (bY BK270.out) hb); have n4_ := Aside0.mk (blk_below (bY BK271.out) hb); have n5_ := Aside0.mk (below_step (by repeat (first | (with_reducible first | exact HB.out | apply below_alloc | apply pw_below_drewN | apply below_drew1 | refine below_set ?_ GE269.out | refine below_set ?_ GE270.out | refine below_set ?_ GE271.out) | exact HB.out)) hb); have n6_ := Aside0.mk (hbox); have n7_ := Aside0.mk ((by rw [hg]; exact (below_size (by repeat (first | (with_reducible first | exact HB.out | apply below_alloc | apply pw_below_drewN | apply below_drew1 | refine below_set ?_ GE269.out | refine below_set ?_ GE270.out | refine below_set ?_ GE271.out) | exact HB.out))) : w.heap.size ≤ gb278)); have n8_ := Aside0.mk ((by rw [hg]; exact (below_size (by repeat (first | (with_reducible first | exact HB.out | apply below_alloc | apply pw_below_drewN | apply below_drew1 | refine below_set ?_ GE269.out | refine below_set ?_ GE270.out | refine below_set ?_ GE271.out) | exact HB.out))) : w.heap.size ≤ gb278)); have n9_ := Aside0.mk ((by rw [hg]; exact Nat.ne_of_lt (blk_lt (bY BK269.out)) : gb269 ≠ gb278)); have n10_ := Aside0.mk ((by rw [hg]; exact Nat.ne_of_gt (blk_lt (bY BK269.out)) : gb278 ≠ gb269)); have n11_ := Aside0.mk ((by rw [hg]; exact Nat.ne_of_lt (blk_lt (bY BK270.out)) : gb270 ≠ gb278)); have n12_ := Aside0.mk ((by rw [hg]; exact Nat.ne_of_gt (blk_lt (bY BK270.out)) : gb278 ≠ gb270)); have n13_ := Aside0.mk ((by rw [hg]; exact Nat.ne_of_lt (blk_lt (bY BK271.out)) : gb271 ≠ gb278)); have n14_ := Aside0.mk ((by rw [hg]; exact Nat.ne_of_gt (blk_lt (bY BK271.out)) : gb278 ≠ gb271)); clear HO274; clear HO277; clear BK269; clear BK270; clear BK271; clear HB; have HO274 := n0_; have HO277 := n1_; have BK269 := n2_; have BK270 := n3_; have BK271 := n4_; have HB := n5_; have BK278 := n6_; have GW278 := n7_; have GE278 := n8_; have NB269_278 := n9_; have NB278_269 := n10_; have NB270_278 := n11_; have NB278_270 := n12_; have NB271_278 := n13_; have NB278_271 := n14_; clear n0_ n1_ n2_ n3_ n4_ n5_ n6_ n7_ n8_ n9_ n10_ n11_ n12_ n13_ n14_; clear hb hbox hg; obtain ⟨Ao13, co13, eo13⟩ := Kd.R_slice HO274.out; subst eo13; have hnb14 := NB278_269.out; have hnc14 := NB269_278.out; have hnb15 := NB278_270.out; have hnc15 := NB270_278.out; have hnb16 := NB278_271.out; have hnc16 := NB271_278.out; have hcz17_0 : w12.cell? ⟨gb278, 0, none⟩ = some (.slice none 0 0) := (blk_cell BK278.out 0).trans rfl; have hcz17_1 : w12.cell? ⟨gb278, 1, none⟩ = some (.slice none 0 0) := (blk_cell BK278.out 1).trans rfl; have hfz17_0 := blk_frozen BK278.out 0; have hfz17_1 := blk_frozen BK278.out 1; obtain ⟨Ao18, co18, eo18⟩ := Kd.R_slice HO277.out; subst eo18))
 (try simp only [Act.put, List.setIfInBounds_toArray, List.set_cons_zero, List.set_cons_succ])
 go_cut [17] (fun v17 wc => ∃ (kq : Nat) (x17_3 : Bool), v17 = .bool x17_3 ∧ Aside0 (impl_ReturnCredits.j0 kq x17_3 l0_0 l0_1 a1_0 a1_1 a1_2 a1_3 a1_4 a1_5 a1_6 l1_7 t272 t275 = some (r1, r2, r3)) ∧ Aside0 (kq ≤ k) ∧ Aside0 (Kd.R (Kd.int .i64) 3 wc w.heap.size (fun k_ => some k_ ≠ ((.slice Ao18 t275.length co18) : Value).ownBlock) (.slice Ao13 t272.length co13) t272) ∧ Aside0 (Kd.R (Kd.int .i64) 3 wc w.heap.size (fun k_ => some k_ ≠ ((.slice Ao13 t272.length co13) : Value).ownBlock) (.slice Ao18 t275.length co18) t275) ∧ Aside0 (wc.heap[gb269]? = some (.cells #[(.slice A0_0 l0_0.length c0_0), (.slice A0_1 l0_1.length c0_1)] 27 (0, 0))) ∧ Aside0 (wc.heap[gb270]? = some (.cells #[.int .i64 a1_0, .int .i64 a1_1, .int .i64 a1_2, .int .i64 a1_3, .int .i64 a1_4, .int .i64 a1_5, .int .i64 a1_6, (.slice A1_7 l1_7.length c1_7)] 35 (0, 0))) ∧ Aside0 (wc.heap[gb271]? = some (.cells #[(.slice none 0 0), (.slice none 0 0)] 27 (0, 0))) ∧ Aside0 (wc.heap[gb278]? = some (.cells #[(.slice Ao13 t272.length co13), (.slice Ao18 t275.length co18)] 27 (0, 0))) ∧ Aside0 (Below w.heap.size w wc))
 case first =>
  have H := HC4.out
  clear HC4
  replace H := Option.bind_eq_some_iff.mp H
  obtain ⟨t279, A190, H⟩ := H
  have A19 := Aside0.mk A190
  clear A190
  by_cases c20 : t279 = true
  rotate_left
  ·replace c20 := Bool.eq_false_iff.mpr c20
   subst c20
   have H1 : (impl_ReturnCredits.j0 k true l0_0 l0_1 a1_0 a1_1 a1_2 a1_3 a1_4 a1_5 a1_6 l1_7 t272 t275) = some (r1, r2, r3) := by rw [if_neg (show ¬ (false = true) by decide)] at H; exact H
   clear H
   have H := H1
   clear H1
   have H' := Aside0.mk H
   clear H
   have hnb31 := NB269_270.out
   have hnc31 := NB270_269.out
   have hnb32 := NB269_271.out
   have hnc32 := NB271_269.out
   have hnb33 := NB269_278.out
   have hnc33 := NB278_269.out
   obtain ⟨hcz34_0, hcz34_1, hfz34_0, hfz34_1⟩ := b2 BK269.out
   go_wp2_with (first | ((with_reducible refine gate_callee (f := 18) rfl ?_); refine goesL_ (some 11) rfl rfl Try.func18 (by kernel_rfl) rfl #[.agg #[.slice A0_0 l0_0.length c0_0, .slice A0_1 l0_1.length c0_1]] rfl (by (try simp only [List.map_toArray, List.map_cons, List.map_nil]); first | done | rfl) ?_; (with_reducible refine (impl_CreditsOk.calls k _ _ l0_0 _ _ l0_1 false _ ?side1 ?side2 ?side3 ?side4 A19.out).mono ?_); (case side1 => exact Kd.C_below HR0_0.out (by repeat (first | (with_reducible first | exact HB.out | apply below_alloc | apply pw_below_drewN | apply below_drew1 | refine below_set ?_ GE269.out | refine below_set ?_ GE270.out | refine below_set ?_ GE271.out | refine below_set ?_ GE278.out) | exact HB.out))); (case side2 => exact HC0_0.out); (case side3 => exact Kd.C_below HR0_1.out (by repeat (first | (with_reducible first | exact HB.out | apply below_alloc | apply pw_below_drewN | apply below_drew1 | refine below_set ?_ GE269.out | refine below_set ?_ GE270.out | refine below_set ?_ GE271.out | refine below_set ?_ GE278.out) | exact HB.out))); (case side4 => exact HC0_1.out); rintro e w35 ⟨rfl, hb⟩; refine ⟨_, rfl, ?_⟩; have n0_ := Aside0.mk (Kd.R_below (by (repeat apply rX); exact (Kd.R_mono (Kd.R_far (p := ⟨gb278, 1, none⟩) (Kd.R_far (p := ⟨gb278, 0, none⟩) (Kd.R_types HO274.out BK278.out (by decide)) (fun _ hk => hk.2) (.slice Ao13 t272.length co13)) (fun _ hk => hk.2) (.slice Ao18 t275.length co18)) (fun _ h_ => h_.1))) hb); have n1_ := Aside0.mk (Kd.R_below (by (repeat apply rX); exact (Kd.R_mono (Kd.R_far (p := ⟨gb278, 1, none⟩) (Kd.R_far (p := ⟨gb278, 0, none⟩) (Kd.R_types HO277.out BK278.out (by decide)) (fun _ hk => hk.2) (.slice Ao13 t272.length co13)) (fun _ hk => hk.2) (.slice Ao18 t275.length co18)) (fun _ h_ => h_.1))) hb); have n2_ := Aside0.mk (blk_below (g := gb269) (o := .cells #[.slice A0_0 l0_0.length c0_0, .slice A0_1 l0_1.length c0_1] 27 (0, 0)) (by (repeat apply bX); refine blk_far ?_ NB269_278.out _; (repeat apply bX); refine blk_far ?_ NB269_278.out _; (repeat apply bX); exact BK269.out) hb); have n3_ := Aside0.mk (blk_below (g := gb270) (o := .cells #[.int .i64 a1_0, .int .i64 a1_1, .int .i64 a1_2, .int .i64 a1_3, .int .i64 a1_4, .int .i64 a1_5, .int .i64 a1_6, .slice A1_7 l1_7.length c1_7] 35 (0, 0)) (by (repeat apply bX); refine blk_far ?_ NB270_278.out _; (repeat apply bX); refine blk_far ?_ NB270_278.out _; (repeat apply bX); exact BK270.out) hb); have n4_ := Aside0.mk (blk_below (g := gb271) (o := .cells #[.slice none 0 0, .slice none 0 0] 27 (0, 0)) (by (repeat apply bX); refine blk_far ?_ NB271_278.out _; (repeat apply bX); refine blk_far ?_ NB271_278.out _; (repeat apply bX); exact BK271.out) hb); have n5_ := Aside0.mk (blk_below (g := gb278) (o := .cells #[.slice Ao13 t272.length co13, .slice Ao18 t275.length co18] 27 (0, 0)) (by (repeat apply bX); refine blk_put (cs := #[.slice Ao13 t272.length co13, .slice none 0 0]) ?_ 1 _ rfl; (repeat apply bX); refine blk_put (cs := #[.slice none 0 0, .slice none 0 0]) ?_ 0 _ rfl; (repeat apply bX); exact BK278.out) hb); have n6_ := Aside0.mk (below_step (by repeat (first | (with_reducible first | exact HB.out | apply below_alloc | apply pw_below_drewN | apply below_drew1 | refine below_set ?_ GE269.out | refine below_set ?_ GE270.out | refine below_set ?_ GE271.out | refine below_set ?_ GE278.out) | exact HB.out)) hb); clear HO274; clear HO277; clear BK269; clear BK270; clear BK271; clear BK278; clear HB; have HO274 := n0_; have HO277 := n1_; have BK269 := n2_; have BK270 := n3_; have BK271 := n4_; have BK278 := n5_; have HB := n6_; clear n0_ n1_ n2_ n3_ n4_ n5_ n6_; (try clear hb); (try clear hb2); (try clear hk); (try clear hi)))
   go_meet
   case rel => exact ⟨_, (true), (by first | rfl | (simp; done) | (simp [*]; done)), H', ⟨by first | omega | exact Nat.le_refl _⟩, ⟨by (repeat apply rX); exact HO274.out⟩, ⟨by (repeat apply rX); exact HO277.out⟩, ⟨by (repeat apply bX); exact BK269.out⟩, ⟨by (repeat apply bX); exact BK270.out⟩, ⟨by (repeat apply bX); exact BK271.out⟩, ⟨by (repeat apply bX); exact BK278.out⟩, ⟨by repeat (first | (with_reducible first | exact HB.out | apply below_alloc | apply pw_below_drewN | apply below_drew1 | refine below_set ?_ GE269.out | refine below_set ?_ GE270.out | refine below_set ?_ GE271.out | refine below_set ?_ GE278.out) | exact HB.out)⟩⟩
  subst c20
  have H1 : ((impl_IsPacket.f k a1_0 a1_1 a1_2 a1_3 a1_4 a1_5 a1_6 l1_7).bind fun t280 => (impl_ReturnCredits.j0 k (!t280) l0_0 l0_1 a1_0 a1_1 a1_2 a1_3 a1_4 a1_5 a1_6 l1_7 t272 t275)) = some (r1, r2, r3) := by rw [if_pos rfl] at H; exact H
  clear H
  have H := H1
  clear H1
  replace H := Option.bind_eq_some_iff.mp H
  obtain ⟨t280, A210, H⟩ := H
  have A21 := Aside0.mk A210
  clear A210
  have H' := Aside0.mk H
  clear H
  have hnb22 := NB269_270.out
  have hnc22 := NB270_269.out
  have hnb23 := NB269_271.out
  have hnc23 := NB271_269.out
  have hnb24 := NB269_278.out
  have hnc24 := NB278_269.out
  obtain ⟨hcz25_0, hcz25_1, hfz25_0, hfz25_1⟩ := b2 BK269.out
  go_wp2_with (first | ((with_reducible refine gate_callee (f := 18) rfl ?_); refine goesL_ (some 11) rfl rfl Try.func18 (by kernel_rfl) rfl #[.agg #[.slice A0_0 l0_0.length c0_0, .slice A0_1 l0_1.length c0_1]] rfl (by (try simp only [List.map_toArray, List.map_cons, List.map_nil]); first | done | rfl) ?_; (with_reducible refine (impl_CreditsOk.calls k _ _ l0_0 _ _ l0_1 true _ ?side1 ?side2 ?side3 ?side4 A19.out).mono ?_); (case side1 => exact Kd.C_below HR0_0.out (by repeat (first | (with_reducible first | exact HB.out | apply below_alloc | apply pw_below_drewN | apply below_drew1 | refine below_set ?_ GE269.out | refine below_set ?_ GE270.out | refine below_set ?_ GE271.out | refine below_set ?_ GE278.out) | exact HB.out))); (case side2 => exact HC0_0.out); (case side3 => exact Kd.C_below HR0_1.out (by repeat (first | (with_reducible first | exact HB.out | apply below_alloc | apply pw_below_drewN | apply below_drew1 | refine below_set ?_ GE269.out | refine below_set ?_ GE270.out | refine below_set ?_ GE271.out | refine below_set ?_ GE278.out) | exact HB.out))); (case side4 => exact HC0_1.out); rintro e w26 ⟨rfl, hb⟩; refine ⟨_, rfl, ?_⟩; have n0_ := Aside0.mk (Kd.R_below (by (repeat apply rX); exact (Kd.R_mono (Kd.R_far (p := ⟨gb278, 1, none⟩) (Kd.R_far (p := ⟨gb278, 0, none⟩) (Kd.R_types HO274.out BK278.out (by decide)) (fun _ hk => hk.2) (.slice Ao13 t272.length co13)) (fun _ hk => hk.2) (.slice Ao18 t275.length co18)) (fun _ h_ => h_.1))) hb); have n1_ := Aside0.mk (Kd.R_below (by (repeat apply rX); exact (Kd.R_mono (Kd.R_far (p := ⟨gb278, 1, none⟩) (Kd.R_far (p := ⟨gb278, 0, none⟩) (Kd.R_types HO277.out BK278.out (by decide)) (fun _ hk => hk.2) (.slice Ao13 t272.length co13)) (fun _ hk => hk.2) (.slice Ao18 t275.length co18)) (fun _ h_ => h_.1))) hb); have n2_ := Aside0.mk (blk_below (g := gb269) (o := .cells #[.slice A0_0 l0_0.length c0_0, .slice A0_1 l0_1.length c0_1] 27 (0, 0)) (by (repeat apply bX); refine blk_far ?_ NB269_278.out _; (repeat apply bX); refine blk_far ?_ NB269_278.out _; (repeat apply bX); exact BK269.out) hb); have n3_ := Aside0.mk (blk_below (g := gb270) (o := .cells #[.int .i64 a1_0, .int .i64 a1_1, .int .i64 a1_2, .int .i64 a1_3, .int .i64 a1_4, .int .i64 a1_5, .int .i64 a1_6, .slice A1_7 l1_7.length c1_7] 35 (0, 0)) (by (repeat apply bX); refine blk_far ?_ NB270_278.out _; (repeat apply bX); refine blk_far ?_ NB270_278.out _; (repeat apply bX); exact BK270.out) hb); have n4_ := Aside0.mk (blk_below (g := gb271) (o := .cells #[.slice none 0 0, .slice none 0 0] 27 (0, 0)) (by (repeat apply bX); refine blk_far ?_ NB271_278.out _; (repeat apply bX); refine blk_far ?_ NB271_278.out _; (repeat apply bX); exact BK271.out) hb); have n5_ := Aside0.mk (blk_below (g := gb278) (o := .cells #[.slice Ao13 t272.length co13, .slice Ao18 t275.length co18] 27 (0, 0)) (by (repeat apply bX); refine blk_put (cs := #[.slice Ao13 t272.length co13, .slice none 0 0]) ?_ 1 _ rfl; (repeat apply bX); refine blk_put (cs := #[.slice none 0 0, .slice none 0 0]) ?_ 0 _ rfl; (repeat apply bX); exact BK278.out) hb); have n6_ := Aside0.mk (below_step (by repeat (first | (with_reducible first | exact HB.out | apply below_alloc | apply pw_below_drewN | apply below_drew1 | refine below_set ?_ GE269.out | refine below_set ?_ GE270.out | refine below_set ?_ GE271.out | refine below_set ?_ GE278.out) | exact HB.out)) hb); clear HO274; clear HO277; clear BK269; clear BK270; clear BK271; clear BK278; clear HB; have HO274 := n0_; have HO277 := n1_; have BK269 := n2_; have BK270 := n3_; have BK271 := n4_; have BK278 := n5_; have HB := n6_; clear n0_ n1_ n2_ n3_ n4_ n5_ n6_; (try clear hb); (try clear hb2); (try clear hk); (try clear hi); have hnb27 := NB270_271.out; have hnc27 := NB271_270.out; have hnb28 := NB270_278.out; have hnc28 := NB278_270.out; have hcz29_0 : w26.cell? ⟨gb270, 0, none⟩ = some (.int .i64 a1_0) := (blk_cell BK270.out 0).trans rfl; have hcz29_1 : w26.cell? ⟨gb270, 1, none⟩ = some (.int .i64 a1_1) := (blk_cell BK270.out 1).trans rfl; have hcz29_2 : w26.cell? ⟨gb270, 2, none⟩ = some (.int .i64 a1_2) := (blk_cell BK270.out 2).trans rfl; have hcz29_3 : w26.cell? ⟨gb270, 3, none⟩ = some (.int .i64 a1_3) := (blk_cell BK270.out 3).trans rfl; have hcz29_4 : w26.cell? ⟨gb270, 4, none⟩ = some (.int .i64 a1_4) := (blk_cell BK270.out 4).trans rfl; have hcz29_5 : w26.cell? ⟨gb270, 5, none⟩ = some (.int .i64 a1_5) := (blk_cell BK270.out 5).trans rfl; have hcz29_6 : w26.cell? ⟨gb270, 6, none⟩ = some (.int .i64 a1_6) := (blk_cell BK270.out 6).trans rfl; have hcz29_7 : w26.cell? ⟨gb270, 7, none⟩ = some (.slice A1_7 l1_7.length c1_7) := (blk_cell BK270.out 7).trans rfl; have hfz29_0 := blk_frozen BK270.out 0; have hfz29_1 := blk_frozen BK270.out 1; have hfz29_2 := blk_frozen BK270.out 2; have hfz29_3 := blk_frozen BK270.out 3; have hfz29_4 := blk_frozen BK270.out 4; have hfz29_5 := blk_frozen BK270.out 5; have hfz29_6 := blk_frozen BK270.out 6; have hfz29_7 := blk_frozen BK270.out 7) | (go_at_call 69; (with_reducible refine (impl_IsPacket.calls k a1_0 a1_1 a1_2 a1_3 a1_4 a1_5 a1_6 _ _ l1_7 t280 _ ?side1 ?side2 A21.out).mono ?_); (case side1 => exact cY ((Kd.C_below HR1_7.out HB.out))); (case side2 => exact HC1_7.out); rintro e w30 ⟨rfl, hb⟩; have n0_ := Aside0.mk (Kd.R_below (rY HO274.out) hb); have n1_ := Aside0.mk (Kd.R_below (rY HO277.out) hb); have n2_ := Aside0.mk (blk_below (bY BK269.out) hb); have n3_ := Aside0.mk (blk_below (bY BK270.out) hb); have n4_ := Aside0.mk (blk_below (bY BK271.out) hb); have n5_ := Aside0.mk (blk_below (bY BK278.out) hb); have n6_ := Aside0.mk (below_step (by repeat (first | (with_reducible first | exact HB.out | apply below_alloc | apply pw_below_drewN | apply below_drew1 | refine below_set ?_ GE269.out | refine below_set ?_ GE270.out | refine below_set ?_ GE271.out | refine below_set ?_ GE278.out) | exact HB.out)) hb); clear HO274; clear HO277; clear BK269; clear BK270; clear BK271; clear BK278; clear HB; have HO274 := n0_; have HO277 := n1_; have BK269 := n2_; have BK270 := n3_; have BK271 := n4_; have BK278 := n5_; have HB := n6_; clear n0_ n1_ n2_ n3_ n4_ n5_ n6_; (try clear hb); (try clear hb2); (try clear hk); (try clear hi)))
  go_meet
  case rel => exact ⟨_, (!t280), (by first | rfl | (simp; done) | (simp [*]; done)), H', ⟨by first | omega | exact Nat.le_refl _⟩, ⟨by (repeat apply rX); exact HO274.out⟩, ⟨by (repeat apply rX); exact HO277.out⟩, ⟨by (repeat apply bX); exact BK269.out⟩, ⟨by (repeat apply bX); exact BK270.out⟩, ⟨by (repeat apply bX); exact BK271.out⟩, ⟨by (repeat apply bX); exact BK278.out⟩, ⟨by repeat (first | (with_reducible first | exact HB.out | apply below_alloc | apply pw_below_drewN | apply below_drew1 | refine below_set ?_ GE269.out | refine below_set ?_ GE270.out | refine below_set ?_ GE271.out | refine below_set ?_ GE278.out) | exact HB.out)⟩⟩
 case rest =>
  clear HC4
  obtain ⟨kq, x17_3, rfl, HA, HJ3, HO_279000, HO_279001, BK269, BK270, BK271, BK278, HB⟩ := hcut
  cases kq with
  | zero => exact absurd HA.out (by simp [impl_ReturnCredits.j0])
  | succ kj3 =>
   have H := HA.out
   clear HA
   simp only [impl_ReturnCredits.j0] at H
   by_cases c36 : x17_3 = true
   ·subst c36
    have H1 : (some (t272, t275, false)) = some (r1, r2, r3) := by rw [if_pos rfl] at H; exact H
    clear H
    have H := H1
    clear H1
    simp only [Option.some.injEq, Prod.mk.injEq] at H
    obtain ⟨rfl, rfl, rfl⟩ := H
    have hnb37 := NB278_269.out
    have hnc37 := NB269_278.out
    have hnb38 := NB278_270.out
    have hnc38 := NB270_278.out
    have hnb39 := NB278_271.out
    have hnc39 := NB271_278.out
    obtain ⟨hcz40_0, hcz40_1, hfz40_0, hfz40_1⟩ := b2 BK278.out
    have hnb41 := NB271_269.out
    have hnc41 := NB269_271.out
    have hnb42 := NB271_270.out
    have hnc42 := NB270_271.out
    obtain ⟨hcz43_0, hcz43_1, hfz43_0, hfz43_1⟩ := b2 BK271.out
    go_wp2
    refine bodyPost_ret (results_ct rfl _ _ gb271 27 #[.slice Ao13 t272.length co13, .slice Ao18 t275.length co18] (0, 0) _ rfl (by (repeat apply bX); refine blk_put (cs := #[.slice Ao13 t272.length co13, .slice none 0 0]) ?_ 1 _ rfl; (repeat apply bX); refine blk_put (cs := #[.slice none 0 0, .slice none 0 0]) ?_ 0 _ rfl; (repeat apply bX); exact BK271.out) Try.underlying27 rfl (by kernel_rfl)) rfl ?_
    exact ⟨_, _, by first | rfl | (simp [errW_none, errW_some] <;> rfl) | (simp [*, errW_none, errW_some] <;> rfl), by (repeat apply rX); exact Kd.R_mono (Kd.R_far (p := ⟨gb271, 1, none⟩) (Kd.R_far (p := ⟨gb271, 0, none⟩) (Kd.R_types HO_279000.out BK271.out (by decide)) (fun _ hk => hk.2) (.slice Ao13 t272.length co13)) (fun _ hk => hk.2) (.slice Ao18 t275.length co18)) (fun _ hk => hk.1), by (repeat apply rX); exact Kd.R_mono (Kd.R_far (p := ⟨gb271, 1, none⟩) (Kd.R_far (p := ⟨gb271, 0, none⟩) (Kd.R_types HO_279001.out BK271.out (by decide)) (fun _ hk => hk.2) (.slice Ao13 t272.length co13)) (fun _ hk => hk.2) (.slice Ao18 t275.length co18)) (fun _ hk => hk.1), by repeat (first | (with_reducible first | exact HB.out | apply below_alloc | apply pw_below_drewN | apply below_drew1 | refine below_set ?_ GE269.out | refine below_set ?_ GE270.out | refine below_set ?_ GE271.out | refine below_set ?_ GE278.out) | exact HB.out)⟩
   replace c36 := Bool.eq_false_iff.mpr c36
   subst c36
   have H1 : ((impl_ClassOf.f kj3 a1_0 a1_1 a1_2 a1_3 a1_4 a1_5 a1_6 l1_7).bind fun t281 => (if 0 ≤ t281 then (if t281 < (t272.length : Int) then ((some (t272.set (t281 : Int).toNat (wrap64 ((rd t272 t281) + 1)) : List Int)).bind fun y283 => (if t281 < (t275.length : Int) then ((impl_PacketUnits.f kj3 a1_0 a1_1 a1_2 a1_3 a1_4 a1_5 a1_6 l1_7).bind fun t285 => ((some (t275.set (t281 : Int).toNat (wrap64 ((rd t275 t281) + t285)) : List Int)).bind fun y286 => ((impl_CreditsOk.f kj3 y283 y286).bind fun t287 => (if t287 = true then (some (y283, y286, true)) else ((impl_copyCredits.f l0_0 l0_1).bind fun bt288 => (some (bt288.1, bt288.2, false))))))) else (none))) else (none)) else (none))) = some (r1, r2, r3) := by rw [if_neg (show ¬ (false = true) by decide)] at H; exact H
   clear H
   have H := H1
   clear H1
   replace H := Option.bind_eq_some_iff.mp H
   obtain ⟨t281, A440, H⟩ := H
   have A44 := Aside0.mk A440
   clear A440
   by_cases c45 : 0 ≤ t281
   rotate_left
   ·rw [if_neg c45] at H
    exact absurd H (by simp)
   rw [if_pos c45] at H
   have c45b0 : decide (0 ≤ t281) = true := decide_eq_true c45
   clear c45
   by_cases c46 : t281 < (t272.length : Int)
   rotate_left
   ·rw [if_neg c46] at H
    exact absurd H (by simp)
   rw [if_pos c46] at H
   have c46b0 : decide (t281 < (t272.length : Int)) = true := decide_eq_true c46
   clear c46
   obtain ⟨y283, hy283⟩ : ∃ y_ : List Int, y_ = (t272.set (t281 : Int).toNat (wrap64 ((rd t272 t281) + 1))) := ⟨_, rfl⟩
   replace H : (if t281 < (t275.length : Int) then ((impl_PacketUnits.f kj3 a1_0 a1_1 a1_2 a1_3 a1_4 a1_5 a1_6 l1_7).bind fun t285 => ((some (t275.set (t281 : Int).toNat (wrap64 ((rd t275 t281) + t285)) : List Int)).bind fun y286 => ((impl_CreditsOk.f kj3 y283 y286).bind fun t287 => (if t287 = true then (some (y283, y286, true)) else ((impl_copyCredits.f l0_0 l0_1).bind fun bt288 => (some (bt288.1, bt288.2, false))))))) else (none)) = some (r1, r2, r3) := by first | (rw [hy283]; with_reducible exact H) | (have H2_ := (Option.bind_some _ _).symm.trans H; rw [hy283]; with_reducible exact H2_) | (have H2_ := (Option.bind_some _ _).symm.trans H; with_reducible exact H2_) | with_reducible exact H | (rw [hy283]; exact H) | exact H
   have Ny283 := Aside0.mk hy283
   clear hy283
   by_cases c48 : t281 < (t275.length : Int)
   rotate_left
   ·rw [if_neg c48] at H
    exact absurd H (by simp)
   rw [if_pos c48] at H
   have c48b0 : decide (t281 < (t275.length : Int)) = true := decide_eq_true c48
   clear c48
   replace H := Option.bind_eq_some_iff.mp H
   obtain ⟨t285, A490, H⟩ := H
   have A49 := Aside0.mk A490
   clear A490
   obtain ⟨y286, hy286⟩ : ∃ y_ : List Int, y_ = (t275.set (t281 : Int).toNat (wrap64 ((rd t275 t281) + t285))) := ⟨_, rfl⟩
   replace H : ((impl_CreditsOk.f kj3 y283 y286).bind fun t287 => (if t287 = true then (some (y283, y286, true)) else ((impl_copyCredits.f l0_0 l0_1).bind fun bt288 => (some (bt288.1, bt288.2, false))))) = some (r1, r2, r3) := by first | (rw [hy286]; with_reducible exact H) | (have H2_ := (Option.bind_some _ _).symm.trans H; rw [hy286]; with_reducible exact H2_) | (have H2_ := (Option.bind_some _ _).symm.trans H; with_reducible exact H2_) | with_reducible exact H | (rw [hy286]; exact H) | exact H
   have Ny286 := Aside0.mk hy286
   clear hy286
   replace H := Option.bind_eq_some_iff.mp H
   obtain ⟨t287, A510, H⟩ := H
   have A51 := Aside0.mk A510
   clear A510
   by_cases c52 : t287 = true
   ·subst c52
    have H1 : (some (y283, y286, true)) = some (r1, r2, r3) := by rw [if_pos rfl] at H; exact H
    clear H
    have H := H1
    clear H1
    simp only [Option.some.injEq, Prod.mk.injEq] at H
    obtain ⟨rfl, rfl, rfl⟩ := H
    have hnb53 := NB270_269.out
    have hnc53 := NB269_270.out
    have hnb54 := NB270_271.out
    have hnc54 := NB271_270.out
    have hnb55 := NB270_278.out
    have hnc55 := NB278_270.out
    obtain ⟨hcz56_0, hcz56_1, hcz56_2, hcz56_3, hcz56_4, hcz56_5, hcz56_6, hcz56_7, hfz56_0, hfz56_1, hfz56_2, hfz56_3, hfz56_4, hfz56_5, hfz56_6, hfz56_7⟩ := b8 BK270.out
    try go_wp2_with (first | ((with_reducible refine gate_callee (f := 68) rfl ?_); refine goesL_ (some 20) rfl rfl Try.func68 (by kernel_rfl) rfl #[.agg #[.int .i64 a1_0, .int .i64 a1_1, .int .i64 a1_2, .int .i64 a1_3, .int .i64 a1_4, .int .i64 a1_5, .int .i64 a1_6, .slice A1_7 l1_7.length c1_7]] rfl (by (try simp only [List.map_toArray, List.map_cons, List.map_nil]); first | done | rfl) ?_; (with_reducible refine (impl_ClassOf.calls kj3 a1_0 a1_1 a1_2 a1_3 a1_4 a1_5 a1_6 _ _ l1_7 t281 _ ?side1 ?side2 A44.out).mono ?_); (case side1 => exact cY ((Kd.C_below HR1_7.out HB.out))); (case side2 => exact HC1_7.out); rintro e w57 ⟨rfl, hb⟩; refine ⟨_, rfl, ?_⟩; have n0_ := Aside0.mk (Kd.R_below (rY HO_279000.out) hb); have n1_ := Aside0.mk (Kd.R_below (rY HO_279001.out) hb); have n2_ := Aside0.mk (blk_below (bY BK269.out) hb); have n3_ := Aside0.mk (blk_below (bY BK270.out) hb); have n4_ := Aside0.mk (blk_below (bY BK271.out) hb); have n5_ := Aside0.mk (blk_below (bY BK278.out) hb); have n6_ := Aside0.mk (below_step (by repeat (first | (with_reducible first | exact HB.out | apply below_alloc | apply pw_below_drewN | apply below_drew1 | refine below_set ?_ GE269.out | refine below_set ?_ GE270.out | refine below_set ?_ GE271.out | refine below_set ?_ GE278.out) | exact HB.out)) hb); clear HO_279000; clear HO_279001; clear BK269; clear BK270; clear BK271; clear BK278; clear HB; have HO_279000 := n0_; have HO_279001 := n1_; have BK269 := n2_; have BK270 := n3_; have BK271 := n4_; have BK278 := n5_; have HB := n6_; clear n0_ n1_ n2_ n3_ n4_ n5_ n6_; (try clear hb); (try clear hb2); (try clear hk); (try clear hi); have hnb58 := NB278_269.out; have hnc58 := NB269_278.out; have hnb59 := NB278_271.out; have hnc59 := NB271_278.out; have hcz60_0 : w57.cell? ⟨gb278, 0, none⟩ = some (.slice Ao13 t272.length co13) := (blk_cell BK278.out 0).trans rfl; have hcz60_1 : w57.cell? ⟨gb278, 1, none⟩ = some (.slice Ao18 t275.length co18) := (blk_cell BK278.out 1).trans rfl; have hfz60_0 := blk_frozen BK278.out 0; have hfz60_1 := blk_frozen BK278.out 1; have p282 : 0 ≤ (t281 : Int) := of_decide_eq_true (by first | (with_reducible assumption) | assumption); have q282 : t281 < (t272.length : Int) := of_decide_eq_true (by first | (with_reducible assumption) | assumption); obtain ⟨ad282, e282, hx282_0⟩ := Kd.at_int (Kd.R_reads' HO_279000.out).2.2 t281 p282 q282; cases e282; replace p282 := eq_true p282; replace q282 := eq_true q282; have p47 : 0 ≤ (t281 : Int) := of_decide_eq_true (by first | (with_reducible assumption) | assumption); have q47 : (t281 : Int) < ((t272.length : Int) : Int) := of_decide_eq_true (by first | (with_reducible assumption) | assumption); obtain ⟨go47, co47, eo47, gb47, gl47, cl47, HG47⟩ := Kd.R_form HO_279000.out (by omega); (first | cases eo47 | (injection eo47 with ea_ en_ ec_; (first | subst ea_ | (injection ea_ with ea_; subst ea_)); subst ec_; clear en_)); have GB47 := Aside0.mk gb47; have GG47 := Aside0.mk HG47; clear gb47 gl47 HG47; (first | simp only [add_plain] at hx282_0 | skip); obtain ⟨hx47_0, hf47_0⟩ := Kd.R_celln 0 HO_279000.out (t281 : Int) p47 q47; replace p47 := eq_true p47; replace q47 := eq_true q47; obtain ⟨hy61_, hz61_⟩ := Kd.R_celln 0 HO_279000.out (t281 : Int) (of_decide_eq_true (by first | (with_reducible assumption) | assumption)) (of_decide_eq_true (by first | (with_reducible assumption) | assumption)); have HP61 := Kd.R_putg HO_279000.out (t281 : Int) (wrap64 ((rd t272 t281) + 1))) | ((with_reducible refine gate_store (t := 3) (p := 27) rfl ?_); refine store_event (t := 3) (p := 27) (v := ?vo_w62) (w1 := (w57.setCell ⟨go47, (t281 : Int).toNat, none⟩ (.int .i64 (wrap64 ((rd t272 t281) + 1))))) ?hg ?ho ?hn ?hr ?_; (case ho => rfl); (case hg => rfl); (case hn => rfl); (case hr => first | (go_simp; done) | (go_simp; rfl)); intro w62 hw; have hg : w57.grownBy w62 (some go47) := (by rw [hw]; exact HP61.2); have hp_ : Kd.R (Kd.int .i64) 3 w62 w.heap.size (fun k_ => some k_ ≠ (.slice Ao18 t275.length co18 : Value).ownBlock) (.slice (some ⟨go47, 0, none⟩) t272.length co13) y283 := (by rw [hw, Ny283.out]; exact HP61.1); clear HP61; have n0_ := Aside0.mk (hp_); have n1_ := Aside0.mk (Kd.R_after (v := (.slice (some ⟨go47, 0, none⟩) t272.length co13)) (v1 := (.slice (some ⟨go47, 0, none⟩) t272.length co13)) (ok := (fun _ => True)) (by (repeat apply rX); exact Kd.R_mono HO_279001.out (fun _ hk => ⟨trivial, hk⟩)) hg (.inl rfl)); have n2_ := Aside0.mk (blk_grown (g := gb269) (o := .cells #[.slice A0_0 l0_0.length c0_0, .slice A0_1 l0_1.length c0_1] 27 (0, 0)) (bY BK269.out) hg (Kd.R_ne HO_279000.out BK269.out (by decide))); have n3_ := Aside0.mk (blk_grown (g := gb270) (o := .cells #[.int .i64 a1_0, .int .i64 a1_1, .int .i64 a1_2, .int .i64 a1_3, .int .i64 a1_4, .int .i64 a1_5, .int .i64 a1_6, .slice A1_7 l1_7.length c1_7] 35 (0, 0)) (bY BK270.out) hg (Kd.R_ne HO_279000.out BK270.out (by decide))); have n4_ := Aside0.mk (blk_grown (g := gb271) (o := .cells #[.slice none 0 0, .slice none 0 0] 27 (0, 0)) (bY BK271.out) hg (Kd.R_ne HO_279000.out BK271.out (by decide))); have n5_ := Aside0.mk (blk_grown (g := gb278) (o := .cells #[.slice (some ⟨go47, 0, none⟩) t272.length co13, .slice Ao18 t275.length co18] 27 (0, 0)) (bY BK278.out) hg (Kd.R_ne HO_279000.out BK278.out (by decide))); have n6_ := Aside0.mk ((by rw [hw]; exact below_set (HB.out) GB47.out : Below w.heap.size w w62)); clear HO_279000; clear HO_279001; clear BK269; clear BK270; clear BK271; clear BK278; clear HB; have HO_279000 := n0_; have HO_279001 := n1_; have BK269 := n2_; have BK270 := n3_; have BK271 := n4_; have BK278 := n5_; have HB := n6_; clear n0_ n1_ n2_ n3_ n4_ n5_ n6_; clear hg hw hp_))
    have n0_ := Aside0.mk (Kd.R_drew HO_279000.out)
    have n1_ := Aside0.mk (Kd.R_drew HO_279001.out)
    have n2_ := Aside0.mk (blk_drew BK269.out)
    have n3_ := Aside0.mk (blk_drew BK270.out)
    have n4_ := Aside0.mk (blk_drew BK271.out)
    have n5_ := Aside0.mk (blk_drew BK278.out)
    have n6_ := Aside0.mk (below_drew1 HB.out)
    clear HO_279000
    clear HO_279001
    clear BK269
    clear BK270
    clear BK271
    clear BK278
    clear HB
    have HO_279000 := n0_
    have HO_279001 := n1_
    have BK269 := n2_
    have BK270 := n3_
    have BK271 := n4_
    have BK278 := n5_
    have HB := n6_
    clear n0_ n1_ n2_ n3_ n4_ n5_ n6_
    have p284 : 0 ≤ (t281 : Int) := of_decide_eq_true (by first | (with_reducible assumption) | assumption)
    have q284 : t281 < (t275.length : Int) := of_decide_eq_true (by first | (with_reducible assumption) | assumption)
    obtain ⟨ad284, e284, hx284_0⟩ := Kd.at_int (Kd.R_reads' HO_279001.out).2.2 t281 p284 q284
    cases e284
    replace p284 := eq_true p284
    replace q284 := eq_true q284
    refine start_ (n := 10) (S := fun w' => w'.cell? ⟨gb278, 0, none⟩ = some (.slice (some ⟨go47, 0, none⟩) t272.length co13) ∧ w'.cell? ⟨gb278, 1, none⟩ = some (.slice (some ad284) t275.length co18) ∧ w'.cell? ⟨gb270, 0, none⟩ = some (.int .i64 a1_0) ∧ w'.cell? ⟨gb270, 1, none⟩ = some (.int .i64 a1_1) ∧ w'.cell? ⟨gb270, 2, none⟩ = some (.int .i64 a1_2) ∧ w'.cell? ⟨gb270, 3, none⟩ = some (.int .i64 a1_3) ∧ w'.cell? ⟨gb270, 4, none⟩ = some (.int .i64 a1_4) ∧ w'.cell? ⟨gb270, 5, none⟩ = some (.int .i64 a1_5) ∧ w'.cell? ⟨gb270, 6, none⟩ = some (.int .i64 a1_6) ∧ w'.cell? ⟨gb270, 7, none⟩ = some (.slice A1_7 l1_7.length c1_7) ∧ w'.cell? (ad284.add (t281).toNat) = some (.int .i64 (rd t275 t281))) (ds := [9]) #[F, F, F, F, F, F, F, F, F, F] (by kernel_rfl) rfl rfl ⟨(blk_cell BK278.out 0).trans rfl, (blk_cell BK278.out 1).trans rfl, (blk_cell BK270.out 0).trans rfl, (blk_cell BK270.out 1).trans rfl, (blk_cell BK270.out 2).trans rfl, (blk_cell BK270.out 3).trans rfl, (blk_cell BK270.out 4).trans rfl, (blk_cell BK270.out 5).trans rfl, (blk_cell BK270.out 6).trans rfl, (blk_cell BK270.out 7).trans rfl, hx284_0⟩ (fun hHeld => ?_); refine with_tabW impl_ReturnCredits.tab6 impl_ReturnCredits.bits6 (fun HT_ HW_ => ?_)
    generalize w62.drew = w63 at HO_279000 HO_279001 BK269 BK270 BK271 BK278 HB hx284_0 hHeld ⊢
    refine pure_ (i := 0) (N := some 28) (v := ?_) (a' := ?_) #[T, F, F, F, F, F, F, F, F, F] rfl rfl (any_of HT_.out (by kernel_rfl)) (fun _ _ _ h => h) (Or.inl ⟨by rfl, ?_⟩) ?_ ?_
    rotate_left
    ·intro w'
     go_simp
     with_reducible rfl
    rotate_left
    ·simp only [pS]
     rfl
    refine pure_ (i := 2) (N := some 30) (v := ?_) (a' := ?_) #[T, F, T, F, F, F, F, F, F, F] rfl rfl (any_of HT_.out (by kernel_rfl)) (fun _ _ _ h => h) (Or.inl ⟨by rfl, ?_⟩) ?_ ?_
    rotate_left
    ·intro w'
     go_simp
     with_reducible rfl
    rotate_left
    ·simp only [pS]
     rfl
    refine take_ (i := 1) (N := some 29) (v := ?_) (a' := ?_) #[T, T, T, F, F, F, F, F, F, F] rfl rfl (take_ofW HT_.out HW_.out (by kernel_rfl)) (fun _ _ _ h => h) (Or.inl ⟨by rfl, ?_⟩) hHeld ?_ ?_
    rotate_left
    ·rintro w' ⟨s0, s1, s2, s3, s4, s5, s6, s7, s8, s9, s10⟩
     go_simp
     with_reducible rfl
    rotate_left
    ·simp only [pS]
     rfl
    refine pure_ (i := 3) (N := some 31) (v := ?_) (a' := ?_) #[T, T, T, T, F, F, F, F, F, F] rfl rfl (any_of HT_.out (by kernel_rfl)) (fun _ _ _ h => h) (Or.inl ⟨by rfl, ?_⟩) ?_ ?_
    rotate_left
    ·intro w'
     go_simp
     with_reducible rfl
    rotate_left
    ·simp only [pS]
     rfl
    refine take_ (i := 4) (N := some 32) (v := ?_) (a' := ?_) #[T, T, T, T, T, F, F, F, F, F] rfl rfl (take_ofW HT_.out HW_.out (by kernel_rfl)) (fun _ _ _ h => h) (Or.inl ⟨by rfl, ?_⟩) hHeld ?_ ?_
    rotate_left
    ·rintro w' ⟨s0, s1, s2, s3, s4, s5, s6, s7, s8, s9, s10⟩
     go_simp
     with_reducible rfl
    rotate_left
    ·simp only [pS]
     rfl
    refine take_ (i := 5) (N := some 33) (v := ?_) (a' := ?_) #[T, T, T, T, T, T, F, F, F, F] rfl rfl (take_ofW HT_.out HW_.out (by kernel_rfl)) (fun _ _ _ h => h) (Or.inl ⟨by rfl, ?_⟩) hHeld ?_ ?_
    rotate_left
    ·rintro w' ⟨s0, s1, s2, s3, s4, s5, s6, s7, s8, s9, s10⟩
     go_simp
     with_reducible rfl
    rotate_left
    ·simp only [pS]
     rfl
    refine one_ (i := 6) (N := some 34) #[T, T, T, T, T, T, T, F, F, F] rfl rfl (one_of HT_.out (by kernel_rfl)) (by decide) (fun K hK => ?_)
    refine goes_ Try.func71 (by kernel_rfl) rfl #[.agg #[.int .i64 a1_0, .int .i64 a1_1, .int .i64 a1_2, .int .i64 a1_3, .int .i64 a1_4, .int .i64 a1_5, .int .i64 a1_6, .slice A1_7 l1_7.length c1_7]] (by rfl) rfl rfl (by (try simp only [List.map_toArray, List.map_cons, List.map_nil]); first | done | rfl) ?_
    with_reducible refine (impl_PacketUnits.calls kj3 a1_0 a1_1 a1_2 a1_3 a1_4 a1_5 a1_6 _ _ l1_7 t285 _ ?side1 ?side2 A49.out).mono ?_
    (case side1 => exact cY ((Kd.C_below HR1_7.out HB.out)))
    (case side2 => exact HC1_7.out)
    rintro e w64 ⟨rfl, hb⟩
    have HS10_ := (hb.cell (World.block_lt_of_cell? _ _ (hHeld.2.2.2.2.2.2.2.2.2.2))).trans (hHeld.2.2.2.2.2.2.2.2.2.2)
    refine ⟨_, rfl, ?_⟩
    have n0_ := Aside0.mk (Kd.R_below (rY HO_279000.out) hb)
    have n1_ := Aside0.mk (Kd.R_below (rY HO_279001.out) hb)
    have n2_ := Aside0.mk (blk_below (bY BK269.out) hb)
    have n3_ := Aside0.mk (blk_below (bY BK270.out) hb)
    have n4_ := Aside0.mk (blk_below (bY BK271.out) hb)
    have n5_ := Aside0.mk (blk_below (bY BK278.out) hb)
    have n6_ := Aside0.mk (below_step (by repeat (first | (with_reducible first | exact HB.out | apply below_alloc | apply pw_below_drewN | apply below_drew1 | refine below_set ?_ GE269.out | refine below_set ?_ GE270.out | refine below_set ?_ GE271.out | refine below_set ?_ GE278.out) | exact HB.out)) hb)
    clear HO_279000
    clear HO_279001
    clear BK269
    clear BK270
    clear BK271
    clear BK278
    clear HB
    have HO_279000 := n0_
    have HO_279001 := n1_
    have BK269 := n2_
    have BK270 := n3_
    have BK271 := n4_
    have BK278 := n5_
    have HB := n6_
    clear n0_ n1_ n2_ n3_ n4_ n5_ n6_
    have p50 : 0 ≤ (t281 : Int) := of_decide_eq_true (by first | (with_reducible assumption) | assumption)
    have q50 : (t281 : Int) < ((t275.length : Int) : Int) := of_decide_eq_true (by first | (with_reducible assumption) | assumption)
    obtain ⟨go50, co50, eo50, gb50, gl50, cl50, HG50⟩ := Kd.R_form HO_279001.out (by omega)
    (first | cases eo50 | (injection eo50 with ea_ en_ ec_; (first | subst ea_ | (injection ea_ with ea_; subst ea_)); subst ec_; clear en_))
    have GB50 := Aside0.mk gb50
    have GG50 := Aside0.mk HG50
    clear gb50 gl50 HG50
    (first | simp only [add_plain] at hx284_0 | skip)
    obtain ⟨hx50_0, hf50_0⟩ := Kd.R_celln 0 HO_279001.out (t281 : Int) p50 q50
    replace p50 := eq_true p50
    replace q50 := eq_true q50
    have HP65 := Kd.R_putn HO_279001.out (t281 : Int) (wrap64 ((rd t275 t281) + t285))
    rw [← Ny286.out] at HP65
    have HQ65 := Aside0.mk HP65
    clear HP65
    refine hK.out _ _ ⟨(blk_cell BK278.out 0).trans rfl, (blk_cell BK278.out 1).trans rfl, (blk_cell BK270.out 0).trans rfl, (blk_cell BK270.out 1).trans rfl, (blk_cell BK270.out 2).trans rfl, (blk_cell BK270.out 3).trans rfl, (blk_cell BK270.out 4).trans rfl, (blk_cell BK270.out 5).trans rfl, (blk_cell BK270.out 6).trans rfl, (blk_cell BK270.out 7).trans rfl, HS10_⟩ (fun hHeld => ?_)
    clear hK K
    refine norm_ (a' := ?_) ?_ ?_
    rotate_left
    ·show Act.put _ (some 34) _ = _
     simp only [pS]
     rfl
    refine pure_ (i := 7) (N := some 35) (v := ?_) (a' := ?_) #[T, T, T, T, T, T, T, T, F, F] rfl rfl (any_of HT_.out (by kernel_rfl)) (fun _ _ _ h => h) (Or.inl ⟨by rfl, ?_⟩) ?_ ?_
    rotate_left
    ·intro w'
     go_simp
     with_reducible rfl
    rotate_left
    ·simp only [pS]
     rfl
    refine pure_ (i := 8) (N := some 36) (v := ?_) (a' := ?_) #[T, T, T, T, T, T, T, T, T, F] rfl rfl (any_of HT_.out (by kernel_rfl)) (fun _ _ _ h => h) (Or.inl ⟨by rfl, ?_⟩) ?_ ?_
    rotate_left
    ·intro w'
     go_simp
     with_reducible rfl
    rotate_left
    ·simp only [pS]
     rfl
    refine last_ (i := 9) (N := none) #[T, T, T, T, T, T, T, T, T, T] rfl rfl (one_of HT_.out (by kernel_rfl)) (by decide) (fun K hK => ?_)
    refine skip_ (w1 := ?_) (by rfl) rfl ?_ ?_
    rotate_left
    ·go_simp
     rfl
    refine hK.out _ _ ?_
    clear hK K
    refine done_ (done_of HT_.out (by kernel_rfl)) ?_
    have n0_ : Aside0 (Kd.R (Kd.int .i64) 3 (w64.setCell ⟨go50, (t281 : Int).toNat, none⟩ (.int .i64 (wrap64 ((rd t275 t281) + t285)))) w.heap.size (fun k_ => some k_ ≠ (.slice (some ⟨go50, 0, none⟩) t275.length co18 : Value).ownBlock) (.slice (some ⟨go47, 0, none⟩) t272.length co13) y283) := ⟨by (repeat apply rX); exact Kd.R_mono (Kd.R_far (p := ⟨go50, (t281 : Int).toNat, none⟩) (Kd.R_mono HO_279000.out (fun k_ hk => (⟨hk, fun e_ => hk (by rw [e_]; rfl)⟩ : _ ∧ k_ ≠ go50))) (fun _ hk => hk.2) (.int .i64 (wrap64 ((rd t275 t281) + t285)))) (fun _ hk => hk.1)⟩
    have n1_ : Aside0 (Kd.R (Kd.int .i64) 3 (w64.setCell ⟨go50, (t281 : Int).toNat, none⟩ (.int .i64 (wrap64 ((rd t275 t281) + t285)))) w.heap.size (fun k_ => some k_ ≠ (.slice (some ⟨go47, 0, none⟩) t272.length co13 : Value).ownBlock) (.slice (some ⟨go50, 0, none⟩) t275.length co18) y286) := ⟨by (repeat apply rX); exact Kd.R_mono HQ65.out (fun _ hk => hk.2)⟩
    have n2_ : Aside0 ((w64.setCell ⟨go50, (t281 : Int).toNat, none⟩ (.int .i64 (wrap64 ((rd t275 t281) + t285)))).heap[gb269]? = some (.cells #[.slice A0_0 l0_0.length c0_0, .slice A0_1 l0_1.length c0_1] 27 (0, 0))) := ⟨by (repeat apply bX); refine blk_far ?_ (by have h_ := Kd.R_ne HO_279001.out BK269.out (by decide); intro e_; exact h_ (by rw [e_]; rfl)) _; (repeat apply bX); exact BK269.out⟩
    have n3_ : Aside0 ((w64.setCell ⟨go50, (t281 : Int).toNat, none⟩ (.int .i64 (wrap64 ((rd t275 t281) + t285)))).heap[gb270]? = some (.cells #[.int .i64 a1_0, .int .i64 a1_1, .int .i64 a1_2, .int .i64 a1_3, .int .i64 a1_4, .int .i64 a1_5, .int .i64 a1_6, .slice A1_7 l1_7.length c1_7] 35 (0, 0))) := ⟨by (repeat apply bX); refine blk_far ?_ (by have h_ := Kd.R_ne HO_279001.out BK270.out (by decide); intro e_; exact h_ (by rw [e_]; rfl)) _; (repeat apply bX); exact BK270.out⟩
    have n4_ : Aside0 ((w64.setCell ⟨go50, (t281 : Int).toNat, none⟩ (.int .i64 (wrap64 ((rd t275 t281) + t285)))).heap[gb271]? = some (.cells #[.slice none 0 0, .slice none 0 0] 27 (0, 0))) := ⟨by (repeat apply bX); refine blk_far ?_ (by have h_ := Kd.R_ne HO_279001.out BK271.out (by decide); intro e_; exact h_ (by rw [e_]; rfl)) _; (repeat apply bX); exact BK271.out⟩
    have n5_ : Aside0 ((w64.setCell ⟨go50, (t281 : Int).toNat, none⟩ (.int .i64 (wrap64 ((rd t275 t281) + t285)))).heap[gb278]? = some (.cells #[.slice (some ⟨go47, 0, none⟩) t272.length co13, .slice (some ⟨go50, 0, none⟩) t275.length co18] 27 (0, 0))) := ⟨by (repeat apply bX); refine blk_far ?_ (by have h_ := Kd.R_ne HO_279001.out BK278.out (by decide); intro e_; exact h_ (by rw [e_]; rfl)) _; (repeat apply bX); exact BK278.out⟩
    have n6_ : Aside0 (Below w.heap.size w (w64.setCell ⟨go50, (t281 : Int).toNat, none⟩ (.int .i64 (wrap64 ((rd t275 t281) + t285))))) := ⟨by repeat (first | (with_reducible first | exact HB.out | apply below_alloc | apply pw_below_drewN | apply below_drew1 | refine below_set ?_ GB50.out | refine below_set ?_ GE269.out | refine below_set ?_ GE270.out | refine below_set ?_ GE271.out | refine below_set ?_ GE278.out) | exact HB.out)⟩
    generalize (w64.setCell ⟨go50, (t281 : Int).toNat, none⟩ (.int .i64 (wrap64 ((rd t275 t281) + t285)))) = w66 at n0_ n1_ n2_ n3_ n4_ n5_ n6_ ⊢
    have HO_279000 := n0_
    have HO_279001 := n1_
    have BK269 := n2_
    have BK270 := n3_
    have BK271 := n4_
    have BK278 := n5_
    have HB := n6_
    clear n0_ n1_ n2_ n3_ n4_ n5_ n6_
    obtain ⟨hcz67_0, hcz67_1, hfz67_0, hfz67_1⟩ := b2 BK278.out
    try go_wp2_with (first | ((with_reducible refine gate_callee (f := 18) rfl ?_); refine goesL_ (some 38) rfl rfl Try.func18 (by kernel_rfl) rfl #[.agg #[.slice (some ⟨go47, 0, none⟩) y283.length co13, .slice (some ⟨go50, 0, none⟩) y286.length co18]] rfl (by (try simp only [List.map_toArray, List.map_cons, List.map_nil]); first | done | (rw [show y283.length = t272.length from (Kd.R_reads' HO_279000.out).1.symm, show y286.length = t275.length from (Kd.R_reads' HO_279001.out).1.symm] <;> rfl) | rfl | (simp only [List.length_drop, List.length_take]; rfl)) ?_; (with_reducible refine (impl_CreditsOk.calls kj3 _ _ y283 _ _ y286 true _ ?side1 ?side2 ?side3 ?side4 A51.out).mono ?_); (case side1 => exact cY ((Kd.R_reads' HO_279000.out).2.2)); (case side2 => rw [show y283.length = t272.length from (Kd.R_reads' HO_279000.out).1.symm]; exact (Kd.R_reads' HO_279000.out).2.1); (case side3 => exact cY ((Kd.R_reads' HO_279001.out).2.2)); (case side4 => rw [show y286.length = t275.length from (Kd.R_reads' HO_279001.out).1.symm]; exact (Kd.R_reads' HO_279001.out).2.1); rintro e w68 ⟨rfl, hb⟩; refine ⟨_, rfl, ?_⟩; have n0_ := Aside0.mk (Kd.R_below (rY HO_279000.out) hb); have n1_ := Aside0.mk (Kd.R_below (rY HO_279001.out) hb); have n2_ := Aside0.mk (blk_below (bY BK269.out) hb); have n3_ := Aside0.mk (blk_below (bY BK270.out) hb); have n4_ := Aside0.mk (blk_below (bY BK271.out) hb); have n5_ := Aside0.mk (blk_below (bY BK278.out) hb); have n6_ := Aside0.mk (below_step (by repeat (first | (with_reducible first | exact HB.out | apply below_alloc | apply pw_below_drewN | apply below_drew1 | refine below_set ?_ GE269.out | refine below_set ?_ GE270.out | refine below_set ?_ GE271.out | refine below_set ?_ GE278.out) | exact HB.out)) hb); clear HO_279000; clear HO_279001; clear BK269; clear BK270; clear BK271; clear BK278; clear HB; have HO_279000 := n0_; have HO_279001 := n1_; have BK269 := n2_; have BK270 := n3_; have BK271 := n4_; have BK278 := n5_; have HB := n6_; clear n0_ n1_ n2_ n3_ n4_ n5_ n6_; (try clear hb); (try clear hb2); (try clear hk); (try clear hi); have hcz69_0 : w68.cell? ⟨gb278, 0, none⟩ = some (.slice (some ⟨go47, 0, none⟩) t272.length co13) := (blk_cell BK278.out 0).trans rfl; have hcz69_1 : w68.cell? ⟨gb278, 1, none⟩ = some (.slice (some ⟨go50, 0, none⟩) t275.length co18) := (blk_cell BK278.out 1).trans rfl; have hfz69_0 := blk_frozen BK278.out 0; have hfz69_1 := blk_frozen BK278.out 1; have hnb70 := NB271_269.out; have hnc70 := NB269_271.out; have hcz71_0 : w68.cell? ⟨gb271, 0, none⟩ = some (.slice none 0 0) := (blk_cell BK271.out 0).trans rfl; have hcz71_1 : w68.cell? ⟨gb271, 1, none⟩ = some (.slice none 0 0) := (blk_cell BK271.out 1).trans rfl; have hfz71_0 := blk_frozen BK271.out 0; have hfz71_1 := blk_frozen BK271.out 1))
    refine bodyPost_ret (results_ct rfl _ _ gb271 27 #[.slice (some ⟨go47, 0, none⟩) t272.length co13, .slice (some ⟨go50, 0, none⟩) t275.length co18] (0, 0) _ rfl (by (repeat apply bX); refine blk_put (cs := #[.slice (some ⟨go47, 0, none⟩) t272.length co13, .slice none 0 0]) ?_ 1 _ rfl; (repeat apply bX); refine blk_put (cs := #[.slice none 0 0, .slice none 0 0]) ?_ 0 _ rfl; (repeat apply bX); exact BK271.out) Try.underlying27 rfl (by kernel_rfl)) rfl ?_
    exact ⟨_, _, by first | rfl | (simp [errW_none, errW_some] <;> rfl) | (simp [*, errW_none, errW_some] <;> rfl), by (repeat apply rX); exact Kd.R_mono (Kd.R_far (p := ⟨gb271, 1, none⟩) (Kd.R_far (p := ⟨gb271, 0, none⟩) (Kd.R_types HO_279000.out BK271.out (by decide)) (fun _ hk => hk.2) (.slice (some ⟨go47, 0, none⟩) t272.length co13)) (fun _ hk => hk.2) (.slice (some ⟨go50, 0, none⟩) t275.length co18)) (fun _ hk => hk.1), by (repeat apply rX); exact Kd.R_mono (Kd.R_far (p := ⟨gb271, 1, none⟩) (Kd.R_far (p := ⟨gb271, 0, none⟩) (Kd.R_types HO_279001.out BK271.out (by decide)) (fun _ hk => hk.2) (.slice (some ⟨go47, 0, none⟩) t272.length co13)) (fun _ hk => hk.2) (.slice (some ⟨go50, 0, none⟩) t275.length co18)) (fun _ hk => hk.1), by repeat (first | (with_reducible first | exact HB.out | apply below_alloc | apply pw_below_drewN | apply below_drew1 | refine below_set ?_ GE269.out | refine below_set ?_ GE270.out | refine below_set ?_ GE271.out | refine below_set ?_ GE278.out) | exact HB.out)⟩
   replace c52 := Bool.eq_false_iff.mpr c52
   subst c52
   have H1 : ((impl_copyCredits.f l0_0 l0_1).bind fun bt288 => (some (bt288.1, bt288.2, false))) = some (r1, r2, r3) := by rw [if_neg (show ¬ (false = true) by decide)] at H; exact H
   clear H
   have H := H1
   clear H1
   replace H := Option.bind_eq_some_iff.mp H
   obtain ⟨⟨t288, t291⟩, A720, H⟩ := H
   replace H : (some (t288, t291, false)) = some (r1, r2, r3) := H
   have A72 := Aside0.mk A720
   clear A720
   simp only [Option.some.injEq, Prod.mk.injEq] at H
   obtain ⟨rfl, rfl, rfl⟩ := H
   have hnb73 := NB270_269.out
   have hnc73 := NB269_270.out
   have hnb74 := NB270_271.out
   have hnc74 := NB271_270.out
   have hnb75 := NB270_278.out
   have hnc75 := NB278_270.out
   obtain ⟨hcz76_0, hcz76_1, hcz76_2, hcz76_3, hcz76_4, hcz76_5, hcz76_6, hcz76_7, hfz76_0, hfz76_1, hfz76_2, hfz76_3, hfz76_4, hfz76_5, hfz76_6, hfz76_7⟩ := b8 BK270.out
   try go_wp2_with (first | ((with_reducible refine gate_callee (f := 68) rfl ?_); refine goesL_ (some 20) rfl rfl Try.func68 (by kernel_rfl) rfl #[.agg #[.int .i64 a1_0, .int .i64 a1_1, .int .i64 a1_2, .int .i64 a1_3, .int .i64 a1_4, .int .i64 a1_5, .int .i64 a1_6, .slice A1_7 l1_7.length c1_7]] rfl (by (try simp only [List.map_toArray, List.map_cons, List.map_nil]); first | done | rfl) ?_; (with_reducible refine (impl_ClassOf.calls kj3 a1_0 a1_1 a1_2 a1_3 a1_4 a1_5 a1_6 _ _ l1_7 t281 _ ?side1 ?side2 A44.out).mono ?_); (case side1 => exact cY ((Kd.C_below HR1_7.out HB.out))); (case side2 => exact HC1_7.out); rintro e w77 ⟨rfl, hb⟩; refine ⟨_, rfl, ?_⟩; have n0_ := Aside0.mk (Kd.R_below (rY HO_279000.out) hb); have n1_ := Aside0.mk (Kd.R_below (rY HO_279001.out) hb); have n2_ := Aside0.mk (blk_below (bY BK269.out) hb); have n3_ := Aside0.mk (blk_below (bY BK270.out) hb); have n4_ := Aside0.mk (blk_below (bY BK271.out) hb); have n5_ := Aside0.mk (blk_below (bY BK278.out) hb); have n6_ := Aside0.mk (below_step (by repeat (first | (with_reducible first | exact HB.out | apply below_alloc | apply pw_below_drewN | apply below_drew1 | refine below_set ?_ GE269.out | refine below_set ?_ GE270.out | refine below_set ?_ GE271.out | refine below_set ?_ GE278.out) | exact HB.out)) hb); clear HO_279000; clear HO_279001; clear BK269; clear BK270; clear BK271; clear BK278; clear HB; have HO_279000 := n0_; have HO_279001 := n1_; have BK269 := n2_; have BK270 := n3_; have BK271 := n4_; have BK278 := n5_; have HB := n6_; clear n0_ n1_ n2_ n3_ n4_ n5_ n6_; (try clear hb); (try clear hb2); (try clear hk); (try clear hi); have hnb78 := NB278_269.out; have hnc78 := NB269_278.out; have hnb79 := NB278_271.out; have hnc79 := NB271_278.out; have hcz80_0 : w77.cell? ⟨gb278, 0, none⟩ = some (.slice Ao13 t272.length co13) := (blk_cell BK278.out 0).trans rfl; have hcz80_1 : w77.cell? ⟨gb278, 1, none⟩ = some (.slice Ao18 t275.length co18) := (blk_cell BK278.out 1).trans rfl; have hfz80_0 := blk_frozen BK278.out 0; have hfz80_1 := blk_frozen BK278.out 1; have p282 : 0 ≤ (t281 : Int) := of_decide_eq_true (by first | (with_reducible assumption) | assumption); have q282 : t281 < (t272.length : Int) := of_decide_eq_true (by first | (with_reducible assumption) | assumption); obtain ⟨ad282, e282, hx282_0⟩ := Kd.at_int (Kd.R_reads' HO_279000.out).2.2 t281 p282 q282; cases e282; replace p282 := eq_true p282; replace q282 := eq_true q282; have p47 : 0 ≤ (t281 : Int) := of_decide_eq_true (by first | (with_reducible assumption) | assumption); have q47 : (t281 : Int) < ((t272.length : Int) : Int) := of_decide_eq_true (by first | (with_reducible assumption) | assumption); obtain ⟨go47, co47, eo47, gb47, gl47, cl47, HG47⟩ := Kd.R_form HO_279000.out (by omega); (first | cases eo47 | (injection eo47 with ea_ en_ ec_; (first | subst ea_ | (injection ea_ with ea_; subst ea_)); subst ec_; clear en_)); have GB47 := Aside0.mk gb47; have GG47 := Aside0.mk HG47; clear gb47 gl47 HG47; (first | simp only [add_plain] at hx282_0 | skip); obtain ⟨hx47_0, hf47_0⟩ := Kd.R_celln 0 HO_279000.out (t281 : Int) p47 q47; replace p47 := eq_true p47; replace q47 := eq_true q47; obtain ⟨hy81_, hz81_⟩ := Kd.R_celln 0 HO_279000.out (t281 : Int) (of_decide_eq_true (by first | (with_reducible assumption) | assumption)) (of_decide_eq_true (by first | (with_reducible assumption) | assumption)); have HP81 := Kd.R_putg HO_279000.out (t281 : Int) (wrap64 ((rd t272 t281) + 1))) | ((with_reducible refine gate_store (t := 3) (p := 27) rfl ?_); refine store_event (t := 3) (p := 27) (v := ?vo_w82) (w1 := (w77.setCell ⟨go47, (t281 : Int).toNat, none⟩ (.int .i64 (wrap64 ((rd t272 t281) + 1))))) ?hg ?ho ?hn ?hr ?_; (case ho => rfl); (case hg => rfl); (case hn => rfl); (case hr => first | (go_simp; done) | (go_simp; rfl)); intro w82 hw; have hg : w77.grownBy w82 (some go47) := (by rw [hw]; exact HP81.2); have hp_ : Kd.R (Kd.int .i64) 3 w82 w.heap.size (fun k_ => some k_ ≠ (.slice Ao18 t275.length co18 : Value).ownBlock) (.slice (some ⟨go47, 0, none⟩) t272.length co13) y283 := (by rw [hw, Ny283.out]; exact HP81.1); clear HP81; have n0_ := Aside0.mk (hp_); have n1_ := Aside0.mk (Kd.R_after (v := (.slice (some ⟨go47, 0, none⟩) t272.length co13)) (v1 := (.slice (some ⟨go47, 0, none⟩) t272.length co13)) (ok := (fun _ => True)) (by (repeat apply rX); exact Kd.R_mono HO_279001.out (fun _ hk => ⟨trivial, hk⟩)) hg (.inl rfl)); have n2_ := Aside0.mk (blk_grown (g := gb269) (o := .cells #[.slice A0_0 l0_0.length c0_0, .slice A0_1 l0_1.length c0_1] 27 (0, 0)) (bY BK269.out) hg (Kd.R_ne HO_279000.out BK269.out (by decide))); have n3_ := Aside0.mk (blk_grown (g := gb270) (o := .cells #[.int .i64 a1_0, .int .i64 a1_1, .int .i64 a1_2, .int .i64 a1_3, .int .i64 a1_4, .int .i64 a1_5, .int .i64 a1_6, .slice A1_7 l1_7.length c1_7] 35 (0, 0)) (bY BK270.out) hg (Kd.R_ne HO_279000.out BK270.out (by decide))); have n4_ := Aside0.mk (blk_grown (g := gb271) (o := .cells #[.slice none 0 0, .slice none 0 0] 27 (0, 0)) (bY BK271.out) hg (Kd.R_ne HO_279000.out BK271.out (by decide))); have n5_ := Aside0.mk (blk_grown (g := gb278) (o := .cells #[.slice (some ⟨go47, 0, none⟩) t272.length co13, .slice Ao18 t275.length co18] 27 (0, 0)) (bY BK278.out) hg (Kd.R_ne HO_279000.out BK278.out (by decide))); have n6_ := Aside0.mk ((by rw [hw]; exact below_set (HB.out) GB47.out : Below w.heap.size w w82)); clear HO_279000; clear HO_279001; clear BK269; clear BK270; clear BK271; clear BK278; clear HB; have HO_279000 := n0_; have HO_279001 := n1_; have BK269 := n2_; have BK270 := n3_; have BK271 := n4_; have BK278 := n5_; have HB := n6_; clear n0_ n1_ n2_ n3_ n4_ n5_ n6_; clear hg hw hp_))
   have n0_ := Aside0.mk (Kd.R_drew HO_279000.out)
   have n1_ := Aside0.mk (Kd.R_drew HO_279001.out)
   have n2_ := Aside0.mk (blk_drew BK269.out)
   have n3_ := Aside0.mk (blk_drew BK270.out)
   have n4_ := Aside0.mk (blk_drew BK271.out)
   have n5_ := Aside0.mk (blk_drew BK278.out)
   have n6_ := Aside0.mk (below_drew1 HB.out)
   clear HO_279000
   clear HO_279001
   clear BK269
   clear BK270
   clear BK271
   clear BK278
   clear HB
   have HO_279000 := n0_
   have HO_279001 := n1_
   have BK269 := n2_
   have BK270 := n3_
   have BK271 := n4_
   have BK278 := n5_
   have HB := n6_
   clear n0_ n1_ n2_ n3_ n4_ n5_ n6_
   have p284 : 0 ≤ (t281 : Int) := of_decide_eq_true (by first | (with_reducible assumption) | assumption)
   have q284 : t281 < (t275.length : Int) := of_decide_eq_true (by first | (with_reducible assumption) | assumption)
   obtain ⟨ad284, e284, hx284_0⟩ := Kd.at_int (Kd.R_reads' HO_279001.out).2.2 t281 p284 q284
   cases e284
   replace p284 := eq_true p284
   replace q284 := eq_true q284
   refine start_ (n := 10) (S := fun w' => w'.cell? ⟨gb278, 0, none⟩ = some (.slice (some ⟨go47, 0, none⟩) t272.length co13) ∧ w'.cell? ⟨gb278, 1, none⟩ = some (.slice (some ad284) t275.length co18) ∧ w'.cell? ⟨gb270, 0, none⟩ = some (.int .i64 a1_0) ∧ w'.cell? ⟨gb270, 1, none⟩ = some (.int .i64 a1_1) ∧ w'.cell? ⟨gb270, 2, none⟩ = some (.int .i64 a1_2) ∧ w'.cell? ⟨gb270, 3, none⟩ = some (.int .i64 a1_3) ∧ w'.cell? ⟨gb270, 4, none⟩ = some (.int .i64 a1_4) ∧ w'.cell? ⟨gb270, 5, none⟩ = some (.int .i64 a1_5) ∧ w'.cell? ⟨gb270, 6, none⟩ = some (.int .i64 a1_6) ∧ w'.cell? ⟨gb270, 7, none⟩ = some (.slice A1_7 l1_7.length c1_7) ∧ w'.cell? (ad284.add (t281).toNat) = some (.int .i64 (rd t275 t281))) (ds := [9]) #[F, F, F, F, F, F, F, F, F, F] (by kernel_rfl) rfl rfl ⟨(blk_cell BK278.out 0).trans rfl, (blk_cell BK278.out 1).trans rfl, (blk_cell BK270.out 0).trans rfl, (blk_cell BK270.out 1).trans rfl, (blk_cell BK270.out 2).trans rfl, (blk_cell BK270.out 3).trans rfl, (blk_cell BK270.out 4).trans rfl, (blk_cell BK270.out 5).trans rfl, (blk_cell BK270.out 6).trans rfl, (blk_cell BK270.out 7).trans rfl, hx284_0⟩ (fun hHeld => ?_); refine with_tabW impl_ReturnCredits.tab6 impl_ReturnCredits.bits6 (fun HT_ HW_ => ?_)
   generalize w82.drew = w83 at HO_279000 HO_279001 BK269 BK270 BK271 BK278 HB hx284_0 hHeld ⊢
   refine pure_ (i := 0) (N := some 28) (v := ?_) (a' := ?_) #[T, F, F, F, F, F, F, F, F, F] rfl rfl (any_of HT_.out (by kernel_rfl)) (fun _ _ _ h => h) (Or.inl ⟨by rfl, ?_⟩) ?_ ?_
   rotate_left
   ·intro w'
    go_simp
    with_reducible rfl
   rotate_left
   ·simp only [pS]
    rfl
   refine pure_ (i := 2) (N := some 30) (v := ?_) (a' := ?_) #[T, F, T, F, F, F, F, F, F, F] rfl rfl (any_of HT_.out (by kernel_rfl)) (fun _ _ _ h => h) (Or.inl ⟨by rfl, ?_⟩) ?_ ?_
   rotate_left
   ·intro w'
    go_simp
    with_reducible rfl
   rotate_left
   ·simp only [pS]
    rfl
   refine take_ (i := 1) (N := some 29) (v := ?_) (a' := ?_) #[T, T, T, F, F, F, F, F, F, F] rfl rfl (take_ofW HT_.out HW_.out (by kernel_rfl)) (fun _ _ _ h => h) (Or.inl ⟨by rfl, ?_⟩) hHeld ?_ ?_
   rotate_left
   ·rintro w' ⟨s0, s1, s2, s3, s4, s5, s6, s7, s8, s9, s10⟩
    go_simp
    with_reducible rfl
   rotate_left
   ·simp only [pS]
    rfl
   refine pure_ (i := 3) (N := some 31) (v := ?_) (a' := ?_) #[T, T, T, T, F, F, F, F, F, F] rfl rfl (any_of HT_.out (by kernel_rfl)) (fun _ _ _ h => h) (Or.inl ⟨by rfl, ?_⟩) ?_ ?_
   rotate_left
   ·intro w'
    go_simp
    with_reducible rfl
   rotate_left
   ·simp only [pS]
    rfl
   refine take_ (i := 4) (N := some 32) (v := ?_) (a' := ?_) #[T, T, T, T, T, F, F, F, F, F] rfl rfl (take_ofW HT_.out HW_.out (by kernel_rfl)) (fun _ _ _ h => h) (Or.inl ⟨by rfl, ?_⟩) hHeld ?_ ?_
   rotate_left
   ·rintro w' ⟨s0, s1, s2, s3, s4, s5, s6, s7, s8, s9, s10⟩
    go_simp
    with_reducible rfl
   rotate_left
   ·simp only [pS]
    rfl
   refine take_ (i := 5) (N := some 33) (v := ?_) (a' := ?_) #[T, T, T, T, T, T, F, F, F, F] rfl rfl (take_ofW HT_.out HW_.out (by kernel_rfl)) (fun _ _ _ h => h) (Or.inl ⟨by rfl, ?_⟩) hHeld ?_ ?_
   rotate_left
   ·rintro w' ⟨s0, s1, s2, s3, s4, s5, s6, s7, s8, s9, s10⟩
    go_simp
    with_reducible rfl
   rotate_left
   ·simp only [pS]
    rfl
   refine one_ (i := 6) (N := some 34) #[T, T, T, T, T, T, T, F, F, F] rfl rfl (one_of HT_.out (by kernel_rfl)) (by decide) (fun K hK => ?_)
   refine goes_ Try.func71 (by kernel_rfl) rfl #[.agg #[.int .i64 a1_0, .int .i64 a1_1, .int .i64 a1_2, .int .i64 a1_3, .int .i64 a1_4, .int .i64 a1_5, .int .i64 a1_6, .slice A1_7 l1_7.length c1_7]] (by rfl) rfl rfl (by (try simp only [List.map_toArray, List.map_cons, List.map_nil]); first | done | rfl) ?_
   with_reducible refine (impl_PacketUnits.calls kj3 a1_0 a1_1 a1_2 a1_3 a1_4 a1_5 a1_6 _ _ l1_7 t285 _ ?side1 ?side2 A49.out).mono ?_
   (case side1 => exact cY ((Kd.C_below HR1_7.out HB.out)))
   (case side2 => exact HC1_7.out)
   rintro e w84 ⟨rfl, hb⟩
   have HS10_ := (hb.cell (World.block_lt_of_cell? _ _ (hHeld.2.2.2.2.2.2.2.2.2.2))).trans (hHeld.2.2.2.2.2.2.2.2.2.2)
   refine ⟨_, rfl, ?_⟩
   have n0_ := Aside0.mk (Kd.R_below (rY HO_279000.out) hb)
   have n1_ := Aside0.mk (Kd.R_below (rY HO_279001.out) hb)
   have n2_ := Aside0.mk (blk_below (bY BK269.out) hb)
   have n3_ := Aside0.mk (blk_below (bY BK270.out) hb)
   have n4_ := Aside0.mk (blk_below (bY BK271.out) hb)
   have n5_ := Aside0.mk (blk_below (bY BK278.out) hb)
   have n6_ := Aside0.mk (below_step (by repeat (first | (with_reducible first | exact HB.out | apply below_alloc | apply pw_below_drewN | apply below_drew1 | refine below_set ?_ GE269.out | refine below_set ?_ GE270.out | refine below_set ?_ GE271.out | refine below_set ?_ GE278.out) | exact HB.out)) hb)
   clear HO_279000
   clear HO_279001
   clear BK269
   clear BK270
   clear BK271
   clear BK278
   clear HB
   have HO_279000 := n0_
   have HO_279001 := n1_
   have BK269 := n2_
   have BK270 := n3_
   have BK271 := n4_
   have BK278 := n5_
   have HB := n6_
   clear n0_ n1_ n2_ n3_ n4_ n5_ n6_
   have p50 : 0 ≤ (t281 : Int) := of_decide_eq_true (by first | (with_reducible assumption) | assumption)
   have q50 : (t281 : Int) < ((t275.length : Int) : Int) := of_decide_eq_true (by first | (with_reducible assumption) | assumption)
   obtain ⟨go50, co50, eo50, gb50, gl50, cl50, HG50⟩ := Kd.R_form HO_279001.out (by omega)
   (first | cases eo50 | (injection eo50 with ea_ en_ ec_; (first | subst ea_ | (injection ea_ with ea_; subst ea_)); subst ec_; clear en_))
   have GB50 := Aside0.mk gb50
   have GG50 := Aside0.mk HG50
   clear gb50 gl50 HG50
   (first | simp only [add_plain] at hx284_0 | skip)
   obtain ⟨hx50_0, hf50_0⟩ := Kd.R_celln 0 HO_279001.out (t281 : Int) p50 q50
   replace p50 := eq_true p50
   replace q50 := eq_true q50
   have HP85 := Kd.R_putn HO_279001.out (t281 : Int) (wrap64 ((rd t275 t281) + t285))
   rw [← Ny286.out] at HP85
   have HQ85 := Aside0.mk HP85
   clear HP85
   refine hK.out _ _ ⟨(blk_cell BK278.out 0).trans rfl, (blk_cell BK278.out 1).trans rfl, (blk_cell BK270.out 0).trans rfl, (blk_cell BK270.out 1).trans rfl, (blk_cell BK270.out 2).trans rfl, (blk_cell BK270.out 3).trans rfl, (blk_cell BK270.out 4).trans rfl, (blk_cell BK270.out 5).trans rfl, (blk_cell BK270.out 6).trans rfl, (blk_cell BK270.out 7).trans rfl, HS10_⟩ (fun hHeld => ?_)
   clear hK K
   refine norm_ (a' := ?_) ?_ ?_
   rotate_left
   ·show Act.put _ (some 34) _ = _
    simp only [pS]
    rfl
   refine pure_ (i := 7) (N := some 35) (v := ?_) (a' := ?_) #[T, T, T, T, T, T, T, T, F, F] rfl rfl (any_of HT_.out (by kernel_rfl)) (fun _ _ _ h => h) (Or.inl ⟨by rfl, ?_⟩) ?_ ?_
   rotate_left
   ·intro w'
    go_simp
    with_reducible rfl
   rotate_left
   ·simp only [pS]
    rfl
   refine pure_ (i := 8) (N := some 36) (v := ?_) (a' := ?_) #[T, T, T, T, T, T, T, T, T, F] rfl rfl (any_of HT_.out (by kernel_rfl)) (fun _ _ _ h => h) (Or.inl ⟨by rfl, ?_⟩) ?_ ?_
   rotate_left
   ·intro w'
    go_simp
    with_reducible rfl
   rotate_left
   ·simp only [pS]
    rfl
   refine last_ (i := 9) (N := none) #[T, T, T, T, T, T, T, T, T, T] rfl rfl (one_of HT_.out (by kernel_rfl)) (by decide) (fun K hK => ?_)
   refine skip_ (w1 := ?_) (by rfl) rfl ?_ ?_
   rotate_left
   ·go_simp
    rfl
   refine hK.out _ _ ?_
   clear hK K
   refine done_ (done_of HT_.out (by kernel_rfl)) ?_
   have n0_ : Aside0 (Kd.R (Kd.int .i64) 3 (w84.setCell ⟨go50, (t281 : Int).toNat, none⟩ (.int .i64 (wrap64 ((rd t275 t281) + t285)))) w.heap.size (fun k_ => some k_ ≠ (.slice (some ⟨go50, 0, none⟩) t275.length co18 : Value).ownBlock) (.slice (some ⟨go47, 0, none⟩) t272.length co13) y283) := ⟨by (repeat apply rX); exact Kd.R_mono (Kd.R_far (p := ⟨go50, (t281 : Int).toNat, none⟩) (Kd.R_mono HO_279000.out (fun k_ hk => (⟨hk, fun e_ => hk (by rw [e_]; rfl)⟩ : _ ∧ k_ ≠ go50))) (fun _ hk => hk.2) (.int .i64 (wrap64 ((rd t275 t281) + t285)))) (fun _ hk => hk.1)⟩
   have n1_ : Aside0 (Kd.R (Kd.int .i64) 3 (w84.setCell ⟨go50, (t281 : Int).toNat, none⟩ (.int .i64 (wrap64 ((rd t275 t281) + t285)))) w.heap.size (fun k_ => some k_ ≠ (.slice (some ⟨go47, 0, none⟩) t272.length co13 : Value).ownBlock) (.slice (some ⟨go50, 0, none⟩) t275.length co18) y286) := ⟨by (repeat apply rX); exact Kd.R_mono HQ85.out (fun _ hk => hk.2)⟩
   have n2_ : Aside0 ((w84.setCell ⟨go50, (t281 : Int).toNat, none⟩ (.int .i64 (wrap64 ((rd t275 t281) + t285)))).heap[gb269]? = some (.cells #[.slice A0_0 l0_0.length c0_0, .slice A0_1 l0_1.length c0_1] 27 (0, 0))) := ⟨by (repeat apply bX); refine blk_far ?_ (by have h_ := Kd.R_ne HO_279001.out BK269.out (by decide); intro e_; exact h_ (by rw [e_]; rfl)) _; (repeat apply bX); exact BK269.out⟩
   have n3_ : Aside0 ((w84.setCell ⟨go50, (t281 : Int).toNat, none⟩ (.int .i64 (wrap64 ((rd t275 t281) + t285)))).heap[gb270]? = some (.cells #[.int .i64 a1_0, .int .i64 a1_1, .int .i64 a1_2, .int .i64 a1_3, .int .i64 a1_4, .int .i64 a1_5, .int .i64 a1_6, .slice A1_7 l1_7.length c1_7] 35 (0, 0))) := ⟨by (repeat apply bX); refine blk_far ?_ (by have h_ := Kd.R_ne HO_279001.out BK270.out (by decide); intro e_; exact h_ (by rw [e_]; rfl)) _; (repeat apply bX); exact BK270.out⟩
   have n4_ : Aside0 ((w84.setCell ⟨go50, (t281 : Int).toNat, none⟩ (.int .i64 (wrap64 ((rd t275 t281) + t285)))).heap[gb271]? = some (.cells #[.slice none 0 0, .slice none 0 0] 27 (0, 0))) := ⟨by (repeat apply bX); refine blk_far ?_ (by have h_ := Kd.R_ne HO_279001.out BK271.out (by decide); intro e_; exact h_ (by rw [e_]; rfl)) _; (repeat apply bX); exact BK271.out⟩
   have n5_ : Aside0 ((w84.setCell ⟨go50, (t281 : Int).toNat, none⟩ (.int .i64 (wrap64 ((rd t275 t281) + t285)))).heap[gb278]? = some (.cells #[.slice (some ⟨go47, 0, none⟩) t272.length co13, .slice (some ⟨go50, 0, none⟩) t275.length co18] 27 (0, 0))) := ⟨by (repeat apply bX); refine blk_far ?_ (by have h_ := Kd.R_ne HO_279001.out BK278.out (by decide); intro e_; exact h_ (by rw [e_]; rfl)) _; (repeat apply bX); exact BK278.out⟩
   have n6_ : Aside0 (Below w.heap.size w (w84.setCell ⟨go50, (t281 : Int).toNat, none⟩ (.int .i64 (wrap64 ((rd t275 t281) + t285))))) := ⟨by repeat (first | (with_reducible first | exact HB.out | apply below_alloc | apply pw_below_drewN | apply below_drew1 | refine below_set ?_ GB50.out | refine below_set ?_ GE269.out | refine below_set ?_ GE270.out | refine below_set ?_ GE271.out | refine below_set ?_ GE278.out) | exact HB.out)⟩
   generalize (w84.setCell ⟨go50, (t281 : Int).toNat, none⟩ (.int .i64 (wrap64 ((rd t275 t281) + t285)))) = w86 at n0_ n1_ n2_ n3_ n4_ n5_ n6_ ⊢
   have HO_279000 := n0_
   have HO_279001 := n1_
   have BK269 := n2_
   have BK270 := n3_
   have BK271 := n4_
   have BK278 := n5_
   have HB := n6_
   clear n0_ n1_ n2_ n3_ n4_ n5_ n6_
   obtain ⟨hcz87_0, hcz87_1, hfz87_0, hfz87_1⟩ := b2 BK278.out
   try go_wp2_with (first | ((with_reducible refine gate_callee (f := 18) rfl ?_); refine goesL_ (some 38) rfl rfl Try.func18 (by kernel_rfl) rfl #[.agg #[.slice (some ⟨go47, 0, none⟩) y283.length co13, .slice (some ⟨go50, 0, none⟩) y286.length co18]] rfl (by (try simp only [List.map_toArray, List.map_cons, List.map_nil]); first | done | (rw [show y283.length = t272.length from (Kd.R_reads' HO_279000.out).1.symm, show y286.length = t275.length from (Kd.R_reads' HO_279001.out).1.symm] <;> rfl) | rfl | (simp only [List.length_drop, List.length_take]; rfl)) ?_; (with_reducible refine (impl_CreditsOk.calls kj3 _ _ y283 _ _ y286 false _ ?side1 ?side2 ?side3 ?side4 A51.out).mono ?_); (case side1 => exact cY ((Kd.R_reads' HO_279000.out).2.2)); (case side2 => rw [show y283.length = t272.length from (Kd.R_reads' HO_279000.out).1.symm]; exact (Kd.R_reads' HO_279000.out).2.1); (case side3 => exact cY ((Kd.R_reads' HO_279001.out).2.2)); (case side4 => rw [show y286.length = t275.length from (Kd.R_reads' HO_279001.out).1.symm]; exact (Kd.R_reads' HO_279001.out).2.1); rintro e w88 ⟨rfl, hb⟩; refine ⟨_, rfl, ?_⟩; have n0_ := Aside0.mk (Kd.R_below (rY HO_279000.out) hb); have n1_ := Aside0.mk (Kd.R_below (rY HO_279001.out) hb); have n2_ := Aside0.mk (blk_below (bY BK269.out) hb); have n3_ := Aside0.mk (blk_below (bY BK270.out) hb); have n4_ := Aside0.mk (blk_below (bY BK271.out) hb); have n5_ := Aside0.mk (blk_below (bY BK278.out) hb); have n6_ := Aside0.mk (below_step (by repeat (first | (with_reducible first | exact HB.out | apply below_alloc | apply pw_below_drewN | apply below_drew1 | refine below_set ?_ GE269.out | refine below_set ?_ GE270.out | refine below_set ?_ GE271.out | refine below_set ?_ GE278.out) | exact HB.out)) hb); clear HO_279000; clear HO_279001; clear BK269; clear BK270; clear BK271; clear BK278; clear HB; have HO_279000 := n0_; have HO_279001 := n1_; have BK269 := n2_; have BK270 := n3_; have BK271 := n4_; have BK278 := n5_; have HB := n6_; clear n0_ n1_ n2_ n3_ n4_ n5_ n6_; (try clear hb); (try clear hb2); (try clear hk); (try clear hi); have hnb89 := NB269_271.out; have hnc89 := NB271_269.out; have hcz90_0 : w88.cell? ⟨gb269, 0, none⟩ = some (.slice A0_0 l0_0.length c0_0) := (blk_cell BK269.out 0).trans rfl; have hcz90_1 : w88.cell? ⟨gb269, 1, none⟩ = some (.slice A0_1 l0_1.length c0_1) := (blk_cell BK269.out 1).trans rfl; have hfz90_0 := blk_frozen BK269.out 0; have hfz90_1 := blk_frozen BK269.out 1) | ((with_reducible refine gate_callee (f := 73) rfl ?_); refine goesL_ (some 41) rfl rfl Try.func73 (by kernel_rfl) rfl #[.agg #[.slice A0_0 l0_0.length c0_0, .slice A0_1 l0_1.length c0_1]] rfl (by (try simp only [List.map_toArray, List.map_cons, List.map_nil]); first | done | rfl) ?_; (with_reducible refine (impl_copyCredits.calls _ _ l0_0 _ _ l0_1 t288 t291 _ ?side1 ?side2 ?side3 ?side4 A72.out).mono ?_); (case side1 => exact cY ((Kd.C_below HR0_0.out HB.out))); (case side2 => exact HC0_0.out); (case side3 => exact cY ((Kd.C_below HR0_1.out HB.out))); (case side4 => exact HC0_1.out); rintro e w91 ⟨v289, v292, rfl, ho0, ho1, hb⟩; refine ⟨_, rfl, ?_⟩; have n0_ := Aside0.mk (Kd.R_mono (Kd.R_told (Kd.R_told (Kd.R_old (rY HO_279000.out) hb) (Kd.R_base ho0)) (Kd.R_base ho1)) (fun _ h_ => h_.1)); have n1_ := Aside0.mk (Kd.R_mono (Kd.R_told (Kd.R_told (Kd.R_old (rY HO_279001.out) hb) (Kd.R_base ho0)) (Kd.R_base ho1)) (fun _ h_ => h_.1)); have n2_ := Aside0.mk (Kd.R_lower (Kd.R_new' (Kd.R_new' ho0 (Kd.R_lt (rY HO_279000.out))) (Kd.R_lt (rY HO_279001.out))) (below_size (by repeat (first | (with_reducible first | exact HB.out | apply below_alloc | apply pw_below_drewN | apply below_drew1 | refine below_set ?_ GE269.out | refine below_set ?_ GE270.out | refine below_set ?_ GE271.out | refine below_set ?_ GE278.out) | exact HB.out)))); have n3_ := Aside0.mk (Kd.R_lower (Kd.R_new' (Kd.R_new' ho1 (Kd.R_lt (rY HO_279000.out))) (Kd.R_lt (rY HO_279001.out))) (below_size (by repeat (first | (with_reducible first | exact HB.out | apply below_alloc | apply pw_below_drewN | apply below_drew1 | refine below_set ?_ GE269.out | refine below_set ?_ GE270.out | refine below_set ?_ GE271.out | refine below_set ?_ GE278.out) | exact HB.out)))); have n4_ := Aside0.mk (blk_below (bY BK269.out) hb); have n5_ := Aside0.mk (blk_below (bY BK270.out) hb); have n6_ := Aside0.mk (blk_below (bY BK271.out) hb); have n7_ := Aside0.mk (blk_below (bY BK278.out) hb); have n8_ := Aside0.mk (below_step (by repeat (first | (with_reducible first | exact HB.out | apply below_alloc | apply pw_below_drewN | apply below_drew1 | refine below_set ?_ GE269.out | refine below_set ?_ GE270.out | refine below_set ?_ GE271.out | refine below_set ?_ GE278.out) | exact HB.out)) hb); clear HO_279000; clear HO_279001; clear BK269; clear BK270; clear BK271; clear BK278; clear HB; have HO_279000 := n0_; have HO_279001 := n1_; have HO290 := n2_; have HO293 := n3_; have BK269 := n4_; have BK270 := n5_; have BK271 := n6_; have BK278 := n7_; have HB := n8_; clear n0_ n1_ n2_ n3_ n4_ n5_ n6_ n7_ n8_; (try clear hb); (try clear hb2); (try clear hk); (try clear hi); (try clear ho0); (try clear ho1); obtain ⟨Ao92, co92, eo92⟩ := Kd.R_slice HO290.out; subst eo92; have hcz93_0 : w91.cell? ⟨gb271, 0, none⟩ = some (.slice none 0 0) := (blk_cell BK271.out 0).trans rfl; have hcz93_1 : w91.cell? ⟨gb271, 1, none⟩ = some (.slice none 0 0) := (blk_cell BK271.out 1).trans rfl; have hfz93_0 := blk_frozen BK271.out 0; have hfz93_1 := blk_frozen BK271.out 1; obtain ⟨Ao94, co94, eo94⟩ := Kd.R_slice HO293.out; subst eo94))
   refine bodyPost_ret (results_ct rfl _ _ gb271 27 #[.slice Ao92 t288.length co92, .slice Ao94 t291.length co94] (0, 0) _ rfl (by (repeat apply bX); refine blk_put (cs := #[.slice Ao92 t288.length co92, .slice none 0 0]) ?_ 1 _ rfl; (repeat apply bX); refine blk_put (cs := #[.slice none 0 0, .slice none 0 0]) ?_ 0 _ rfl; (repeat apply bX); exact BK271.out) Try.underlying27 rfl (by kernel_rfl)) rfl ?_
   exact ⟨_, _, by first | rfl | (simp [errW_none, errW_some] <;> rfl) | (simp [*, errW_none, errW_some] <;> rfl), by (repeat apply rX); exact Kd.R_mono (Kd.R_far (p := ⟨gb271, 1, none⟩) (Kd.R_far (p := ⟨gb271, 0, none⟩) (Kd.R_types HO290.out BK271.out (by decide)) (fun _ hk => hk.2) (.slice Ao92 t288.length co92)) (fun _ hk => hk.2) (.slice Ao94 t291.length co94)) (fun _ hk => hk.1.1.1), by (repeat apply rX); exact Kd.R_mono (Kd.R_far (p := ⟨gb271, 1, none⟩) (Kd.R_far (p := ⟨gb271, 0, none⟩) (Kd.R_types HO293.out BK271.out (by decide)) (fun _ hk => hk.2) (.slice Ao92 t288.length co92)) (fun _ hk => hk.2) (.slice Ao94 t291.length co94)) (fun _ hk => hk.1.1.1), by repeat (first | (with_reducible first | exact HB.out | apply below_alloc | apply pw_below_drewN | apply below_drew1 | refine below_set ?_ GE269.out | refine below_set ?_ GE270.out | refine below_set ?_ GE271.out | refine below_set ?_ GE278.out) | exact HB.out)⟩
/-! ### laws_markPacket: function 58 -/
def laws_markPacket.f (k : Nat) (a0_0 : Int) (a0_1 : Int) (a0_2 : Int) (a0_3 : Int) (a0_4 : Int) (a0_5 : Int) (a0_6 : Int) (l0_7 : List Int) (a1 : Int) : Option (Int × List Int) := (laws_markIntS.f k l0_7 a1).bind fun bt295 => (some (bt295.1, bt295.2))
set_option maxHeartbeats 8000000 in
set_option maxRecDepth 100000 in
theorem laws_markPacket.calls (k : Nat) (a0_0 : Int) (a0_1 : Int) (a0_2 : Int) (a0_3 : Int) (a0_4 : Int) (a0_5 : Int) (a0_6 : Int) (P0_7_ : Nat → Prop) (u9000_ : Value) (l0_7 : List Int) (a1 : Int) (r1 : Int) (r2 : List Int) (w0 w : World) (hB : Below w0.heap.size w0 w) (ho0_7 : Kd.R (Kd.int .i64) 3 w w0.heap.size P0_7_ u9000_ l0_7) (h : laws_markPacket.f k a0_0 a0_1 a0_2 a0_3 a0_4 a0_5 a0_6 l0_7 a1 = some (r1, r2)) :
  Calls Try.prog 58 #[.agg #[.int .i64 a0_0, .int .i64 a0_1, .int .i64 a0_2, .int .i64 a0_3, .int .i64 a0_4, .int .i64 a0_5, .int .i64 a0_6, u9000_], .int .i64 a1] w fun e w' => e = .returned (.int .i64 r1) ∧ Kd.R (Kd.int .i64) 3 w' w0.heap.size (fun k_ => (P0_7_ k_ ∨ w.heap.size ≤ k_)) u9000_ r2 ∧ Below w0.heap.size w0 w' ∧ Kept w w' (fun k_ => P0_7_ k_) := by
 have hu35 := Try.underlying35
 have HO0_7 := Aside0.mk (show Kd.R (Kd.int .i64) 3 w w0.heap.size (fun k_ => (P0_7_ k_ ∨ w.heap.size ≤ k_)) u9000_ l0_7 from Kd.R_mono ho0_7 (fun k_ hk => (.inl hk)))
 have HK := Aside0.mk (Kept.refl w (fun k_ => P0_7_ k_))
 have HW0 := Aside0.mk hB.size
 have HB := Aside0.mk hB
 clear hB
 have H : ((laws_markIntS.f k l0_7 a1).bind fun bt295 => (some (bt295.1, bt295.2))) = some (r1, r2) := h
 clear h
 replace H := Option.bind_eq_some_iff.mp H
 obtain ⟨⟨t295, t296⟩, A30, H⟩ := H
 replace H : (some (t295, t296)) = some (r1, r2) := H
 have A3 := Aside0.mk A30
 clear A30
 simp only [Option.some.injEq, Prod.mk.injEq] at H
 obtain ⟨rfl, rfl⟩ := H
 obtain ⟨Ao4, co4, eo4⟩ := Kd.R_slice HO0_7.out
 subst eo4
 go_enter Try.func58, Try.ntmps58
 go_wp2_with (first | ((with_reducible refine gate_dst (N := 2) rfl ?_); refine box_event ?hg (N := 2) ?hd (cs := #[.int .i64 a0_0, .int .i64 a0_1, .int .i64 a0_2, .int .i64 a0_3, .int .i64 a0_4, .int .i64 a0_5, .int .i64 a0_6, .slice Ao4 l0_7.length co4]) (t := 35) ?hr ?_; (case hd => rfl); (case hg => rfl); (case hr => first | (go_simp; done) | (go_simp; rfl)); intro gb294 hg w5 hbox hb; have n0_ := Aside0.mk (Kd.R_below (rY HO0_7.out) hb); have n1_ := Aside0.mk (Kept.below (S := (fun k_ => P0_7_ k_)) (by repeat (first | (with_reducible first | exact HK.out | apply Kept.alloc | apply Kept.drewN | apply Kept.drew) | exact HK.out)) hb); have n2_ := Aside0.mk (below_step (beY HB.out) hb); have n3_ := Aside0.mk (hbox); have n4_ := Aside0.mk ((by rw [hg]; exact (by first | exact HK.out.1 | exact (show Kept w _ (fun k_ => P0_7_ k_) from by repeat (first | (with_reducible first | exact HK.out | apply Kept.alloc | apply Kept.drewN | apply Kept.drew) | exact HK.out)).1) : w.heap.size ≤ gb294)); have n5_ := Aside0.mk ((by rw [hg]; exact (below_size (beY HB.out)) : w0.heap.size ≤ gb294)); clear HO0_7; clear HK; clear HB; have HO0_7 := n0_; have HK := n1_; have HB := n2_; have BK294 := n3_; have GW294 := n4_; have GE294 := n5_; clear n0_ n1_ n2_ n3_ n4_ n5_; clear hb hbox hg; have hcz6_0 : w5.cell? ⟨gb294, 0, none⟩ = some (.int .i64 a0_0) := (blk_cell BK294.out 0).trans rfl; have hcz6_1 : w5.cell? ⟨gb294, 1, none⟩ = some (.int .i64 a0_1) := (blk_cell BK294.out 1).trans rfl; have hcz6_2 : w5.cell? ⟨gb294, 2, none⟩ = some (.int .i64 a0_2) := (blk_cell BK294.out 2).trans rfl; have hcz6_3 : w5.cell? ⟨gb294, 3, none⟩ = some (.int .i64 a0_3) := (blk_cell BK294.out 3).trans rfl; have hcz6_4 : w5.cell? ⟨gb294, 4, none⟩ = some (.int .i64 a0_4) := (blk_cell BK294.out 4).trans rfl; have hcz6_5 : w5.cell? ⟨gb294, 5, none⟩ = some (.int .i64 a0_5) := (blk_cell BK294.out 5).trans rfl; have hcz6_6 : w5.cell? ⟨gb294, 6, none⟩ = some (.int .i64 a0_6) := (blk_cell BK294.out 6).trans rfl; have hcz6_7 : w5.cell? ⟨gb294, 7, none⟩ = some (.slice Ao4 l0_7.length co4) := (blk_cell BK294.out 7).trans rfl; have hfz6_0 := blk_frozen BK294.out 0; have hfz6_1 := blk_frozen BK294.out 1; have hfz6_2 := blk_frozen BK294.out 2; have hfz6_3 := blk_frozen BK294.out 3; have hfz6_4 := blk_frozen BK294.out 4; have hfz6_5 := blk_frozen BK294.out 5; have hfz6_6 := blk_frozen BK294.out 6; have hfz6_7 := blk_frozen BK294.out 7) | ((with_reducible refine gate_callee (f := 50) rfl ?_); refine goesL_ (some 8) rfl rfl Try.func50 (by kernel_rfl) rfl #[.slice Ao4 l0_7.length co4, .int .i64 a1] rfl (by (try simp only [List.map_toArray, List.map_cons, List.map_nil]); first | done | rfl) ?_; (with_reducible refine (laws_markIntS.calls k (fun k_ => some k_ = (.slice Ao4 l0_7.length co4 : Value).ownBlock) (.slice Ao4 l0_7.length co4) l0_7 a1 t295 t296 w0 _ ?side1 ?side2 A3.out).mono ?_); (case side1 => repeat (first | (with_reducible first | exact HB.out | apply below_alloc | apply pw_below_drewN | apply below_drew1 | refine below_set ?_ GE294.out) | exact HB.out)); (case side2 => exact Kd.R_tight rfl HO0_7.out); rintro e w7 ⟨rfl, hy0, hb, hkp⟩; refine ⟨_, rfl, ?_⟩; have n0_ := Aside0.mk (Kd.R_reok rfl hy0 (fun k_ e_ => HO0_7.out.1 k_ e_)); have n1_ := Aside0.mk (blk_kept (bY BK294.out) hkp (fun hs_ => (fun e_ => (Kd.R_ne HO0_7.out BK294.out (by decide)) e_) hs_)); have n2_ := Aside0.mk (Kept.then_ (S := (fun k_ => P0_7_ k_)) (by repeat (first | (with_reducible first | exact HK.out | apply Kept.alloc | apply Kept.drewN | apply Kept.drew | refine Kept.setCell ?_ (.inr GW294.out) _) | exact HK.out)) hkp (fun k_ hs_ => (fun e_ => (HO0_7.out.1 k_ e_.symm)) hs_)); have n3_ := Aside0.mk (hb); clear HO0_7; clear BK294; clear HK; clear HB; have HO0_7 := n0_; have BK294 := n1_; have HK := n2_; have HB := n3_; clear n0_ n1_ n2_ n3_; (try clear hb); (try clear hkp); (try clear hy0)))
 go_ret
 exact ⟨by first | rfl | (simp [errW_none, errW_some] <;> rfl) | (simp [*, errW_none, errW_some] <;> rfl), by (repeat apply rX); exact HO0_7.out, by repeat (first | (with_reducible first | exact HB.out | apply below_alloc | apply pw_below_drewN | apply below_drew1 | refine below_set ?_ GE294.out) | exact HB.out), by repeat (first | (with_reducible first | exact HK.out | apply Kept.alloc | apply Kept.drewN | apply Kept.drew | refine Kept.setCell ?_ (.inr GW294.out) _) | exact HK.out)⟩
/-! ### laws_heldIntS: function 51 -/
def laws_heldIntS.l0 : Nat → List Int → Int → Int → Option (Int)
 | 0, _, _, _ => none
 | k + 1, x0, x1, x5 => if x5 < (x0.length : Int) then (if 0 ≤ x5 then (if (rd x0 x5) = x1 then (laws_heldIntS.l0 k x0 (wrap64 (x1 + 1)) (wrap64 (x5 + 1))) else (some (-1))) else (none)) else (some x1)
def laws_heldIntS.f (k : Nat) (l0 : List Int) (a1 : Int) : Option (Int) := laws_heldIntS.l0 k l0 a1 0
set_option maxHeartbeats 8000000 in
set_option maxRecDepth 100000 in
theorem laws_heldIntS.calls (k : Nat) (A0 : Option Addr) (c0 : Nat) (l0 : List Int) (a1 : Int) (r : Int) (w : World) (hr0 : Kd.C (Kd.int .i64) w A0 l0.length l0) (hc0 : l0.length ≤ c0) (h : laws_heldIntS.f k l0 a1 = some r) :
  Calls Try.prog 51 #[.slice A0 l0.length c0, .int .i64 a1] w fun e w' => e = .returned (.int .i64 r) ∧ Drawn0 w w' := by
 have HR0 := Aside0.mk hr0
 have HC0 := Aside0.mk hc0
 clear hr0 hc0
 have H : (laws_heldIntS.l0 k l0 a1 0) = some r := h
 clear h
 have H' := Aside0.mk H
 clear H
 go_enter Try.func51, Try.ntmps51
 go_wp2
 go_loopg [1, 5] k (fun kq v1 v5 w' => ∃ (x1_1 : Int) (x5_1 : Int), v1 = .int .i64 x1_1 ∧ v5 = .int .i64 x5_1 ∧ Aside0 (laws_heldIntS.l0 kq l0 x1_1 x5_1 = some r) ∧ Aside0 (kq ≤ k) ∧ Drawn0 w w')
 case atStart => exact ⟨(a1), (0), (by first | rfl | (simp; done) | (simp [*]; done)), (by first | rfl | (simp; done) | (simp [*]; done)), H', ⟨Nat.le_refl _⟩, by repeat (first | exact Drawn0.refl _ | apply Drawn0.step)⟩
 case round =>
  clear H'
  obtain ⟨x1_1, x5_1, rfl, rfl, HA, HK1, ⟨m1, rfl⟩⟩ := hrel
  cases gk with
  | zero => exact absurd HA.out (by simp [laws_heldIntS.l0])
  | succ k1 =>
   have H := HA.out
   clear HA
   simp only [laws_heldIntS.l0] at H
   by_cases c3 : x5_1 < (l0.length : Int)
   rotate_left
   ·rw [if_neg c3] at H
    have c3b0 : decide (x5_1 < (l0.length : Int)) = false := decide_eq_false c3
    clear c3
    obtain rfl := Option.some.inj H
    go_wp2
    go_ret
    exact ⟨by first | rfl | (simp; done) | (simp [*]; done), by repeat (first | exact Drawn0.refl _ | apply Drawn0.step)⟩
   rw [if_pos c3] at H
   have c3b0 : decide (x5_1 < (l0.length : Int)) = true := decide_eq_true c3
   clear c3
   by_cases c4 : 0 ≤ x5_1
   rotate_left
   ·rw [if_neg c4] at H
    exact absurd H (by simp)
   rw [if_pos c4] at H
   have c4b0 : decide (0 ≤ x5_1) = true := decide_eq_true c4
   clear c4
   by_cases c5 : (rd l0 x5_1) = x1_1
   rotate_left
   ·rw [if_neg c5] at H
    have c5b0 : ((rd l0 x5_1) == x1_1) = false := beq_eq_false_iff_ne.mpr c5
    have c5b1 : ((rd l0 x5_1) != x1_1) = true := bne_iff_ne.mpr c5
    obtain rfl := Option.some.inj H
    have p297 : 0 ≤ (x5_1 : Int) := of_decide_eq_true (by first | (with_reducible assumption) | assumption)
    have q297 : x5_1 < (l0.length : Int) := of_decide_eq_true (by first | (with_reducible assumption) | assumption)
    obtain ⟨ad297, e297, hx297_0⟩ := Kd.at_int HR0.out x5_1 p297 q297
    cases e297
    replace p297 := eq_true p297
    replace q297 := eq_true q297
    go_wp2
    go_ret
    exact ⟨by first | rfl | (simp; done) | (simp [*]; done), by repeat (first | exact Drawn0.refl _ | apply Drawn0.step)⟩
   rw [if_pos c5] at H
   have c5b0 : ((rd l0 x5_1) == x1_1) = true := beq_iff_eq.mpr c5
   have c5b1 : ((rd l0 x5_1) != x1_1) = false := bne_eq_false_iff_eq.mpr c5
   clear c5
   have H' := Aside0.mk H
   clear H
   have p297 : 0 ≤ (x5_1 : Int) := of_decide_eq_true (by first | (with_reducible assumption) | assumption)
   have q297 : x5_1 < (l0.length : Int) := of_decide_eq_true (by first | (with_reducible assumption) | assumption)
   obtain ⟨ad297, e297, hx297_0⟩ := Kd.at_int HR0.out x5_1 p297 q297
   cases e297
   replace p297 := eq_true p297
   replace q297 := eq_true q297
   go_wp2
   go_roundg k1
   case measure => have := HK1.out; omega
   case rel => exact ⟨(wrap64 (x1_1 + 1)), (wrap64 (x5_1 + 1)), (by first | rfl | (simp; done) | (simp [*]; done)), (by first | rfl | (simp; done) | (simp [*]; done)), H', ⟨by have := HK1.out; omega⟩, by repeat (first | exact Drawn0.refl _ | apply Drawn0.step)⟩
end Go.Proofs.Ytkapncihoabnmaa.PFnExactReturnCredits
