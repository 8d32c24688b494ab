-- Written by a program of this session (wip/xp): not trusted, Lean checks it.
import Derived.Test.YtlombfmebinjbaaPFnExactChannelOkx0
import Derived.Test.YtlombfmebinjbaaPFnExactChannelOkx1
import Derived.Test.YtlombfmebinjbaaPFnExactChannelOkx2
import Derived.Test.YtlombfmebinjbaaPFnExactChannelOkx4
namespace Go.Proofs.Ytlombfmebinjbaa.PFnExactChannelOk
open Go.RowKit Go.Proofs.YtlombfmebinjbaaW.PrintWords Go.Proofs.YtlombfmebinjbaaW.PrintLast Go.Proofs.YtlombfmebinjbaaW.PrintMore
attribute [local go_sem] max2_int min2_int max_two min_two max_three min_three max_four min_four   -- for this text's walks alone
set_option linter.unusedVariables false
set_option linter.unusedSimpArgs false

/-! ### spec_ChannelOk: function 9 -/
mutual
def spec_ChannelOk.j0 : Nat → Bool → List Int → List Int → List Int → List Int → List (S38) → List (S38) → Option (Bool)
 | 0, _, _, _, _, _, _, _ => none
 | k + 1, x16, x171000, x171001, x171002, x171003, x171004, x171005 => if x16 = true then (some false) else ((spec_l14Copy.f x171002 x171003).bind fun bt173 => ((some (([] : List (S38)) : List (S38))).bind fun y180 => (if y180.length + x171004.length < 1759218604441 then ((some (y180 ++ x171004 : List (S38))).bind fun y183 => (if y183.length + x171005.length < 1759218604441 then (spec_ChannelOk.l0 k (y183 ++ x171005) 0 x171000 x171001 x171002 x171003 x171004 x171005 bt173.1 bt173.2) else (none))) else (none))))
def spec_ChannelOk.l0 : Nat → List (S38) → Int → List Int → List Int → List Int → List Int → List (S38) → List (S38) → List Int → List Int → Option (Bool)
 | 0, _, _, _, _, _, _, _, _, _, _ => none
 | k + 1, x4, x5, x171000, x171001, x171002, x171003, x171004, x171005, x180000, x180001 => if x5 < (x4.length : Int) then (if 0 ≤ x5 then ((spec_ClassOf.f k ((rd_T38 x4 x5).f0) ((rd_T38 x4 x5).f1) ((rd_T38 x4 x5).f2) ((rd_T38 x4 x5).f3) ((rd_T38 x4 x5).f4) ((rd_T38 x4 x5).f5) ((rd_T38 x4 x5).f6) ((rd_T38 x4 x5).f7)).bind fun t191 => (if t191 < 0 then (some false) else (if 0 ≤ t191 then (if t191 < (x180000.length : Int) then (if t191 < (x180001.length : Int) then ((spec_PacketUnits.f k ((rd_T38 x4 x5).f0) ((rd_T38 x4 x5).f1) ((rd_T38 x4 x5).f2) ((rd_T38 x4 x5).f3) ((rd_T38 x4 x5).f4) ((rd_T38 x4 x5).f5) ((rd_T38 x4 x5).f6) ((rd_T38 x4 x5).f7)).bind fun t196 => (spec_ChannelOk.l0 k x4 (wrap64 (x5 + 1)) x171000 x171001 x171002 x171003 x171004 x171005 (x180000.set (t191 : Int).toNat (wrap64 ((rd x180000 t191) + 1))) (x180001.set (t191 : Int).toNat (wrap64 ((rd x180001 t191) + t196))))) else (none)) else (none)) else (none)))) else (none)) else ((spec_SameCredits.f k x180000 x180001 x171000 x171001).bind fun t189 => (some t189))
end
def spec_ChannelOk.f (k : Nat) (l0_0 : List Int) (l0_1 : List Int) (l0_2 : List Int) (l0_3 : List Int) (l0_4 : List (S38)) (l0_5 : List (S38)) : Option (Bool) := (spec_CreditsOk.f k l0_0 l0_1).bind fun t171 => (if t171 = true then ((spec_CreditsOk.f k l0_2 l0_3).bind fun t172 => (spec_ChannelOk.j0 k (!t172) l0_0 l0_1 l0_2 l0_3 l0_4 l0_5)) else (spec_ChannelOk.j0 k true l0_0 l0_1 l0_2 l0_3 l0_4 l0_5))
def spec_ChannelOk.T4 : Bool × List (List Nat × List Nat) := (true, [([], []), ([], []), ([1], [1]), ([0, 2], [0, 2]), ([], []), ([4], [4]), ([3, 5, 3], [3, 5]), ([6, 6, 0, 1, 2, 3, 4, 5, 6], [6])])
def spec_ChannelOk.B4 : List Nat := [0, 0, 2, 7, 0, 16, 63, 127]
theorem spec_ChannelOk.tab4 : rtab .any (opsOf Try.f9 4) = spec_ChannelOk.T4 := by kernel_rfl
theorem spec_ChannelOk.bits4 : waitsOk spec_ChannelOk.T4.2 spec_ChannelOk.B4 = true := by kernel_rfl
def spec_ChannelOk.T11 : Bool × List (List Nat × List Nat) := (true, [([], []), ([0], [0]), ([], []), ([], []), ([3], [3]), ([], []), ([4, 5], [4, 5]), ([6], [6]), ([7], [7]), ([1, 2, 0, 1, 2, 3, 4, 5, 6, 7, 8], [1, 2]), ([9, 8, 0, 1, 2, 3, 4, 5, 6, 7, 8], [8, 9])])
def spec_ChannelOk.B11 : List Nat := [0, 1, 0, 0, 8, 0, 56, 120, 248, 511, 1023]
theorem spec_ChannelOk.tab11 : rtab .any (opsOf Try.f9 11) = spec_ChannelOk.T11 := by kernel_rfl
theorem spec_ChannelOk.bits11 : waitsOk spec_ChannelOk.T11.2 spec_ChannelOk.B11 = true := by kernel_rfl
def spec_ChannelOk.T12 : Bool × List (List Nat × List Nat) := (true, [([], []), ([0], [0]), ([], []), ([], []), ([3], [3]), ([], []), ([4, 5], [4, 5]), ([6], [6]), ([], []), ([], []), ([8, 9], [8, 9]), ([10], [10]), ([11], [11]), ([7, 12], [7, 12]), ([1, 2, 0, 1, 2, 3, 4, 5, 6, 7, 8, 9, 10, 11, 12, 13], [1, 2]), ([14, 13, 12, 0, 1, 2, 3, 4, 5, 6, 7, 8, 9, 10, 11, 12, 13], [13, 14])])
def spec_ChannelOk.B12 : List Nat := [0, 1, 0, 0, 8, 0, 56, 120, 0, 0, 768, 1792, 3840, 8184, 16383, 32767]
theorem spec_ChannelOk.tab12 : rtab .any (opsOf Try.f9 12) = spec_ChannelOk.T12 := by kernel_rfl
theorem spec_ChannelOk.bits12 : waitsOk spec_ChannelOk.T12.2 spec_ChannelOk.B12 = true := by kernel_rfl
set_option maxHeartbeats 8000000 in
set_option maxRecDepth 100000 in
theorem spec_ChannelOk.calls (k : Nat) (A0_0 : Option Addr) (c0_0 : Nat) (l0_0 : List Int) (A0_1 : Option Addr) (c0_1 : Nat) (l0_1 : List Int) (A0_2 : Option Addr) (c0_2 : Nat) (l0_2 : List Int) (A0_3 : Option Addr) (c0_3 : Nat) (l0_3 : List Int) (P0_4_ : Nat → Prop) (A0_4 : Option Addr) (c0_4 : Nat) (l0_4 : List (S38)) (P0_5_ : Nat → Prop) (A0_5 : Option Addr) (c0_5 : Nat) (l0_5 : List (S38)) (r : Bool) (w : World) (hr0_0 : Kd.C (Kd.int .i64) w A0_0 l0_0.length l0_0) (hc0_0 : l0_0.length ≤ c0_0) (hr0_1 : Kd.C (Kd.int .i64) w A0_1 l0_1.length l0_1) (hc0_1 : l0_1.length ≤ c0_1) (hr0_2 : Kd.C (Kd.int .i64) w A0_2 l0_2.length l0_2) (hc0_2 : l0_2.length ≤ c0_2) (hr0_3 : Kd.C (Kd.int .i64) w A0_3 l0_3.length l0_3) (hc0_3 : l0_3.length ≤ c0_3) (hs0_4 : Kd.V k38 38 w w.heap.size (fun k_ => P0_4_ k_) (.slice A0_4 l0_4.length c0_4) l0_4) (hs0_5 : Kd.V k38 38 w w.heap.size (fun k_ => P0_5_ k_) (.slice A0_5 l0_5.length c0_5) l0_5) (h : spec_ChannelOk.f k l0_0 l0_1 l0_2 l0_3 l0_4 l0_5 = some r) :
  Calls Try.prog 9 #[.agg #[.slice A0_0 l0_0.length c0_0, .slice A0_1 l0_1.length c0_1, .slice A0_2 l0_2.length c0_2, .slice A0_3 l0_3.length c0_3, .slice A0_4 l0_4.length c0_4, .slice A0_5 l0_5.length c0_5]] w fun e w' => e = .returned (.bool r) ∧ Below w.heap.size w w' := by
 have hu33 := Try.underlying33
 have hu30 := Try.underlying30
 have hu38 := Try.underlying38
 have HR0_0 := Aside0.mk hr0_0
 have HC0_0 := Aside0.mk hc0_0
 clear hr0_0 hc0_0
 have HR0_1 := Aside0.mk hr0_1
 have HC0_1 := Aside0.mk hc0_1
 clear hr0_1 hc0_1
 have HR0_2 := Aside0.mk hr0_2
 have HC0_2 := Aside0.mk hc0_2
 clear hr0_2 hc0_2
 have HR0_3 := Aside0.mk hr0_3
 have HC0_3 := Aside0.mk hc0_3
 clear hr0_3 hc0_3
 have HO0_4 := Aside0.mk (show Kd.V k38 38 w w.heap.size (fun k_ => ((P0_4_ k_ ∨ P0_5_ k_) ∨ w.heap.size ≤ k_)) (.slice A0_4 l0_4.length c0_4) l0_4 from Kd.V_mono hs0_4 (fun k_ hk => .inl (.inl hk)))
 have HO0_5 := Aside0.mk (show Kd.V k38 38 w w.heap.size (fun k_ => ((P0_4_ k_ ∨ P0_5_ k_) ∨ w.heap.size ≤ k_)) (.slice A0_5 l0_5.length c0_5) l0_5 from Kd.V_mono hs0_5 (fun k_ hk => .inl (.inr hk)))
 have HB := Aside0.mk (Below.refl w.heap.size w)
 have H : ((spec_CreditsOk.f k l0_0 l0_1).bind fun t171 => (if t171 = true then ((spec_CreditsOk.f k l0_2 l0_3).bind fun t172 => (spec_ChannelOk.j0 k (!t172) l0_0 l0_1 l0_2 l0_3 l0_4 l0_5)) else (spec_ChannelOk.j0 k true l0_0 l0_1 l0_2 l0_3 l0_4 l0_5))) = some r := h
 clear h
 have HC2 := Aside0.mk H
 clear H
 go_enter Try.func9, Try.ntmps9
 go_upto_region 1 with (first | ((with_reducible refine gate_dst (N := 1) rfl ?_); refine box_event ?hg (N := 1) ?hd (cs := #[.slice A0_0 l0_0.length c0_0, .slice A0_1 l0_1.length c0_1, .slice A0_2 l0_2.length c0_2, .slice A0_3 l0_3.length c0_3, .slice A0_4 l0_4.length c0_4, .slice A0_5 l0_5.length c0_5]) (t := 33) ?hr ?_; (case hd => rfl); (case hg => rfl); (case hr => first | (go_simp; done) | (go_simp; rfl)); intro gb170 hg w3 hbox hb; have n0_ := Aside0.mk (Kd.V_below (Kd.V_elderB (by (with_reducible repeat (first | apply Kd.V_alloc | apply Kd.V_drewN | apply Kd.V_drew)); exact HO0_4.out) gb170 (Nat.le_of_eq hg.symm)) hb); have n1_ := Aside0.mk (Kd.V_below (Kd.V_elderB (by (with_reducible repeat (first | apply Kd.V_alloc | apply Kd.V_drewN | apply Kd.V_drew)); exact HO0_5.out) gb170 (Nat.le_of_eq hg.symm)) hb); have n2_ := Aside0.mk (below_step (beY HB.out) hb); have n3_ := Aside0.mk (hbox); have n4_ := Aside0.mk ((by rw [hg]; exact (below_size (beY HB.out)) : w.heap.size ≤ gb170)); have n5_ := Aside0.mk ((by rw [hg]; exact (below_size (beY HB.out)) : w.heap.size ≤ gb170)); clear HO0_4; clear HO0_5; clear HB; have HO0_4 := n0_; have HO0_5 := n1_; have HB := n2_; have BK170 := n3_; have GW170 := n4_; have GE170 := n5_; clear n0_ n1_ n2_ n3_ n4_ n5_; clear hb hbox hg))
 (try simp only [Act.put, List.setIfInBounds_toArray, List.set_cons_zero, List.set_cons_succ])
 go_cut [16] (fun v16 wc => ∃ (kq : Nat) (x16_1 : Bool), v16 = .bool x16_1 ∧ Aside0 (spec_ChannelOk.j0 kq x16_1 l0_0 l0_1 l0_2 l0_3 l0_4 l0_5 = some r) ∧ Aside0 (kq ≤ k) ∧ Aside0 (Kd.V k38 38 wc w.heap.size (fun k_ => ((P0_4_ k_ ∨ P0_5_ k_) ∨ w.heap.size ≤ k_) ∧ k_ ≠ gb170) (.slice A0_4 l0_4.length c0_4) l0_4) ∧ Aside0 (Kd.V k38 38 wc w.heap.size (fun k_ => ((P0_4_ k_ ∨ P0_5_ k_) ∨ w.heap.size ≤ k_) ∧ k_ ≠ gb170) (.slice A0_5 l0_5.length c0_5) l0_5) ∧ Aside0 (wc.heap[gb170]? = some (.cells #[(.slice A0_0 l0_0.length c0_0), (.slice A0_1 l0_1.length c0_1), (.slice A0_2 l0_2.length c0_2), (.slice A0_3 l0_3.length c0_3), (.slice A0_4 l0_4.length c0_4), (.slice A0_5 l0_5.length c0_5)] 33 (0, 0))) ∧ Aside0 (Below w.heap.size w wc))
 case first =>
  have H := HC2.out
  clear HC2
  replace H := Option.bind_eq_some_iff.mp H
  obtain ⟨t171, A40, H⟩ := H
  have A4 := Aside0.mk A40
  clear A40
  by_cases c5 : t171 = true
  rotate_left
  ·replace c5 := Bool.eq_false_iff.mpr c5
   subst c5
   have H1 : (spec_ChannelOk.j0 k true l0_0 l0_1 l0_2 l0_3 l0_4 l0_5) = some r := by rw [if_neg (show ¬ (false = true) by decide)] at H; exact H
   clear H
   have H := H1
   clear H1
   have H' := Aside0.mk H
   clear H
   obtain ⟨hcz11_0, hcz11_1, hcz11_2, hcz11_3, hcz11_4, hcz11_5, hfz11_0, hfz11_1, hfz11_2, hfz11_3, hfz11_4, hfz11_5⟩ := b6 BK170.out
   go_wp2_with (first | ((with_reducible refine gate_callee (f := 33) rfl ?_); refine goesL_ (some 9) rfl rfl Try.func33 (by kernel_rfl) rfl #[.agg #[.slice A0_0 l0_0.length c0_0, .slice A0_1 l0_1.length c0_1]] rfl (by (try simp only [List.map_toArray, List.map_cons, List.map_nil]); first | done | rfl) ?_; (with_reducible refine (spec_CreditsOk.calls k _ _ l0_0 _ _ l0_1 false _ ?side1 ?side2 ?side3 ?side4 A4.out).mono ?_); (case side1 => exact cY ((Kd.C_below HR0_0.out HB.out))); (case side2 => exact HC0_0.out); (case side3 => exact cY ((Kd.C_below HR0_1.out HB.out))); (case side4 => exact HC0_1.out); rintro e w12 ⟨rfl, hb⟩; refine ⟨_, rfl, ?_⟩; have n0_ := Aside0.mk (Kd.V_below (by (with_reducible repeat (first | apply Kd.V_alloc | apply Kd.V_drewN | apply Kd.V_drew)); exact HO0_4.out) hb); have n1_ := Aside0.mk (Kd.V_below (by (with_reducible repeat (first | apply Kd.V_alloc | apply Kd.V_drewN | apply Kd.V_drew)); exact HO0_5.out) hb); have n2_ := Aside0.mk (blk_below (bY BK170.out) hb); have n3_ := Aside0.mk (below_step (by repeat (first | (with_reducible first | exact HB.out | apply below_alloc | apply pw_below_drewN | apply below_drew1 | refine below_set ?_ GE170.out) | exact HB.out)) hb); clear HO0_4; clear HO0_5; clear BK170; clear HB; have HO0_4 := n0_; have HO0_5 := n1_; have BK170 := n2_; have HB := n3_; clear n0_ n1_ n2_ n3_; (try clear hb); (try clear hb2); (try clear hk); (try clear hi)))
   go_meet
   case rel => exact ⟨_, (true), (by first | rfl | (simp; done) | (simp [*]; done)), H', ⟨by first | omega | exact Nat.le_refl _⟩, ⟨by (with_reducible repeat (first | apply Kd.V_alloc | apply Kd.V_drewN | apply Kd.V_drew)); exact HO0_4.out⟩, ⟨by (with_reducible repeat (first | apply Kd.V_alloc | apply Kd.V_drewN | apply Kd.V_drew)); exact HO0_5.out⟩, ⟨by (repeat apply bX); exact BK170.out⟩, ⟨by repeat (first | (with_reducible first | exact HB.out | apply below_alloc | apply pw_below_drewN | apply below_drew1 | refine below_set ?_ GE170.out) | exact HB.out)⟩⟩
  subst c5
  have H1 : ((spec_CreditsOk.f k l0_2 l0_3).bind fun t172 => (spec_ChannelOk.j0 k (!t172) l0_0 l0_1 l0_2 l0_3 l0_4 l0_5)) = some r := by rw [if_pos rfl] at H; exact H
  clear H
  have H := H1
  clear H1
  replace H := Option.bind_eq_some_iff.mp H
  obtain ⟨t172, A60, H⟩ := H
  have A6 := Aside0.mk A60
  clear A60
  have H' := Aside0.mk H
  clear H
  obtain ⟨hcz7_0, hcz7_1, hcz7_2, hcz7_3, hcz7_4, hcz7_5, hfz7_0, hfz7_1, hfz7_2, hfz7_3, hfz7_4, hfz7_5⟩ := b6 BK170.out
  go_wp2_with (first | ((with_reducible refine gate_callee (f := 33) rfl ?_); refine goesL_ (some 9) rfl rfl Try.func33 (by kernel_rfl) rfl #[.agg #[.slice A0_0 l0_0.length c0_0, .slice A0_1 l0_1.length c0_1]] rfl (by (try simp only [List.map_toArray, List.map_cons, List.map_nil]); first | done | rfl) ?_; (with_reducible refine (spec_CreditsOk.calls k _ _ l0_0 _ _ l0_1 true _ ?side1 ?side2 ?side3 ?side4 A4.out).mono ?_); (case side1 => exact cY ((Kd.C_below HR0_0.out HB.out))); (case side2 => exact HC0_0.out); (case side3 => exact cY ((Kd.C_below HR0_1.out HB.out))); (case side4 => exact HC0_1.out); rintro e w8 ⟨rfl, hb⟩; refine ⟨_, rfl, ?_⟩; have n0_ := Aside0.mk (Kd.V_below (by (with_reducible repeat (first | apply Kd.V_alloc | apply Kd.V_drewN | apply Kd.V_drew)); exact HO0_4.out) hb); have n1_ := Aside0.mk (Kd.V_below (by (with_reducible repeat (first | apply Kd.V_alloc | apply Kd.V_drewN | apply Kd.V_drew)); exact HO0_5.out) hb); have n2_ := Aside0.mk (blk_below (bY BK170.out) hb); have n3_ := Aside0.mk (below_step (by repeat (first | (with_reducible first | exact HB.out | apply below_alloc | apply pw_below_drewN | apply below_drew1 | refine below_set ?_ GE170.out) | exact HB.out)) hb); clear HO0_4; clear HO0_5; clear BK170; clear HB; have HO0_4 := n0_; have HO0_5 := n1_; have BK170 := n2_; have HB := n3_; clear n0_ n1_ n2_ n3_; (try clear hb); (try clear hb2); (try clear hk); (try clear hi); have hcz9_0 : w8.cell? ⟨gb170, 0, none⟩ = some (.slice A0_0 l0_0.length c0_0) := (blk_cell BK170.out 0).trans rfl; have hcz9_1 : w8.cell? ⟨gb170, 1, none⟩ = some (.slice A0_1 l0_1.length c0_1) := (blk_cell BK170.out 1).trans rfl; have hcz9_2 : w8.cell? ⟨gb170, 2, none⟩ = some (.slice A0_2 l0_2.length c0_2) := (blk_cell BK170.out 2).trans rfl; have hcz9_3 : w8.cell? ⟨gb170, 3, none⟩ = some (.slice A0_3 l0_3.length c0_3) := (blk_cell BK170.out 3).trans rfl; have hcz9_4 : w8.cell? ⟨gb170, 4, none⟩ = some (.slice A0_4 l0_4.length c0_4) := (blk_cell BK170.out 4).trans rfl; have hcz9_5 : w8.cell? ⟨gb170, 5, none⟩ = some (.slice A0_5 l0_5.length c0_5) := (blk_cell BK170.out 5).trans rfl; have hfz9_0 := blk_frozen BK170.out 0; have hfz9_1 := blk_frozen BK170.out 1; have hfz9_2 := blk_frozen BK170.out 2; have hfz9_3 := blk_frozen BK170.out 3; have hfz9_4 := blk_frozen BK170.out 4; have hfz9_5 := blk_frozen BK170.out 5) | (go_at_call 33; (with_reducible refine (spec_CreditsOk.calls k _ _ l0_2 _ _ l0_3 t172 _ ?side1 ?side2 ?side3 ?side4 A6.out).mono ?_); (case side1 => exact cY ((Kd.C_below HR0_2.out HB.out))); (case side2 => exact HC0_2.out); (case side3 => exact cY ((Kd.C_below HR0_3.out HB.out))); (case side4 => exact HC0_3.out); rintro e w10 ⟨rfl, hb⟩; have n0_ := Aside0.mk (Kd.V_below (by (with_reducible repeat (first | apply Kd.V_alloc | apply Kd.V_drewN | apply Kd.V_drew)); exact HO0_4.out) hb); have n1_ := Aside0.mk (Kd.V_below (by (with_reducible repeat (first | apply Kd.V_alloc | apply Kd.V_drewN | apply Kd.V_drew)); exact HO0_5.out) hb); have n2_ := Aside0.mk (blk_below (bY BK170.out) hb); have n3_ := Aside0.mk (below_step (by repeat (first | (with_reducible first | exact HB.out | apply below_alloc | apply pw_below_drewN | apply below_drew1 | refine below_set ?_ GE170.out) | exact HB.out)) hb); clear HO0_4; clear HO0_5; clear BK170; clear HB; have HO0_4 := n0_; have HO0_5 := n1_; have BK170 := n2_; have HB := n3_; clear n0_ n1_ n2_ n3_; (try clear hb); (try clear hb2); (try clear hk); (try clear hi)))
  go_meet
  case rel => exact ⟨_, (!t172), (by first | rfl | (simp; done) | (simp [*]; done)), H', ⟨by first | omega | exact Nat.le_refl _⟩, ⟨by (with_reducible repeat (first | apply Kd.V_alloc | apply Kd.V_drewN | apply Kd.V_drew)); exact HO0_4.out⟩, ⟨by (with_reducible repeat (first | apply Kd.V_alloc | apply Kd.V_drewN | apply Kd.V_drew)); exact HO0_5.out⟩, ⟨by (repeat apply bX); exact BK170.out⟩, ⟨by repeat (first | (with_reducible first | exact HB.out | apply below_alloc | apply pw_below_drewN | apply below_drew1 | refine below_set ?_ GE170.out) | exact HB.out)⟩⟩
 case rest =>
  clear HC2
  obtain ⟨kq, x16_1, rfl, HA, HJ1, HO_171004, HO_171005, BK170, HB⟩ := hcut
  cases kq with
  | zero => exact absurd HA.out (by simp [spec_ChannelOk.j0])
  | succ kj1 =>
   have H := HA.out
   clear HA
   simp only [spec_ChannelOk.j0] at H
   by_cases c13 : x16_1 = true
   ·subst c13
    have H1 : (some false) = some r := by rw [if_pos rfl] at H; exact H
    clear H
    have H := H1
    clear H1
    obtain rfl := Option.some.inj H
    go_wp2
    go_ret
    exact ⟨by first | rfl | (simp [errW_none, errW_some] <;> rfl) | (simp [*, errW_none, errW_some] <;> rfl), by repeat (first | (with_reducible first | exact HB.out | apply below_alloc | apply pw_below_drewN | apply below_drew1 | refine below_set ?_ GE170.out) | exact HB.out)⟩
   replace c13 := Bool.eq_false_iff.mpr c13
   subst c13
   have H1 : ((spec_l14Copy.f l0_2 l0_3).bind fun bt173 => ((some (([] : List (S38)) : List (S38))).bind fun y180 => (if y180.length + l0_4.length < 1759218604441 then ((some (y180 ++ l0_4 : List (S38))).bind fun y183 => (if y183.length + l0_5.length < 1759218604441 then (spec_ChannelOk.l0 kj1 (y183 ++ l0_5) 0 l0_0 l0_1 l0_2 l0_3 l0_4 l0_5 bt173.1 bt173.2) else (none))) else (none)))) = some r := by rw [if_neg (show ¬ (false = true) by decide)] at H; exact H
   clear H
   have H := H1
   clear H1
   replace H := Option.bind_eq_some_iff.mp H
   obtain ⟨⟨t173, t176⟩, A140, H⟩ := H
   replace H : ((some (([] : List (S38)) : List (S38))).bind fun y180 => (if y180.length + l0_4.length < 1759218604441 then ((some (y180 ++ l0_4 : List (S38))).bind fun y183 => (if y183.length + l0_5.length < 1759218604441 then (spec_ChannelOk.l0 kj1 (y183 ++ l0_5) 0 l0_0 l0_1 l0_2 l0_3 l0_4 l0_5 t173 t176) else (none))) else (none))) = some r := H
   have A14 := Aside0.mk A140
   clear A140
   obtain ⟨y180, hy180⟩ : ∃ y_ : List (S38), y_ = (([] : List (S38))) := ⟨_, rfl⟩
   replace H : (if y180.length + l0_4.length < 1759218604441 then ((some (y180 ++ l0_4 : List (S38))).bind fun y183 => (if y183.length + l0_5.length < 1759218604441 then (spec_ChannelOk.l0 kj1 (y183 ++ l0_5) 0 l0_0 l0_1 l0_2 l0_3 l0_4 l0_5 t173 t176) else (none))) else (none)) = some r := by first | (rw [hy180]; with_reducible exact H) | (have H2_ := (Option.bind_some _ _).symm.trans H; rw [hy180]; with_reducible exact H2_) | (have H2_ := (Option.bind_some _ _).symm.trans H; with_reducible exact H2_) | with_reducible exact H | (rw [hy180]; exact H) | exact H
   have Ny180 := Aside0.mk hy180
   clear hy180
   by_cases c15 : y180.length + l0_4.length < 1759218604441
   rotate_left
   ·rw [if_neg c15] at H
    exact absurd H (by simp)
   rw [if_pos c15] at H
   have LMc15 := Aside0.mk c15
   clear c15
   obtain ⟨y183, hy183⟩ : ∃ y_ : List (S38), y_ = (y180 ++ l0_4) := ⟨_, rfl⟩
   replace H : (if y183.length + l0_5.length < 1759218604441 then (spec_ChannelOk.l0 kj1 (y183 ++ l0_5) 0 l0_0 l0_1 l0_2 l0_3 l0_4 l0_5 t173 t176) else (none)) = some r := by first | (rw [hy183]; with_reducible exact H) | (have H2_ := (Option.bind_some _ _).symm.trans H; rw [hy183]; with_reducible exact H2_) | (have H2_ := (Option.bind_some _ _).symm.trans H; with_reducible exact H2_) | with_reducible exact H | (rw [hy183]; exact H) | exact H
   have Ny183 := Aside0.mk hy183
   clear hy183
   by_cases c16 : y183.length + l0_5.length < 1759218604441
   rotate_left
   ·rw [if_neg c16] at H
    exact absurd H (by simp)
   rw [if_pos c16] at H
   have LMc16 := Aside0.mk c16
   clear c16
   obtain ⟨y186, hy186⟩ : ∃ y_ : List (S38), y_ = (y183 ++ l0_5) := ⟨_, rfl⟩
   replace H : (spec_ChannelOk.l0 kj1 y186 0 l0_0 l0_1 l0_2 l0_3 l0_4 l0_5 t173 t176) = some r := by first | (rw [hy186]; with_reducible exact H) | (have H2_ := (Option.bind_some _ _).symm.trans H; rw [hy186]; with_reducible exact H2_) | (have H2_ := (Option.bind_some _ _).symm.trans H; with_reducible exact H2_) | with_reducible exact H | (rw [hy186]; exact H) | exact H
   have Ny186 := Aside0.mk hy186
   clear hy186
   have H' := Aside0.mk H
   clear H
   obtain ⟨hcz17_0, hcz17_1, hcz17_2, hcz17_3, hcz17_4, hcz17_5, hfz17_0, hfz17_1, hfz17_2, hfz17_3, hfz17_4, hfz17_5⟩ := b6 BK170.out
   try go_wp2_with (first | ((with_reducible refine gate_callee (f := 34) rfl ?_); refine goesL_ (some 19) rfl rfl Try.func34 (by kernel_rfl) rfl #[.agg #[.slice A0_2 l0_2.length c0_2, .slice A0_3 l0_3.length c0_3]] rfl (by (try simp only [List.map_toArray, List.map_cons, List.map_nil]); first | done | rfl) ?_; (with_reducible refine (spec_l14Copy.calls _ _ l0_2 _ _ l0_3 t173 t176 _ ?side1 ?side2 ?side3 ?side4 A14.out).mono ?_); (case side1 => exact cY ((Kd.C_below HR0_2.out HB.out))); (case side2 => exact HC0_2.out); (case side3 => exact cY ((Kd.C_below HR0_3.out HB.out))); (case side4 => exact HC0_3.out); rintro e w18 ⟨v174, v177, rfl, ho0, ho1, hb⟩; refine ⟨_, rfl, ?_⟩; have n0_ := Aside0.mk (Kd.V_mono (Kd.V_told (Kd.V_told (Kd.V_old (by (with_reducible repeat (first | apply Kd.V_alloc | apply Kd.V_drewN | apply Kd.V_drew)); exact HO_171004.out) hb) (Kd.R_base ho0)) (Kd.R_base ho1)) (fun _ h_ => h_.1)); have n1_ := Aside0.mk (Kd.V_mono (Kd.V_told (Kd.V_told (Kd.V_old (by (with_reducible repeat (first | apply Kd.V_alloc | apply Kd.V_drewN | apply Kd.V_drew)); exact HO_171005.out) hb) (Kd.R_base ho0)) (Kd.R_base ho1)) (fun _ h_ => h_.1)); have n2_ := Aside0.mk (Kd.R_lower (Kd.R_newM (M := fun k_ => (w.heap.size ≤ k_)) ho0 (below_size (by repeat (first | (with_reducible first | exact HB.out | apply below_alloc | apply pw_below_drewN | apply below_drew1 | refine below_set ?_ GE170.out) | exact HB.out))) (fun k_ h_ => h_)) (below_size (by repeat (first | (with_reducible first | exact HB.out | apply below_alloc | apply pw_below_drewN | apply below_drew1 | refine below_set ?_ GE170.out) | exact HB.out)))); have n3_ := Aside0.mk (Kd.R_lower (Kd.R_newM (M := fun k_ => (w.heap.size ≤ k_)) ho1 (below_size (by repeat (first | (with_reducible first | exact HB.out | apply below_alloc | apply pw_below_drewN | apply below_drew1 | refine below_set ?_ GE170.out) | exact HB.out))) (fun k_ h_ => h_)) (below_size (by repeat (first | (with_reducible first | exact HB.out | apply below_alloc | apply pw_below_drewN | apply below_drew1 | refine below_set ?_ GE170.out) | exact HB.out)))); have n4_ := Aside0.mk (blk_below (bY BK170.out) hb); have n5_ := Aside0.mk (below_step (by repeat (first | (with_reducible first | exact HB.out | apply below_alloc | apply pw_below_drewN | apply below_drew1 | refine below_set ?_ GE170.out) | exact HB.out)) hb); clear HO_171004; clear HO_171005; clear BK170; clear HB; have HO_171004 := n0_; have HO_171005 := n1_; have HO175 := n2_; have HO178 := n3_; have BK170 := n4_; have HB := n5_; clear n0_ n1_ n2_ n3_ n4_ n5_; (try clear hb); (try clear hb2); (try clear hk); (try clear hi); (try clear ho0); (try clear ho1)) | ((with_reducible refine gate_dst (N := 3) rfl ?_); refine box_event ?hg (N := 3) ?hd (cs := #[.slice none 0 0, .slice none 0 0]) (t := 30) ?hr ?_; (case hd => rfl); (case hg => rfl); (case hr => first | (go_simp; done) | (go_simp; rfl)); intro gb179 hg w19 hbox hb; have n0_ := Aside0.mk (Kd.V_below (Kd.V_elderB (by (with_reducible repeat (first | apply Kd.V_alloc | apply Kd.V_drewN | apply Kd.V_drew)); exact HO_171004.out) gb179 (Nat.le_of_eq hg.symm)) hb); have n1_ := Aside0.mk (Kd.V_below (Kd.V_elderB (by (with_reducible repeat (first | apply Kd.V_alloc | apply Kd.V_drewN | apply Kd.V_drew)); exact HO_171005.out) gb179 (Nat.le_of_eq hg.symm)) hb); have n2_ := Aside0.mk (Kd.R_below (rY HO175.out) hb); have n3_ := Aside0.mk (Kd.R_below (rY HO178.out) hb); have n4_ := Aside0.mk (blk_below (bY BK170.out) hb); have n5_ := Aside0.mk (below_step (by repeat (first | (with_reducible first | exact HB.out | apply below_alloc | apply pw_below_drewN | apply below_drew1 | refine below_set ?_ GE170.out) | exact HB.out)) hb); have n6_ := Aside0.mk (hbox); have n7_ := Aside0.mk ((by rw [hg]; exact (below_size (by repeat (first | (with_reducible first | exact HB.out | apply below_alloc | apply pw_below_drewN | apply below_drew1 | refine below_set ?_ GE170.out) | exact HB.out))) : w.heap.size ≤ gb179)); have n8_ := Aside0.mk ((by rw [hg]; exact (below_size (by repeat (first | (with_reducible first | exact HB.out | apply below_alloc | apply pw_below_drewN | apply below_drew1 | refine below_set ?_ GE170.out) | exact HB.out))) : w.heap.size ≤ gb179)); have n9_ := Aside0.mk ((by rw [hg]; exact Nat.ne_of_lt (blk_lt (bY BK170.out)) : gb170 ≠ gb179)); have n10_ := Aside0.mk ((by rw [hg]; exact Nat.ne_of_gt (blk_lt (bY BK170.out)) : gb179 ≠ gb170)); clear HO_171004; clear HO_171005; clear HO175; clear HO178; clear BK170; clear HB; have HO_171004 := n0_; have HO_171005 := n1_; have HO175 := n2_; have HO178 := n3_; have BK170 := n4_; have HB := n5_; have BK179 := n6_; have GW179 := n7_; have GE179 := n8_; have NB170_179 := n9_; have NB179_170 := n10_; clear n0_ n1_ n2_ n3_ n4_ n5_ n6_ n7_ n8_ n9_ n10_; clear hb hbox hg; obtain ⟨Ao20, co20, eo20⟩ := Kd.R_slice HO175.out; subst eo20; have hnb21 := NB179_170.out; have hnc21 := NB170_179.out; have hcz22_0 : w19.cell? ⟨gb179, 0, none⟩ = some (.slice none 0 0) := (blk_cell BK179.out 0).trans rfl; have hcz22_1 : w19.cell? ⟨gb179, 1, none⟩ = some (.slice none 0 0) := (blk_cell BK179.out 1).trans rfl; have hfz22_0 := blk_frozen BK179.out 0; have hfz22_1 := blk_frozen BK179.out 1; obtain ⟨Ao23, co23, eo23⟩ := Kd.R_slice HO178.out; subst eo23))
   have n0_ : Aside0 (Kd.V k38 38 ((w19.setCell ⟨gb179, 0, none⟩ (.slice Ao20 t173.length co20)).setCell ⟨gb179, 1, none⟩ (.slice Ao23 t176.length co23)) w.heap.size (fun k_ => ((P0_4_ k_ ∨ P0_5_ k_) ∨ w.heap.size ≤ k_) ∧ some k_ ≠ (.slice Ao20 t173.length co20 : Value).ownBlock ∧ some k_ ≠ (.slice Ao23 t176.length co23 : Value).ownBlock ∧ k_ ≠ gb170 ∧ k_ ≠ gb179) (.slice A0_4 l0_4.length c0_4) l0_4) := ⟨by (with_reducible repeat (first | apply Kd.V_alloc | apply Kd.V_drewN | apply Kd.V_drew)); exact Kd.V_mono (Kd.V_far (p := ⟨gb179, 1, none⟩) (Kd.V_far (p := ⟨gb179, 0, none⟩) (Kd.V_mono HO_171004.out (fun k_ hk => (⟨hk, hk.2⟩ : _ ∧ k_ ≠ gb179))) (fun _ hk => hk.2) (.slice Ao20 t173.length co20)) (fun _ hk => hk.2) (.slice Ao23 t176.length co23)) (fun _ hk => ⟨hk.1.1.1.1.1, ⟨hk.1.1.1.2, ⟨hk.1.1.2, ⟨hk.1.1.1.1.2, hk.1.2⟩⟩⟩⟩)⟩
   have n1_ : Aside0 (Kd.V k38 38 ((w19.setCell ⟨gb179, 0, none⟩ (.slice Ao20 t173.length co20)).setCell ⟨gb179, 1, none⟩ (.slice Ao23 t176.length co23)) w.heap.size (fun k_ => ((P0_4_ k_ ∨ P0_5_ k_) ∨ w.heap.size ≤ k_) ∧ some k_ ≠ (.slice Ao20 t173.length co20 : Value).ownBlock ∧ some k_ ≠ (.slice Ao23 t176.length co23 : Value).ownBlock ∧ k_ ≠ gb170 ∧ k_ ≠ gb179) (.slice A0_5 l0_5.length c0_5) l0_5) := ⟨by (with_reducible repeat (first | apply Kd.V_alloc | apply Kd.V_drewN | apply Kd.V_drew)); exact Kd.V_mono (Kd.V_far (p := ⟨gb179, 1, none⟩) (Kd.V_far (p := ⟨gb179, 0, none⟩) (Kd.V_mono HO_171005.out (fun k_ hk => (⟨hk, hk.2⟩ : _ ∧ k_ ≠ gb179))) (fun _ hk => hk.2) (.slice Ao20 t173.length co20)) (fun _ hk => hk.2) (.slice Ao23 t176.length co23)) (fun _ hk => ⟨hk.1.1.1.1.1, ⟨hk.1.1.1.2, ⟨hk.1.1.2, ⟨hk.1.1.1.1.2, hk.1.2⟩⟩⟩⟩)⟩
   have n2_ : Aside0 (Kd.R (Kd.int .i64) 3 ((w19.setCell ⟨gb179, 0, none⟩ (.slice Ao20 t173.length co20)).setCell ⟨gb179, 1, none⟩ (.slice Ao23 t176.length co23)) w.heap.size (fun k_ => (w.heap.size ≤ k_) ∧ some k_ ≠ (.slice Ao23 t176.length co23 : Value).ownBlock) (.slice Ao20 t173.length co20) t173) := ⟨by (repeat apply rX); exact Kd.R_mono (Kd.R_far (p := ⟨gb179, 1, none⟩) (Kd.R_far (p := ⟨gb179, 0, none⟩) (Kd.R_types HO175.out BK179.out (by decide)) (fun _ hk => hk.2) (.slice Ao20 t173.length co20)) (fun _ hk => hk.2) (.slice Ao23 t176.length co23)) (fun _ hk => ⟨hk.1.1, hk.1.2⟩)⟩
   have n3_ : Aside0 (Kd.R (Kd.int .i64) 3 ((w19.setCell ⟨gb179, 0, none⟩ (.slice Ao20 t173.length co20)).setCell ⟨gb179, 1, none⟩ (.slice Ao23 t176.length co23)) w.heap.size (fun k_ => (w.heap.size ≤ k_) ∧ some k_ ≠ (.slice Ao20 t173.length co20 : Value).ownBlock) (.slice Ao23 t176.length co23) t176) := ⟨by (repeat apply rX); exact Kd.R_mono (Kd.R_far (p := ⟨gb179, 1, none⟩) (Kd.R_far (p := ⟨gb179, 0, none⟩) (Kd.R_types HO178.out BK179.out (by decide)) (fun _ hk => hk.2) (.slice Ao20 t173.length co20)) (fun _ hk => hk.2) (.slice Ao23 t176.length co23)) (fun _ hk => ⟨hk.1.1, hk.1.2⟩)⟩
   have n4_ : Aside0 (((w19.setCell ⟨gb179, 0, none⟩ (.slice Ao20 t173.length co20)).setCell ⟨gb179, 1, none⟩ (.slice Ao23 t176.length co23)).heap[gb170]? = some (.cells #[.slice A0_0 l0_0.length c0_0, .slice A0_1 l0_1.length c0_1, .slice A0_2 l0_2.length c0_2, .slice A0_3 l0_3.length c0_3, .slice A0_4 l0_4.length c0_4, .slice A0_5 l0_5.length c0_5] 33 (0, 0))) := ⟨by (repeat apply bX); refine blk_far ?_ NB170_179.out _; (repeat apply bX); refine blk_far ?_ NB170_179.out _; (repeat apply bX); exact BK170.out⟩
   have n5_ : Aside0 (((w19.setCell ⟨gb179, 0, none⟩ (.slice Ao20 t173.length co20)).setCell ⟨gb179, 1, none⟩ (.slice Ao23 t176.length co23)).heap[gb179]? = some (.cells #[.slice Ao20 t173.length co20, .slice Ao23 t176.length co23] 30 (0, 0))) := ⟨by (repeat apply bX); refine blk_put (cs := #[.slice Ao20 t173.length co20, .slice none 0 0]) ?_ 1 _ rfl; (repeat apply bX); refine blk_put (cs := #[.slice none 0 0, .slice none 0 0]) ?_ 0 _ rfl; (repeat apply bX); exact BK179.out⟩
   have n6_ : Aside0 (Below w.heap.size w ((w19.setCell ⟨gb179, 0, none⟩ (.slice Ao20 t173.length co20)).setCell ⟨gb179, 1, none⟩ (.slice Ao23 t176.length co23))) := ⟨by repeat (first | (with_reducible first | exact HB.out | apply below_alloc | apply pw_below_drewN | apply below_drew1 | refine below_set ?_ GE170.out | refine below_set ?_ GE179.out) | exact HB.out)⟩
   generalize ((w19.setCell ⟨gb179, 0, none⟩ (.slice Ao20 t173.length co20)).setCell ⟨gb179, 1, none⟩ (.slice Ao23 t176.length co23)) = w24 at n0_ n1_ n2_ n3_ n4_ n5_ n6_ ⊢
   have HO_171004 := n0_
   have HO_171005 := n1_
   have HO175 := n2_
   have HO178 := n3_
   have BK170 := n4_
   have BK179 := n5_
   have HB := n6_
   clear n0_ n1_ n2_ n3_ n4_ n5_ n6_
   have n0_ := Aside0.mk (Kd.V_drew HO_171004.out)
   have n1_ := Aside0.mk (Kd.V_drew HO_171005.out)
   have n2_ := Aside0.mk (Kd.R_drew HO175.out)
   have n3_ := Aside0.mk (Kd.R_drew HO178.out)
   have n4_ := Aside0.mk (blk_drew BK170.out)
   have n5_ := Aside0.mk (blk_drew BK179.out)
   have n6_ := Aside0.mk (below_drew1 HB.out)
   clear HO_171004
   clear HO_171005
   clear HO175
   clear HO178
   clear BK170
   clear BK179
   clear HB
   have HO_171004 := n0_
   have HO_171005 := n1_
   have HO175 := n2_
   have HO178 := n3_
   have BK170 := n4_
   have BK179 := n5_
   have HB := n6_
   clear n0_ n1_ n2_ n3_ n4_ n5_ n6_
   refine start_ (n := 8) (S := fun w' => w'.cell? ⟨gb170, 0, none⟩ = some (.slice A0_0 l0_0.length c0_0) ∧ w'.cell? ⟨gb170, 1, none⟩ = some (.slice A0_1 l0_1.length c0_1) ∧ w'.cell? ⟨gb170, 2, none⟩ = some (.slice A0_2 l0_2.length c0_2) ∧ w'.cell? ⟨gb170, 3, none⟩ = some (.slice A0_3 l0_3.length c0_3) ∧ w'.cell? ⟨gb170, 4, none⟩ = some (.slice A0_4 l0_4.length c0_4) ∧ w'.cell? ⟨gb170, 5, none⟩ = some (.slice A0_5 l0_5.length c0_5)) (ds := []) #[F, F, F, F, F, F, F, F] (by kernel_rfl) rfl rfl ⟨(blk_cell BK170.out 0).trans rfl, (blk_cell BK170.out 1).trans rfl, (blk_cell BK170.out 2).trans rfl, (blk_cell BK170.out 3).trans rfl, (blk_cell BK170.out 4).trans rfl, (blk_cell BK170.out 5).trans rfl⟩ (fun hHeld => ?_); refine with_tabW spec_ChannelOk.tab4 spec_ChannelOk.bits4 (fun HT_ HW_ => ?_)
   generalize w24.drew = w25 at HO_171004 HO_171005 HO175 HO178 BK170 BK179 HB hHeld ⊢
   refine pure_ (i := 1) (N := some 21) (v := ?_) (a' := ?_) #[F, T, F, F, F, F, F, F] rfl rfl (any_of HT_.out (by kernel_rfl)) (fun _ _ _ h => h) (Or.inl ⟨by rfl, ?_⟩) ?_ ?_
   rotate_left
   ·intro w'
    go_simp
    with_reducible rfl
   rotate_left
   ·simp only [pS]
    rfl
   refine pure_ (i := 4) (N := some 24) (v := ?_) (a' := ?_) #[F, T, F, F, T, F, F, F] rfl rfl (any_of HT_.out (by kernel_rfl)) (fun _ _ _ h => h) (Or.inl ⟨by rfl, ?_⟩) ?_ ?_
   rotate_left
   ·intro w'
    go_simp
    with_reducible rfl
   rotate_left
   ·simp only [pS]
    rfl
   refine take_ (i := 2) (N := some 22) (v := ?_) (a' := ?_) #[F, T, T, F, T, F, F, F] rfl rfl (take_ofW HT_.out HW_.out (by kernel_rfl)) (fun _ _ _ h => h) (Or.inl ⟨by rfl, ?_⟩) hHeld ?_ ?_
   rotate_left
   ·rintro w' ⟨s0, s1, s2, s3, s4, s5⟩
    go_simp
    with_reducible rfl
   rotate_left
   ·simp only [pS]
    rfl
   refine take_ (i := 5) (N := some 25) (v := ?_) (a' := ?_) #[F, T, T, F, T, T, F, F] rfl rfl (take_ofW HT_.out HW_.out (by kernel_rfl)) (fun _ _ _ h => h) (Or.inl ⟨by rfl, ?_⟩) hHeld ?_ ?_
   rotate_left
   ·rintro w' ⟨s0, s1, s2, s3, s4, s5⟩
    go_simp
    with_reducible rfl
   rotate_left
   ·simp only [pS]
    rfl
   refine one_ (i := 0) (N := some 20) #[T, T, T, F, T, T, F, F] rfl rfl (one_of HT_.out (by kernel_rfl)) (by decide) (fun K hK => ?_)
   refine Kd.N_lit_step k38 _ 38 ?hg (N' := 20) ?hd (xs := ([] : List (S38))) (inner := []) (ok := (fun k_ => ((P0_4_ k_ ∨ P0_5_ k_) ∨ w.heap.size ≤ k_) ∧ some k_ ≠ (.slice Ao20 t173.length co20 : Value).ownBlock ∧ some k_ ≠ (.slice Ao23 t176.length co23 : Value).ownBlock ∧ k_ ≠ gb170 ∧ k_ ≠ gb179)) (okp := (fun k_ => ((P0_4_ k_ ∨ P0_5_ k_) ∨ w.heap.size ≤ k_) ∧ some k_ ≠ (.slice Ao20 t173.length co20 : Value).ownBlock ∧ some k_ ≠ (.slice Ao23 t176.length co23 : Value).ownBlock ∧ k_ ≠ gb170 ∧ k_ ≠ gb179)) ?hr ?hp (fun _ hk => hk) ((show ∀ k_, w25.heap.size ≤ k_ → (fun k_ => ((P0_4_ k_ ∨ P0_5_ k_) ∨ w.heap.size ≤ k_) ∧ some k_ ≠ (.slice Ao20 t173.length co20 : Value).ownBlock ∧ some k_ ≠ (.slice Ao23 t176.length co23 : Value).ownBlock ∧ k_ ≠ gb170 ∧ k_ ≠ gb179) k_ from fun k_ hk => ⟨(.inr (Nat.le_trans (below_size (by repeat (first | (with_reducible first | exact HB.out | apply below_alloc | apply pw_below_drewN | apply below_drew1 | refine below_set ?_ GE170.out | refine below_set ?_ GE179.out) | exact HB.out))) hk)), Kd.fresh' (Kd.R_lt (rY HO175.out)) k_ hk, Kd.fresh' (Kd.R_lt (rY HO178.out)) k_ hk, Kd.freshB (g := gb170) (o := .cells #[.slice A0_0 l0_0.length c0_0, .slice A0_1 l0_1.length c0_1, .slice A0_2 l0_2.length c0_2, .slice A0_3 l0_3.length c0_3, .slice A0_4 l0_4.length c0_4, .slice A0_5 l0_5.length c0_5] 33 (0, 0)) (bY BK170.out) k_ hk, Kd.freshB (g := gb179) (o := .cells #[.slice Ao20 t173.length co20, .slice Ao23 t176.length co23] 30 (0, 0)) (bY BK179.out) k_ hk⟩) _ (Nat.le_refl _)) (Below.refl _ _) (Nat.le_refl _) (by simp) ?_; (case hd => rfl); (case hg => rfl); (case hr => first | (go_simp; done) | (go_simp; rfl)); (case hp => exact (Reps.none _ _))
   intro v181 w26 ho27 hb hg_ hnew_
   clear hg_ hnew_
   (first | rw [← Ny180.out] at ho27 | (simp only [Int.reduceToNat] at ho27; rw [← Ny180.out] at ho27))
   have n0_ := Aside0.mk (Kd.V_elder' (by (with_reducible repeat (first | apply Kd.V_alloc | apply Kd.V_drewN | apply Kd.V_drew)); exact HO_171004.out) (Kd.N_base ho27) hb)
   have n1_ := Aside0.mk (Kd.V_elder' (by (with_reducible repeat (first | apply Kd.V_alloc | apply Kd.V_drewN | apply Kd.V_drew)); exact HO_171005.out) (Kd.N_base ho27) hb)
   have n2_ := Aside0.mk (Kd.R_below (rY HO175.out) hb)
   have n3_ := Aside0.mk (Kd.R_below (rY HO178.out) hb)
   have n4_ := Aside0.mk (Kd.N_lower ho27 (below_size (by repeat (first | (with_reducible first | exact HB.out | apply below_alloc | apply pw_below_drewN | apply below_drew1 | refine below_set ?_ GE170.out | refine below_set ?_ GE179.out) | exact HB.out))))
   have n5_ := Aside0.mk (blk_below (bY BK170.out) hb)
   have n6_ := Aside0.mk (blk_below (bY BK179.out) hb)
   have n7_ := Aside0.mk (below_step (by repeat (first | (with_reducible first | exact HB.out | apply below_alloc | apply pw_below_drewN | apply below_drew1 | refine below_set ?_ GE170.out | refine below_set ?_ GE179.out) | exact HB.out)) hb)
   clear HO_171004
   clear HO_171005
   clear HO175
   clear HO178
   clear BK170
   clear BK179
   clear HB
   have HO_171004 := n0_
   have HO_171005 := n1_
   have HO175 := n2_
   have HO178 := n3_
   have HO182 := n4_
   have BK170 := n5_
   have BK179 := n6_
   have HB := n7_
   clear n0_ n1_ n2_ n3_ n4_ n5_ n6_ n7_
   clear hb ho27
   refine hK.out _ _ ⟨(blk_cell BK170.out 0).trans rfl, (blk_cell BK170.out 1).trans rfl, (blk_cell BK170.out 2).trans rfl, (blk_cell BK170.out 3).trans rfl, (blk_cell BK170.out 4).trans rfl, (blk_cell BK170.out 5).trans rfl⟩ (fun hHeld => ?_)
   clear hK K
   refine norm_ (a' := ?_) ?_ ?_
   rotate_left
   ·show Act.put _ (some 20) _ = _
    simp only [pS]
    rfl
   refine one_ (i := 3) (N := some 23) #[T, T, T, T, T, T, F, F] rfl rfl (one_of HT_.out (by kernel_rfl)) (by decide) (fun K hK => ?_)
   refine Kd.N_append_rows_step k38 (w0 := w) w.heap.size (by rfl) (.tmp 20) (.tmp 22) 31 38 (.agg #[(.int .i64 0), (.int .i64 0), (.int .i64 0), (.int .i64 0), (.int .i64 0), (.int .i64 0), (.int .i64 0), (.slice none 0 0)]) 80 rfl Try.underlying31 info38 rfl (by decide) (by omega) v181 y180 l0_4 _ _ _ (fun k_ => ((P0_4_ k_ ∨ P0_5_ k_) ∨ w.heap.size ≤ k_) ∧ some k_ ≠ (.slice Ao20 t173.length co20 : Value).ownBlock ∧ some k_ ≠ (.slice Ao23 t176.length co23 : Value).ownBlock ∧ k_ ≠ gb170 ∧ k_ ≠ gb179) (fun k_ => ((fun k_ => ((P0_4_ k_ ∨ P0_5_ k_) ∨ w.heap.size ≤ k_) ∧ some k_ ≠ (.slice Ao20 t173.length co20 : Value).ownBlock ∧ some k_ ≠ (.slice Ao23 t176.length co23 : Value).ownBlock ∧ k_ ≠ gb170 ∧ k_ ≠ gb179)) k_ ∧ some k_ ≠ (v181 : Value).ownBlock) rfl rfl ?aO ?aR (fun _ hk => hk) ?aF ?aB ?aS ?aL ?_
   (case aR => exact (by skip; exact Kd.V_F (Kd.V_mono (ok' := (fun k_ => ((fun k_ => ((P0_4_ k_ ∨ P0_5_ k_) ∨ w.heap.size ≤ k_) ∧ some k_ ≠ (.slice Ao20 t173.length co20 : Value).ownBlock ∧ some k_ ≠ (.slice Ao23 t176.length co23 : Value).ownBlock ∧ k_ ≠ gb170 ∧ k_ ≠ gb179)) k_ ∧ some k_ ≠ (v181 : Value).ownBlock)) (HO_171004.out) (fun k_ hk => ⟨⟨hk.1.1, ⟨hk.1.2.1, ⟨hk.1.2.2.1, ⟨hk.1.2.2.2.1, hk.1.2.2.2.2⟩⟩⟩⟩, hk.2⟩))))
   (case aB => exact (by repeat (first | (with_reducible first | exact HB.out | apply below_alloc | apply pw_below_drewN | apply below_drew1 | refine below_set ?_ GE170.out | refine below_set ?_ GE179.out) | exact HB.out)))
   (case aF => exact (fun k_ hk => ⟨(.inr (Nat.le_trans (below_size (by repeat (first | (with_reducible first | exact HB.out | apply below_alloc | apply pw_below_drewN | apply below_drew1 | refine below_set ?_ GE170.out | refine below_set ?_ GE179.out) | exact HB.out))) hk)), Kd.fresh' (Kd.R_lt (rY HO175.out)) k_ hk, Kd.fresh' (Kd.R_lt (rY HO178.out)) k_ hk, Kd.freshB (g := gb170) (o := .cells #[.slice A0_0 l0_0.length c0_0, .slice A0_1 l0_1.length c0_1, .slice A0_2 l0_2.length c0_2, .slice A0_3 l0_3.length c0_3, .slice A0_4 l0_4.length c0_4, .slice A0_5 l0_5.length c0_5] 33 (0, 0)) (bY BK170.out) k_ hk, Kd.freshB (g := gb179) (o := .cells #[.slice Ao20 t173.length co20, .slice Ao23 t176.length co23] 30 (0, 0)) (bY BK179.out) k_ hk⟩))
   (case aO => exact (by (with_reducible repeat (first | apply Kd.N_alloc | apply Kd.N_drewN | apply Kd.N_drew)); exact HO182.out))
   (case aS => exact (below_size (by repeat (first | (with_reducible first | exact HB.out | apply below_alloc | apply pw_below_drewN | apply below_drew1 | refine below_set ?_ GE170.out | refine below_set ?_ GE179.out) | exact HB.out))))
   (case aL => have := LMc15.out; omega)
   intro v184 w28 ho hb hg hat
   rw [← Ny183.out] at ho
   have n0_ := Aside0.mk (Kd.V_afterv (ok := (fun k_ => ((P0_4_ k_ ∨ P0_5_ k_) ∨ w.heap.size ≤ k_) ∧ some k_ ≠ (.slice Ao20 t173.length co20 : Value).ownBlock ∧ some k_ ≠ (.slice Ao23 t176.length co23 : Value).ownBlock ∧ k_ ≠ gb170 ∧ k_ ≠ gb179)) (by (with_reducible repeat (first | apply Kd.V_alloc | apply Kd.V_drewN | apply Kd.V_drew)); exact HO_171004.out) hg hat)
   have n1_ := Aside0.mk (Kd.V_afterv (ok := (fun k_ => ((P0_4_ k_ ∨ P0_5_ k_) ∨ w.heap.size ≤ k_) ∧ some k_ ≠ (.slice Ao20 t173.length co20 : Value).ownBlock ∧ some k_ ≠ (.slice Ao23 t176.length co23 : Value).ownBlock ∧ k_ ≠ gb170 ∧ k_ ≠ gb179)) (by (with_reducible repeat (first | apply Kd.V_alloc | apply Kd.V_drewN | apply Kd.V_drew)); exact HO_171005.out) hg hat)
   have n2_ := Aside0.mk (blk_grown (g := gb170) (o := .cells #[.slice A0_0 l0_0.length c0_0, .slice A0_1 l0_1.length c0_1, .slice A0_2 l0_2.length c0_2, .slice A0_3 l0_3.length c0_3, .slice A0_4 l0_4.length c0_4, .slice A0_5 l0_5.length c0_5] 33 (0, 0)) (bY BK170.out) hg (Kd.N_ne HO182.out BK170.out (by decide)))
   have n3_ := Aside0.mk (Kd.R_over' (rY HO175.out) (Kd.N_typed (by (with_reducible repeat (first | apply Kd.N_alloc | apply Kd.N_drewN | apply Kd.N_drew)); exact HO182.out)) (by decide) hg)
   have n4_ := Aside0.mk (Kd.R_over' (rY HO178.out) (Kd.N_typed (by (with_reducible repeat (first | apply Kd.N_alloc | apply Kd.N_drewN | apply Kd.N_drew)); exact HO182.out)) (by decide) hg)
   have n5_ := Aside0.mk (blk_grown (g := gb179) (o := .cells #[.slice Ao20 t173.length co20, .slice Ao23 t176.length co23] 30 (0, 0)) (bY BK179.out) hg (Kd.N_ne HO182.out BK179.out (by decide)))
   have n6_ := Aside0.mk (hb)
   have n7_ := Aside0.mk (ho)
   clear HO_171004
   clear HO_171005
   clear BK170
   clear HO175
   clear HO178
   clear BK179
   clear HB
   clear HO182
   have HO_171004 := n0_
   have HO_171005 := n1_
   have BK170 := n2_
   have HO175 := n3_
   have HO178 := n4_
   have BK179 := n5_
   have HB := n6_
   have HO185 := n7_
   clear n0_ n1_ n2_ n3_ n4_ n5_ n6_ n7_
   clear ho hb hg hat
   refine hK.out _ _ ⟨(blk_cell BK170.out 0).trans rfl, (blk_cell BK170.out 1).trans rfl, (blk_cell BK170.out 2).trans rfl, (blk_cell BK170.out 3).trans rfl, (blk_cell BK170.out 4).trans rfl, (blk_cell BK170.out 5).trans rfl⟩ (fun hHeld => ?_)
   clear hK K
   refine norm_ (a' := ?_) ?_ ?_
   rotate_left
   ·show Act.put _ (some 23) _ = _
    simp only [pS]
    rfl
   refine one_ (i := 6) (N := some 26) #[T, T, T, T, T, T, T, F] rfl rfl (one_of HT_.out (by kernel_rfl)) (by decide) (fun K hK => ?_)
   refine Kd.N_append_rows_step k38 (w0 := w) w.heap.size (by rfl) (.tmp 23) (.tmp 25) 31 38 (.agg #[(.int .i64 0), (.int .i64 0), (.int .i64 0), (.int .i64 0), (.int .i64 0), (.int .i64 0), (.int .i64 0), (.slice none 0 0)]) 80 rfl Try.underlying31 info38 rfl (by decide) (by omega) v184 y183 l0_5 _ _ _ (fun k_ => ((P0_4_ k_ ∨ P0_5_ k_) ∨ w.heap.size ≤ k_) ∧ some k_ ≠ (.slice Ao20 t173.length co20 : Value).ownBlock ∧ some k_ ≠ (.slice Ao23 t176.length co23 : Value).ownBlock ∧ k_ ≠ gb170 ∧ k_ ≠ gb179) (fun k_ => ((fun k_ => ((P0_4_ k_ ∨ P0_5_ k_) ∨ w.heap.size ≤ k_) ∧ some k_ ≠ (.slice Ao20 t173.length co20 : Value).ownBlock ∧ some k_ ≠ (.slice Ao23 t176.length co23 : Value).ownBlock ∧ k_ ≠ gb170 ∧ k_ ≠ gb179)) k_ ∧ some k_ ≠ (v184 : Value).ownBlock) rfl rfl ?aO ?aR (fun _ hk => hk) ?aF ?aB ?aS ?aL ?_
   (case aR => exact (by skip; exact Kd.V_F (Kd.V_mono (ok' := (fun k_ => ((fun k_ => ((P0_4_ k_ ∨ P0_5_ k_) ∨ w.heap.size ≤ k_) ∧ some k_ ≠ (.slice Ao20 t173.length co20 : Value).ownBlock ∧ some k_ ≠ (.slice Ao23 t176.length co23 : Value).ownBlock ∧ k_ ≠ gb170 ∧ k_ ≠ gb179)) k_ ∧ some k_ ≠ (v184 : Value).ownBlock)) (HO_171005.out) (fun k_ hk => ⟨⟨hk.1.1, ⟨hk.1.2.1, ⟨hk.1.2.2.1, ⟨hk.1.2.2.2.1, hk.1.2.2.2.2⟩⟩⟩⟩, hk.2⟩))))
   (case aB => exact (by repeat (first | (with_reducible first | exact HB.out | apply below_alloc | apply pw_below_drewN | apply below_drew1 | refine below_set ?_ GE170.out | refine below_set ?_ GE179.out) | exact HB.out)))
   (case aF => exact (fun k_ hk => ⟨(.inr (Nat.le_trans (below_size (by repeat (first | (with_reducible first | exact HB.out | apply below_alloc | apply pw_below_drewN | apply below_drew1 | refine below_set ?_ GE170.out | refine below_set ?_ GE179.out) | exact HB.out))) hk)), Kd.fresh' (Kd.R_lt (rY HO175.out)) k_ hk, Kd.fresh' (Kd.R_lt (rY HO178.out)) k_ hk, Kd.freshB (g := gb170) (o := .cells #[.slice A0_0 l0_0.length c0_0, .slice A0_1 l0_1.length c0_1, .slice A0_2 l0_2.length c0_2, .slice A0_3 l0_3.length c0_3, .slice A0_4 l0_4.length c0_4, .slice A0_5 l0_5.length c0_5] 33 (0, 0)) (bY BK170.out) k_ hk, Kd.freshB (g := gb179) (o := .cells #[.slice Ao20 t173.length co20, .slice Ao23 t176.length co23] 30 (0, 0)) (bY BK179.out) k_ hk⟩))
   (case aO => exact (by (with_reducible repeat (first | apply Kd.N_alloc | apply Kd.N_drewN | apply Kd.N_drew)); exact HO185.out))
   (case aS => exact (below_size (by repeat (first | (with_reducible first | exact HB.out | apply below_alloc | apply pw_below_drewN | apply below_drew1 | refine below_set ?_ GE170.out | refine below_set ?_ GE179.out) | exact HB.out))))
   (case aL => have := LMc16.out; omega)
   intro v187 w29 ho hb hg hat
   rw [← Ny186.out] at ho
   have n0_ := Aside0.mk (Kd.V_afterv (ok := (fun k_ => ((P0_4_ k_ ∨ P0_5_ k_) ∨ w.heap.size ≤ k_) ∧ some k_ ≠ (.slice Ao20 t173.length co20 : Value).ownBlock ∧ some k_ ≠ (.slice Ao23 t176.length co23 : Value).ownBlock ∧ k_ ≠ gb170 ∧ k_ ≠ gb179)) (by (with_reducible repeat (first | apply Kd.V_alloc | apply Kd.V_drewN | apply Kd.V_drew)); exact HO_171004.out) hg hat)
   have n1_ := Aside0.mk (Kd.V_afterv (ok := (fun k_ => ((P0_4_ k_ ∨ P0_5_ k_) ∨ w.heap.size ≤ k_) ∧ some k_ ≠ (.slice Ao20 t173.length co20 : Value).ownBlock ∧ some k_ ≠ (.slice Ao23 t176.length co23 : Value).ownBlock ∧ k_ ≠ gb170 ∧ k_ ≠ gb179)) (by (with_reducible repeat (first | apply Kd.V_alloc | apply Kd.V_drewN | apply Kd.V_drew)); exact HO_171005.out) hg hat)
   have n2_ := Aside0.mk (blk_grown (g := gb170) (o := .cells #[.slice A0_0 l0_0.length c0_0, .slice A0_1 l0_1.length c0_1, .slice A0_2 l0_2.length c0_2, .slice A0_3 l0_3.length c0_3, .slice A0_4 l0_4.length c0_4, .slice A0_5 l0_5.length c0_5] 33 (0, 0)) (bY BK170.out) hg (Kd.N_ne HO185.out BK170.out (by decide)))
   have n3_ := Aside0.mk (Kd.R_over' (rY HO175.out) (Kd.N_typed (by (with_reducible repeat (first | apply Kd.N_alloc | apply Kd.N_drewN | apply Kd.N_drew)); exact HO185.out)) (by decide) hg)
   have n4_ := Aside0.mk (Kd.R_over' (rY HO178.out) (Kd.N_typed (by (with_reducible repeat (first | apply Kd.N_alloc | apply Kd.N_drewN | apply Kd.N_drew)); exact HO185.out)) (by decide) hg)
   have n5_ := Aside0.mk (blk_grown (g := gb179) (o := .cells #[.slice Ao20 t173.length co20, .slice Ao23 t176.length co23] 30 (0, 0)) (bY BK179.out) hg (Kd.N_ne HO185.out BK179.out (by decide)))
   have n6_ := Aside0.mk (hb)
   have n7_ := Aside0.mk (ho)
   clear HO_171004
   clear HO_171005
   clear BK170
   clear HO175
   clear HO178
   clear BK179
   clear HB
   clear HO185
   have HO_171004 := n0_
   have HO_171005 := n1_
   have BK170 := n2_
   have HO175 := n3_
   have HO178 := n4_
   have BK179 := n5_
   have HB := n6_
   have HO188 := n7_
   clear n0_ n1_ n2_ n3_ n4_ n5_ n6_ n7_
   clear ho hb hg hat
   refine hK.out _ _ ⟨(blk_cell BK170.out 0).trans rfl, (blk_cell BK170.out 1).trans rfl, (blk_cell BK170.out 2).trans rfl, (blk_cell BK170.out 3).trans rfl, (blk_cell BK170.out 4).trans rfl, (blk_cell BK170.out 5).trans rfl⟩ (fun hHeld => ?_)
   clear hK K
   refine norm_ (a' := ?_) ?_ ?_
   rotate_left
   ·show Act.put _ (some 26) _ = _
    simp only [pS]
    rfl
   refine pure_ (i := 7) (N := some 4) (v := ?_) (a' := ?_) #[T, T, T, T, T, T, T, T] rfl rfl (any_of HT_.out (by kernel_rfl)) (fun _ _ _ h => h) (Or.inl ⟨by rfl, ?_⟩) ?_ ?_
   rotate_left
   ·intro w'
    go_simp
    with_reducible rfl
   rotate_left
   ·simp only [pS]
    rfl
   refine done_ (done_of HT_.out (by kernel_rfl)) ?_
   try go_wp2
   go_loopg [5] kj1 (fun kq v5 w' => ∃ (x5_2 : Int) (x180000_2 : List Int) (x180001_2 : List Int) (u180000 : Value) (u180001 : Value), v5 = .int .i64 x5_2 ∧ Aside0 (spec_ChannelOk.l0 kq y186 x5_2 l0_0 l0_1 l0_2 l0_3 l0_4 l0_5 x180000_2 x180001_2 = some r) ∧ Aside0 (kq ≤ kj1) ∧ Aside0 (Kd.N k38 38 w' w.heap.size (fun k_ => ((P0_4_ k_ ∨ P0_5_ k_) ∨ w.heap.size ≤ k_) ∧ some k_ ≠ (u180000 : Value).ownBlock ∧ some k_ ≠ (u180001 : Value).ownBlock ∧ k_ ≠ gb170 ∧ k_ ≠ gb179) v187 y186) ∧ Aside0 (Kd.V k38 38 w' w.heap.size (fun k_ => ((P0_4_ k_ ∨ P0_5_ k_) ∨ w.heap.size ≤ k_) ∧ some k_ ≠ (v187 : Value).ownBlock ∧ some k_ ≠ (u180000 : Value).ownBlock ∧ some k_ ≠ (u180001 : Value).ownBlock ∧ k_ ≠ gb170 ∧ k_ ≠ gb179) (.slice A0_4 l0_4.length c0_4) l0_4) ∧ Aside0 (Kd.V k38 38 w' w.heap.size (fun k_ => ((P0_4_ k_ ∨ P0_5_ k_) ∨ w.heap.size ≤ k_) ∧ some k_ ≠ (v187 : Value).ownBlock ∧ some k_ ≠ (u180000 : Value).ownBlock ∧ some k_ ≠ (u180001 : Value).ownBlock ∧ k_ ≠ gb170 ∧ k_ ≠ gb179) (.slice A0_5 l0_5.length c0_5) l0_5) ∧ Aside0 (Kd.R (Kd.int .i64) 3 w' w.heap.size (fun k_ => (w.heap.size ≤ k_) ∧ some k_ ≠ (u180001 : Value).ownBlock) u180000 x180000_2) ∧ Aside0 (Kd.R (Kd.int .i64) 3 w' w.heap.size (fun k_ => (w.heap.size ≤ k_) ∧ some k_ ≠ (u180000 : Value).ownBlock) u180001 x180001_2) ∧ Aside0 (w'.heap[gb170]? = some (.cells #[(.slice A0_0 l0_0.length c0_0), (.slice A0_1 l0_1.length c0_1), (.slice A0_2 l0_2.length c0_2), (.slice A0_3 l0_3.length c0_3), (.slice A0_4 l0_4.length c0_4), (.slice A0_5 l0_5.length c0_5)] 33 (0, 0))) ∧ Aside0 (w'.heap[gb179]? = some (.cells #[u180000, u180001] 30 (0, 0))) ∧ Aside0 (Below w.heap.size w w'))
   case atStart => exact ⟨(0), (t173), (t176), (.slice Ao20 t173.length co20), (.slice Ao23 t176.length co23), (by first | rfl | (simp; done) | (simp [*]; done)), H', ⟨Nat.le_refl _⟩, ⟨by (with_reducible repeat (first | apply Kd.N_alloc | apply Kd.N_drewN | apply Kd.N_drew)); exact HO188.out⟩, ⟨by (with_reducible repeat (first | apply Kd.V_alloc | apply Kd.V_drewN | apply Kd.V_drew)); exact Kd.V_mono HO_171004.out (fun _ hk => ⟨hk.1.1, ⟨hk.2, ⟨hk.1.2.1, ⟨hk.1.2.2.1, ⟨hk.1.2.2.2.1, hk.1.2.2.2.2⟩⟩⟩⟩⟩)⟩, ⟨by (with_reducible repeat (first | apply Kd.V_alloc | apply Kd.V_drewN | apply Kd.V_drew)); exact Kd.V_mono HO_171005.out (fun _ hk => ⟨hk.1.1, ⟨hk.2, ⟨hk.1.2.1, ⟨hk.1.2.2.1, ⟨hk.1.2.2.2.1, hk.1.2.2.2.2⟩⟩⟩⟩⟩)⟩, ⟨by (repeat apply rX); exact HO175.out⟩, ⟨by (repeat apply rX); exact HO178.out⟩, ⟨by (repeat apply bX); exact BK170.out⟩, ⟨by (repeat apply bX); exact BK179.out⟩, ⟨by repeat (first | (with_reducible first | exact HB.out | apply below_alloc | apply pw_below_drewN | apply below_drew1 | refine below_set ?_ GE170.out | refine below_set ?_ GE179.out) | exact HB.out)⟩⟩
   case round =>
    clear H'
    obtain ⟨x5_2, x180000_2, x180001_2, u180000, u180001, rfl, HA, HK2, HO_4, HO_171004, HO_171005, HO_180000, HO_180001, BK170, BK179, HB⟩ := hrel
    cases gk with
    | zero => exact absurd HA.out (by simp [spec_ChannelOk.l0])
    | succ k2 =>
     have H := HA.out
     clear HA
     simp only [spec_ChannelOk.l0] at H
     by_cases c30 : x5_2 < (y186.length : Int)
     rotate_left
     ·rw [if_neg c30] at H
      have c30b0 : decide (x5_2 < (y186.length : Int)) = false := decide_eq_false c30
      clear c30
      replace H := Option.bind_eq_some_iff.mp H
      obtain ⟨t189, A520, H⟩ := H
      have A52 := Aside0.mk A520
      clear A520
      obtain rfl := Option.some.inj H
      obtain ⟨Ao53, co53, eo53⟩ := Kd.N_slice HO_4.out
      subst eo53
      have hnb54 := NB179_170.out
      have hnc54 := NB170_179.out
      obtain ⟨hcz55_0, hcz55_1, hfz55_0, hfz55_1⟩ := b2 BK179.out
      obtain ⟨hcz56_0, hcz56_1, hcz56_2, hcz56_3, hcz56_4, hcz56_5, hfz56_0, hfz56_1, hfz56_2, hfz56_3, hfz56_4, hfz56_5⟩ := b6 BK170.out
      obtain ⟨Ao57, co57, eo57⟩ := Kd.R_slice HO_180000.out
      subst eo57
      obtain ⟨Ao58, co58, eo58⟩ := Kd.R_slice HO_180001.out
      subst eo58
      go_wp2_with (first | ((with_reducible refine gate_callee (f := 37) rfl ?_); refine goesL_ (some 68) rfl rfl Try.func37 (by kernel_rfl) rfl #[.agg #[.slice Ao57 x180000_2.length co57, .slice Ao58 x180001_2.length co58], .agg #[.slice A0_0 l0_0.length c0_0, .slice A0_1 l0_1.length c0_1]] rfl (by (try simp only [List.map_toArray, List.map_cons, List.map_nil]); first | done | rfl) ?_; (with_reducible refine (spec_SameCredits.calls k2 _ _ x180000_2 _ _ x180001_2 _ _ l0_0 _ _ l0_1 t189 _ ?side1 ?side2 ?side3 ?side4 ?side5 ?side6 ?side7 ?side8 A52.out).mono ?_); (case side1 => exact cY ((Kd.R_reads' HO_180000.out).2.2)); (case side2 => exact (Kd.R_reads' HO_180000.out).2.1); (case side3 => exact cY ((Kd.R_reads' HO_180001.out).2.2)); (case side4 => exact (Kd.R_reads' HO_180001.out).2.1); (case side5 => exact cY ((Kd.C_below HR0_0.out HB.out))); (case side6 => exact HC0_0.out); (case side7 => exact cY ((Kd.C_below HR0_1.out HB.out))); (case side8 => exact HC0_1.out); rintro e w59 ⟨rfl, hb⟩; refine ⟨_, rfl, ?_⟩; have n0_ := Aside0.mk (Kd.N_below (by (with_reducible repeat (first | apply Kd.N_alloc | apply Kd.N_drewN | apply Kd.N_drew)); exact HO_4.out) hb); have n1_ := Aside0.mk (Kd.V_below (by (with_reducible repeat (first | apply Kd.V_alloc | apply Kd.V_drewN | apply Kd.V_drew)); exact HO_171004.out) hb); have n2_ := Aside0.mk (Kd.V_below (by (with_reducible repeat (first | apply Kd.V_alloc | apply Kd.V_drewN | apply Kd.V_drew)); exact HO_171005.out) hb); have n3_ := Aside0.mk (Kd.R_below (rY HO_180000.out) hb); have n4_ := Aside0.mk (Kd.R_below (rY HO_180001.out) hb); have n5_ := Aside0.mk (blk_below (bY BK170.out) hb); have n6_ := Aside0.mk (blk_below (bY BK179.out) hb); have n7_ := Aside0.mk (below_step (by repeat (first | (with_reducible first | exact HB.out | apply below_alloc | apply pw_below_drewN | apply below_drew1 | refine below_set ?_ GE170.out | refine below_set ?_ GE179.out) | exact HB.out)) hb); clear HO_4; clear HO_171004; clear HO_171005; clear HO_180000; clear HO_180001; clear BK170; clear BK179; clear HB; have HO_4 := n0_; have HO_171004 := n1_; have HO_171005 := n2_; have HO_180000 := n3_; have HO_180001 := n4_; have BK170 := n5_; have BK179 := n6_; have HB := n7_; clear n0_ n1_ n2_ n3_ n4_ n5_ n6_ n7_; (try clear hb); (try clear hb2); (try clear hk); (try clear hi)))
      go_ret
      exact ⟨by first | rfl | (simp [errW_none, errW_some] <;> rfl) | (simp [*, errW_none, errW_some] <;> rfl), by repeat (first | (with_reducible first | exact HB.out | apply below_alloc | apply pw_below_drewN | apply below_drew1 | refine below_set ?_ GE170.out | refine below_set ?_ GE179.out) | exact HB.out)⟩
     rw [if_pos c30] at H
     have c30b0 : decide (x5_2 < (y186.length : Int)) = true := decide_eq_true c30
     clear c30
     by_cases c31 : 0 ≤ x5_2
     rotate_left
     ·rw [if_neg c31] at H
      exact absurd H (by simp)
     rw [if_pos c31] at H
     have c31b0 : decide (0 ≤ x5_2) = true := decide_eq_true c31
     clear c31
     replace H := Option.bind_eq_some_iff.mp H
     obtain ⟨t191, A320, H⟩ := H
     have A32 := Aside0.mk A320
     clear A320
     by_cases c33 : t191 < 0
     ·rw [if_pos c33] at H
      have c33b0 : decide (t191 < 0) = true := decide_eq_true c33
      clear c33
      obtain rfl := Option.some.inj H
      obtain ⟨Ao34, co34, eo34⟩ := Kd.N_slice HO_4.out
      subst eo34
      have p190 : 0 ≤ (x5_2 : Int) := of_decide_eq_true (by first | (with_reducible assumption) | assumption)
      have q190 : x5_2 < (y186.length : Int) := of_decide_eq_true (by first | (with_reducible assumption) | assumption)
      obtain ⟨ad190, A190_7, c190_7, e190, hx190_0, hx190_1, hx190_2, hx190_3, hx190_4, hx190_5, hx190_6, hx190_7, hl190_7, hi190_7⟩ := at_T38 (Kd.N_reads' HO_4.out).2.2 x5_2 p190 q190
      cases e190
      obtain ⟨ce190, hce190, hMe190, hcc190⟩ := Kd.N_get HO_4.out z38 x5_2 p190 (by first | exact q190 | exact of_decide_eq_true (by first | (with_reducible assumption) | assumption) | (have e_ := (Kd.N_reads' HO_4.out).1; omega))
      obtain ⟨ua190_7, uc190_7, rfl, ul190_7, ge190_7⟩ := k38_openF hMe190
      have hv190_7 := hcc190 7 _ rfl
      rw [add_field _ _ 7 (by omega)] at hv190_7
      replace hv190_7 := Option.some.inj (hv190_7.symm.trans hx190_7)
      injection hv190_7 with hva_ hvn_ hvc_
      rw [hva_] at ge190_7
      rw [hvc_] at ul190_7
      have HL190_7 := Aside0.mk (show Kd.V (Kd.int .i64) 3 _ w.heap.size _ _ ((rd_T38 y186 x5_2).f7) from Kd.V_mk ul190_7 ge190_7)
      clear hva_ hvn_ hvc_ ge190_7 ul190_7
      clear hcc190 hce190
      have HR190_7 := Aside0.mk hi190_7
      have HC190_7 := Aside0.mk hl190_7
      clear hi190_7 hl190_7
      replace p190 := eq_true p190
      replace q190 := eq_true q190
      go_wp2_with (first | ((with_reducible refine gate_callee (f := 35) rfl ?_); refine goesL_ (some 37) rfl rfl Try.func35 (by kernel_rfl) rfl #[.agg #[.int .i64 ((rd_T38 y186 x5_2).f0), .int .i64 ((rd_T38 y186 x5_2).f1), .int .i64 ((rd_T38 y186 x5_2).f2), .int .i64 ((rd_T38 y186 x5_2).f3), .int .i64 ((rd_T38 y186 x5_2).f4), .int .i64 ((rd_T38 y186 x5_2).f5), .int .i64 ((rd_T38 y186 x5_2).f6), .slice A190_7 ((rd_T38 y186 x5_2).f7).length c190_7]] rfl (by (try simp only [List.map_toArray, List.map_cons, List.map_nil]); first | done | rfl) ?_; (with_reducible refine (spec_ClassOf.calls k2 ((rd_T38 y186 x5_2).f0) ((rd_T38 y186 x5_2).f1) ((rd_T38 y186 x5_2).f2) ((rd_T38 y186 x5_2).f3) ((rd_T38 y186 x5_2).f4) ((rd_T38 y186 x5_2).f5) ((rd_T38 y186 x5_2).f6) _ _ ((rd_T38 y186 x5_2).f7) t191 _ ?side1 ?side2 A32.out).mono ?_); (case side1 => repeat (first | exact (by repeat (first | (with_reducible exact HR190_7.out) | (with_reducible refine Kd.C_alloc ?_ _) | (with_reducible refine Kd.C_drewN ?_ _) | (with_reducible refine Kd.C_drew ?_) | exact HR190_7.out)) | (with_reducible refine Kd.C_alloc ?_ _) | (with_reducible refine Kd.C_drewN ?_ _) | (with_reducible refine Kd.C_drew ?_))); (case side2 => exact HC190_7.out); rintro e w35 ⟨rfl, hb⟩; refine ⟨_, rfl, ?_⟩; have n0_ := Aside0.mk (Kd.N_below (by (with_reducible repeat (first | apply Kd.N_alloc | apply Kd.N_drewN | apply Kd.N_drew)); exact HO_4.out) hb); have n1_ := Aside0.mk (Kd.V_below (by (with_reducible repeat (first | apply Kd.V_alloc | apply Kd.V_drewN | apply Kd.V_drew)); exact HO_171004.out) hb); have n2_ := Aside0.mk (Kd.V_below (by (with_reducible repeat (first | apply Kd.V_alloc | apply Kd.V_drewN | apply Kd.V_drew)); exact HO_171005.out) hb); have n3_ := Aside0.mk (Kd.R_below (rY HO_180000.out) hb); have n4_ := Aside0.mk (Kd.R_below (rY HO_180001.out) hb); have n5_ := Aside0.mk (Kd.V_below (by (with_reducible repeat (first | apply Kd.V_alloc | apply Kd.V_drewN | apply Kd.V_drew)); exact HL190_7.out) hb); have n6_ := Aside0.mk (blk_below (bY BK170.out) hb); have n7_ := Aside0.mk (blk_below (bY BK179.out) hb); have n8_ := Aside0.mk (Kd.C_below (by repeat (first | (with_reducible exact HR190_7.out) | (with_reducible refine Kd.C_alloc ?_ _) | (with_reducible refine Kd.C_drewN ?_ _) | (with_reducible refine Kd.C_drew ?_) | exact HR190_7.out)) hb); have n9_ := Aside0.mk (below_step (by repeat (first | (with_reducible first | exact HB.out | apply below_alloc | apply pw_below_drewN | apply below_drew1 | refine below_set ?_ GE170.out | refine below_set ?_ GE179.out) | exact HB.out)) hb); clear HO_4; clear HO_171004; clear HO_171005; clear HO_180000; clear HO_180001; clear HL190_7; clear BK170; clear BK179; clear HR190_7; clear HB; have HO_4 := n0_; have HO_171004 := n1_; have HO_171005 := n2_; have HO_180000 := n3_; have HO_180001 := n4_; have HL190_7 := n5_; have BK170 := n6_; have BK179 := n7_; have HR190_7 := n8_; have HB := n9_; clear n0_ n1_ n2_ n3_ n4_ n5_ n6_ n7_ n8_ n9_; (try clear hb); (try clear hb2); (try clear hk); (try clear hi)))
      go_ret
      exact ⟨by first | rfl | (simp [errW_none, errW_some] <;> rfl) | (simp [*, errW_none, errW_some] <;> rfl), by repeat (first | (with_reducible first | exact HB.out | apply below_alloc | apply pw_below_drewN | apply below_drew1 | refine below_set ?_ GE170.out | refine below_set ?_ GE179.out) | exact HB.out)⟩
     rw [if_neg c33] at H
     have c33b0 : decide (t191 < 0) = false := decide_eq_false c33
     clear c33
     by_cases c36 : 0 ≤ t191
     rotate_left
     ·rw [if_neg c36] at H
      exact absurd H (by simp)
     rw [if_pos c36] at H
     have c36b0 : decide (0 ≤ t191) = true := decide_eq_true c36
     clear c36
     by_cases c37 : t191 < (x180000_2.length : Int)
     rotate_left
     ·rw [if_neg c37] at H
      exact absurd H (by simp)
     rw [if_pos c37] at H
     have c37b0 : decide (t191 < (x180000_2.length : Int)) = true := decide_eq_true c37
     clear c37
     obtain ⟨y193, hy193⟩ : ∃ y_ : List Int, y_ = (x180000_2.set (t191 : Int).toNat (wrap64 ((rd x180000_2 t191) + 1))) := ⟨_, rfl⟩
     replace H : (if t191 < (x180001_2.length : Int) then ((spec_PacketUnits.f k2 ((rd_T38 y186 x5_2).f0) ((rd_T38 y186 x5_2).f1) ((rd_T38 y186 x5_2).f2) ((rd_T38 y186 x5_2).f3) ((rd_T38 y186 x5_2).f4) ((rd_T38 y186 x5_2).f5) ((rd_T38 y186 x5_2).f6) ((rd_T38 y186 x5_2).f7)).bind fun t196 => (spec_ChannelOk.l0 k2 y186 (wrap64 (x5_2 + 1)) l0_0 l0_1 l0_2 l0_3 l0_4 l0_5 y193 (x180001_2.set (t191 : Int).toNat (wrap64 ((rd x180001_2 t191) + t196))))) else (none)) = some r := by first | (rw [hy193]; with_reducible exact H) | (have H2_ := (Option.bind_some _ _).symm.trans H; rw [hy193]; with_reducible exact H2_) | (have H2_ := (Option.bind_some _ _).symm.trans H; with_reducible exact H2_) | with_reducible exact H | (rw [hy193]; exact H) | exact H
     have Ny193 := Aside0.mk hy193
     clear hy193
     by_cases c39 : t191 < (x180001_2.length : Int)
     rotate_left
     ·rw [if_neg c39] at H
      exact absurd H (by simp)
     rw [if_pos c39] at H
     have c39b0 : decide (t191 < (x180001_2.length : Int)) = true := decide_eq_true c39
     clear c39
     replace H := Option.bind_eq_some_iff.mp H
     obtain ⟨t196, A400, H⟩ := H
     have A40 := Aside0.mk A400
     clear A400
     obtain ⟨y197, hy197⟩ : ∃ y_ : List Int, y_ = (x180001_2.set (t191 : Int).toNat (wrap64 ((rd x180001_2 t191) + t196))) := ⟨_, rfl⟩
     replace H : (spec_ChannelOk.l0 k2 y186 (wrap64 (x5_2 + 1)) l0_0 l0_1 l0_2 l0_3 l0_4 l0_5 y193 y197) = some r := by first | (rw [hy197]; with_reducible exact H) | (have H2_ := (Option.bind_some _ _).symm.trans H; rw [hy197]; with_reducible exact H2_) | (have H2_ := (Option.bind_some _ _).symm.trans H; with_reducible exact H2_) | with_reducible exact H | (rw [hy197]; exact H) | exact H
     have Ny197 := Aside0.mk hy197
     clear hy197
     have H' := Aside0.mk H
     clear H
     obtain ⟨Ao42, co42, eo42⟩ := Kd.N_slice HO_4.out
     subst eo42
     have p190 : 0 ≤ (x5_2 : Int) := of_decide_eq_true (by first | (with_reducible assumption) | assumption)
     have q190 : x5_2 < (y186.length : Int) := of_decide_eq_true (by first | (with_reducible assumption) | assumption)
     obtain ⟨ad190, A190_7, c190_7, e190, hx190_0, hx190_1, hx190_2, hx190_3, hx190_4, hx190_5, hx190_6, hx190_7, hl190_7, hi190_7⟩ := at_T38 (Kd.N_reads' HO_4.out).2.2 x5_2 p190 q190
     cases e190
     obtain ⟨ce190, hce190, hMe190, hcc190⟩ := Kd.N_get HO_4.out z38 x5_2 p190 (by first | exact q190 | exact of_decide_eq_true (by first | (with_reducible assumption) | assumption) | (have e_ := (Kd.N_reads' HO_4.out).1; omega))
     obtain ⟨ua190_7, uc190_7, rfl, ul190_7, ge190_7⟩ := k38_openF hMe190
     have hv190_7 := hcc190 7 _ rfl
     rw [add_field _ _ 7 (by omega)] at hv190_7
     replace hv190_7 := Option.some.inj (hv190_7.symm.trans hx190_7)
     injection hv190_7 with hva_ hvn_ hvc_
     rw [hva_] at ge190_7
     rw [hvc_] at ul190_7
     have HL190_7 := Aside0.mk (show Kd.V (Kd.int .i64) 3 _ w.heap.size _ _ ((rd_T38 y186 x5_2).f7) from Kd.V_mk ul190_7 ge190_7)
     clear hva_ hvn_ hvc_ ge190_7 ul190_7
     clear hcc190 hce190
     have HR190_7 := Aside0.mk hi190_7
     have HC190_7 := Aside0.mk hl190_7
     clear hi190_7 hl190_7
     replace p190 := eq_true p190
     replace q190 := eq_true q190
     try go_wp2_with (first | ((with_reducible refine gate_callee (f := 35) rfl ?_); refine goesL_ (some 37) rfl rfl Try.func35 (by kernel_rfl) rfl #[.agg #[.int .i64 ((rd_T38 y186 x5_2).f0), .int .i64 ((rd_T38 y186 x5_2).f1), .int .i64 ((rd_T38 y186 x5_2).f2), .int .i64 ((rd_T38 y186 x5_2).f3), .int .i64 ((rd_T38 y186 x5_2).f4), .int .i64 ((rd_T38 y186 x5_2).f5), .int .i64 ((rd_T38 y186 x5_2).f6), .slice A190_7 ((rd_T38 y186 x5_2).f7).length c190_7]] rfl (by (try simp only [List.map_toArray, List.map_cons, List.map_nil]); first | done | rfl) ?_; (with_reducible refine (spec_ClassOf.calls k2 ((rd_T38 y186 x5_2).f0) ((rd_T38 y186 x5_2).f1) ((rd_T38 y186 x5_2).f2) ((rd_T38 y186 x5_2).f3) ((rd_T38 y186 x5_2).f4) ((rd_T38 y186 x5_2).f5) ((rd_T38 y186 x5_2).f6) _ _ ((rd_T38 y186 x5_2).f7) t191 _ ?side1 ?side2 A32.out).mono ?_); (case side1 => repeat (first | exact (by repeat (first | (with_reducible exact HR190_7.out) | (with_reducible refine Kd.C_alloc ?_ _) | (with_reducible refine Kd.C_drewN ?_ _) | (with_reducible refine Kd.C_drew ?_) | exact HR190_7.out)) | (with_reducible refine Kd.C_alloc ?_ _) | (with_reducible refine Kd.C_drewN ?_ _) | (with_reducible refine Kd.C_drew ?_))); (case side2 => exact HC190_7.out); rintro e w43 ⟨rfl, hb⟩; refine ⟨_, rfl, ?_⟩; have n0_ := Aside0.mk (Kd.N_below (by (with_reducible repeat (first | apply Kd.N_alloc | apply Kd.N_drewN | apply Kd.N_drew)); exact HO_4.out) hb); have n1_ := Aside0.mk (Kd.V_below (by (with_reducible repeat (first | apply Kd.V_alloc | apply Kd.V_drewN | apply Kd.V_drew)); exact HO_171004.out) hb); have n2_ := Aside0.mk (Kd.V_below (by (with_reducible repeat (first | apply Kd.V_alloc | apply Kd.V_drewN | apply Kd.V_drew)); exact HO_171005.out) hb); have n3_ := Aside0.mk (Kd.R_below (rY HO_180000.out) hb); have n4_ := Aside0.mk (Kd.R_below (rY HO_180001.out) hb); have n5_ := Aside0.mk (Kd.V_below (by (with_reducible repeat (first | apply Kd.V_alloc | apply Kd.V_drewN | apply Kd.V_drew)); exact HL190_7.out) hb); have n6_ := Aside0.mk (blk_below (bY BK170.out) hb); have n7_ := Aside0.mk (blk_below (bY BK179.out) hb); have n8_ := Aside0.mk (Kd.C_below (by repeat (first | (with_reducible exact HR190_7.out) | (with_reducible refine Kd.C_alloc ?_ _) | (with_reducible refine Kd.C_drewN ?_ _) | (with_reducible refine Kd.C_drew ?_) | exact HR190_7.out)) hb); have n9_ := Aside0.mk (below_step (by repeat (first | (with_reducible first | exact HB.out | apply below_alloc | apply pw_below_drewN | apply below_drew1 | refine below_set ?_ GE170.out | refine below_set ?_ GE179.out) | exact HB.out)) hb); clear HO_4; clear HO_171004; clear HO_171005; clear HO_180000; clear HO_180001; clear HL190_7; clear BK170; clear BK179; clear HR190_7; clear HB; have HO_4 := n0_; have HO_171004 := n1_; have HO_171005 := n2_; have HO_180000 := n3_; have HO_180001 := n4_; have HL190_7 := n5_; have BK170 := n6_; have BK179 := n7_; have HR190_7 := n8_; have HB := n9_; clear n0_ n1_ n2_ n3_ n4_ n5_ n6_ n7_ n8_ n9_; (try clear hb); (try clear hb2); (try clear hk); (try clear hi)))
     have n0_ := Aside0.mk (Kd.N_drew HO_4.out)
     have n1_ := Aside0.mk (Kd.V_drew HO_171004.out)
     have n2_ := Aside0.mk (Kd.V_drew HO_171005.out)
     have n3_ := Aside0.mk (Kd.R_drew HO_180000.out)
     have n4_ := Aside0.mk (Kd.R_drew HO_180001.out)
     have n5_ := Aside0.mk (Kd.V_drew HL190_7.out)
     have n6_ := Aside0.mk (blk_drew BK170.out)
     have n7_ := Aside0.mk (blk_drew BK179.out)
     have n8_ := Aside0.mk (Kd.C_drew HR190_7.out)
     have n9_ := Aside0.mk (below_drew1 HB.out)
     clear HO_4
     clear HO_171004
     clear HO_171005
     clear HO_180000
     clear HO_180001
     clear HL190_7
     clear BK170
     clear BK179
     clear HR190_7
     clear HB
     have HO_4 := n0_
     have HO_171004 := n1_
     have HO_171005 := n2_
     have HO_180000 := n3_
     have HO_180001 := n4_
     have HL190_7 := n5_
     have BK170 := n6_
     have BK179 := n7_
     have HR190_7 := n8_
     have HB := n9_
     clear n0_ n1_ n2_ n3_ n4_ n5_ n6_ n7_ n8_ n9_
     obtain ⟨Ao45, co45, eo45⟩ := Kd.R_slice HO_180000.out
     (first | subst eo45 | (injection eo45 with f1_ f2_ f3_; have f4_ := f1_.symm; have f5_ := f3_.symm; clear f1_ f2_ f3_; subst f4_; subst f5_))
     have p192 : 0 ≤ (t191 : Int) := of_decide_eq_true (by first | (with_reducible assumption) | assumption)
     have q192 : t191 < (x180000_2.length : Int) := of_decide_eq_true (by first | (with_reducible assumption) | assumption)
     obtain ⟨ad192, e192, hx192_0⟩ := Kd.at_int (Kd.R_reads' HO_180000.out).2.2 t191 p192 q192
     cases e192
     replace p192 := eq_true p192
     replace q192 := eq_true q192
     have p38 : 0 ≤ (t191 : Int) := of_decide_eq_true (by first | (with_reducible assumption) | assumption)
     have q38 : (t191 : Int) < ((x180000_2.length : Int) : Int) := of_decide_eq_true (by first | (with_reducible assumption) | assumption)
     obtain ⟨go38, co38, eo38, gb38, gl38, cl38, HG38⟩ := Kd.R_form HO_180000.out (by omega)
     (first | cases eo38 | (injection eo38 with ea_ en_ ec_; (first | subst ea_ | (injection ea_ with ea_; subst ea_)); subst ec_; clear en_))
     have GB38 := Aside0.mk gb38
     have GG38 := Aside0.mk HG38
     clear gb38 gl38 HG38
     (first | simp only [add_plain] at hx192_0 | skip)
     obtain ⟨hx38_0, hf38_0⟩ := Kd.R_celln 0 HO_180000.out (t191 : Int) p38 q38
     replace p38 := eq_true p38
     replace q38 := eq_true q38
     have HP46 := Kd.R_putn HO_180000.out (t191 : Int) (wrap64 ((rd x180000_2 t191) + 1))
     rw [← Ny193.out] at HP46
     have HQ46 := Aside0.mk HP46
     clear HP46
     refine start_ (n := 11) (S := fun w' => w'.cell? ⟨gb179, 0, none⟩ = some (.slice (some ⟨go38, 0, none⟩) x180000_2.length co45) ∧ w'.cell? ⟨gb179, 1, none⟩ = some (u180001) ∧ w'.cell? ⟨go38, (t191).toNat, none⟩ = some (.int .i64 (rd x180000_2 t191))) (ds := [10]) #[F, F, F, F, F, F, F, F, F, F, F] (by kernel_rfl) rfl rfl ⟨(blk_cell BK179.out 0).trans rfl, (blk_cell BK179.out 1).trans rfl, hx192_0⟩ (fun hHeld => ?_); refine with_tabW spec_ChannelOk.tab11 spec_ChannelOk.bits11 (fun HT_ HW_ => ?_)
     generalize w43.drew = w44 at HO_4 HO_171004 HO_171005 HO_180000 HO_180001 HL190_7 BK170 BK179 HR190_7 HB GG38 HQ46 hf38_0 hx192_0 hx38_0 hHeld ⊢
     refine pure_ (i := 0) (N := some 40) (v := ?_) (a' := ?_) #[T, F, F, F, F, F, F, F, F, F, F] rfl rfl (any_of HT_.out (by kernel_rfl)) (fun _ _ _ h => h) (Or.inl ⟨by rfl, ?_⟩) ?_ ?_
     rotate_left
     ·intro w'
      go_simp
      with_reducible rfl
     rotate_left
     ·simp only [pS]
      rfl
     refine pure_ (i := 2) (N := some 42) (v := ?_) (a' := ?_) #[T, F, T, F, F, F, F, F, F, F, F] rfl rfl (any_of HT_.out (by kernel_rfl)) (fun _ _ _ h => h) (Or.inl ⟨by rfl, ?_⟩) ?_ ?_
     rotate_left
     ·intro w'
      go_simp
      with_reducible rfl
     rotate_left
     ·simp only [pS]
      rfl
     refine pure_ (i := 3) (N := some 43) (v := ?_) (a' := ?_) #[T, F, T, T, F, F, F, F, F, F, F] rfl rfl (any_of HT_.out (by kernel_rfl)) (fun _ _ _ h => h) (Or.inl ⟨by rfl, ?_⟩) ?_ ?_
     rotate_left
     ·intro w'
      go_simp
      with_reducible rfl
     rotate_left
     ·simp only [pS]
      rfl
     refine pure_ (i := 5) (N := some 45) (v := ?_) (a' := ?_) #[T, F, T, T, F, T, F, F, F, F, F] rfl rfl (any_of HT_.out (by kernel_rfl)) (fun _ _ _ h => h) (Or.inl ⟨by rfl, ?_⟩) ?_ ?_
     rotate_left
     ·intro w'
      go_simp
      with_reducible rfl
     rotate_left
     ·simp only [pS]
      rfl
     refine take_ (i := 1) (N := some 41) (v := ?_) (a' := ?_) #[T, T, T, T, F, T, F, F, F, F, F] rfl rfl (take_ofW HT_.out HW_.out (by kernel_rfl)) (fun _ _ _ h => h) (Or.inl ⟨by rfl, ?_⟩) hHeld ?_ ?_
     rotate_left
     ·rintro w' ⟨s0, s1, s2⟩
      go_simp
      with_reducible rfl
     rotate_left
     ·simp only [pS]
      rfl
     refine take_ (i := 4) (N := some 44) (v := ?_) (a' := ?_) #[T, T, T, T, T, T, F, F, F, F, F] rfl rfl (take_ofW HT_.out HW_.out (by kernel_rfl)) (fun _ _ _ h => h) (Or.inl ⟨by rfl, ?_⟩) hHeld ?_ ?_
     rotate_left
     ·rintro w' ⟨s0, s1, s2⟩
      go_simp
      with_reducible rfl
     rotate_left
     ·simp only [pS]
      rfl
     refine pure_ (i := 6) (N := some 46) (v := ?_) (a' := ?_) #[T, T, T, T, T, T, T, F, F, F, F] rfl rfl (any_of HT_.out (by kernel_rfl)) (fun _ _ _ h => h) (Or.inl ⟨by rfl, ?_⟩) ?_ ?_
     rotate_left
     ·intro w'
      go_simp
      with_reducible rfl
     rotate_left
     ·simp only [pS]
      rfl
     refine take_ (i := 7) (N := some 47) (v := ?_) (a' := ?_) #[T, T, T, T, T, T, T, T, F, F, F] rfl rfl (take_ofW HT_.out HW_.out (by kernel_rfl)) (fun _ _ _ h => h) (Or.inl ⟨by rfl, ?_⟩) hHeld ?_ ?_
     rotate_left
     ·rintro w' ⟨s0, s1, s2⟩
      go_simp
      with_reducible rfl
     rotate_left
     ·simp only [pS]
      rfl
     refine pure_ (i := 8) (N := some 48) (v := ?_) (a' := ?_) #[T, T, T, T, T, T, T, T, T, F, F] rfl rfl (any_of HT_.out (by kernel_rfl)) (fun _ _ _ h => h) (Or.inl ⟨by rfl, ?_⟩) ?_ ?_
     rotate_left
     ·intro w'
      go_simp
      with_reducible rfl
     rotate_left
     ·simp only [pS]
      rfl
     refine pure_ (i := 9) (N := some 49) (v := ?_) (a' := ?_) #[T, T, T, T, T, T, T, T, T, T, F] rfl rfl (any_of HT_.out (by kernel_rfl)) (fun _ _ _ h => h) (Or.inl ⟨by rfl, ?_⟩) ?_ ?_
     rotate_left
     ·intro w'
      go_simp
      with_reducible rfl
     rotate_left
     ·simp only [pS]
      rfl
     refine last_ (i := 10) (N := none) #[T, T, T, T, T, T, T, T, T, T, T] rfl rfl (one_of HT_.out (by kernel_rfl)) (by decide) (fun K hK => ?_)
     refine skip_ (w1 := ?_) (by rfl) rfl ?_ ?_
     rotate_left
     ·go_simp
      rfl
     refine hK.out _ _ ?_
     clear hK K
     refine done_ (done_of HT_.out (by kernel_rfl)) ?_
     try go_wp2
     have n0_ : Aside0 (Kd.N k38 38 (w44.setCell ⟨go38, (t191 : Int).toNat, none⟩ (.int .i64 (wrap64 ((rd x180000_2 t191) + 1)))) w.heap.size (fun k_ => ((P0_4_ k_ ∨ P0_5_ k_) ∨ w.heap.size ≤ k_) ∧ some k_ ≠ (.slice (some ⟨go38, 0, none⟩) x180000_2.length co45 : Value).ownBlock ∧ some k_ ≠ (u180001 : Value).ownBlock ∧ k_ ≠ gb170 ∧ k_ ≠ gb179) (.slice (some ad190) y186.length co42) y186) := ⟨by (with_reducible repeat (first | apply Kd.N_alloc | apply Kd.N_drewN | apply Kd.N_drew)); exact Kd.N_mono (Kd.N_far (p := ⟨go38, (t191 : Int).toNat, none⟩) (Kd.N_mono HO_4.out (fun k_ hk => (⟨hk, fun e_ => hk.2.1 (by rw [e_]; rfl)⟩ : _ ∧ k_ ≠ go38))) (fun _ hk => hk.2) (.int .i64 (wrap64 ((rd x180000_2 t191) + 1)))) (fun _ hk => ⟨hk.1.1, ⟨hk.1.2.1, ⟨hk.1.2.2.1, ⟨hk.1.2.2.2.1, hk.1.2.2.2.2⟩⟩⟩⟩)⟩
     have n1_ : Aside0 (Kd.V k38 38 (w44.setCell ⟨go38, (t191 : Int).toNat, none⟩ (.int .i64 (wrap64 ((rd x180000_2 t191) + 1)))) w.heap.size (fun k_ => ((P0_4_ k_ ∨ P0_5_ k_) ∨ w.heap.size ≤ k_) ∧ some k_ ≠ (.slice (some ad190) y186.length co42 : Value).ownBlock ∧ some k_ ≠ (.slice (some ⟨go38, 0, none⟩) x180000_2.length co45 : Value).ownBlock ∧ some k_ ≠ (u180001 : Value).ownBlock ∧ k_ ≠ gb170 ∧ k_ ≠ gb179) (.slice A0_4 l0_4.length c0_4) l0_4) := ⟨by (with_reducible repeat (first | apply Kd.V_alloc | apply Kd.V_drewN | apply Kd.V_drew)); exact Kd.V_mono (Kd.V_far (p := ⟨go38, (t191 : Int).toNat, none⟩) (Kd.V_mono HO_171004.out (fun k_ hk => (⟨hk, fun e_ => hk.2.2.1 (by rw [e_]; rfl)⟩ : _ ∧ k_ ≠ go38))) (fun _ hk => hk.2) (.int .i64 (wrap64 ((rd x180000_2 t191) + 1)))) (fun _ hk => ⟨hk.1.1, ⟨hk.1.2.1, ⟨hk.1.2.2.1, ⟨hk.1.2.2.2.1, ⟨hk.1.2.2.2.2.1, hk.1.2.2.2.2.2⟩⟩⟩⟩⟩)⟩
     have n2_ : Aside0 (Kd.V k38 38 (w44.setCell ⟨go38, (t191 : Int).toNat, none⟩ (.int .i64 (wrap64 ((rd x180000_2 t191) + 1)))) w.heap.size (fun k_ => ((P0_4_ k_ ∨ P0_5_ k_) ∨ w.heap.size ≤ k_) ∧ some k_ ≠ (.slice (some ad190) y186.length co42 : Value).ownBlock ∧ some k_ ≠ (.slice (some ⟨go38, 0, none⟩) x180000_2.length co45 : Value).ownBlock ∧ some k_ ≠ (u180001 : Value).ownBlock ∧ k_ ≠ gb170 ∧ k_ ≠ gb179) (.slice A0_5 l0_5.length c0_5) l0_5) := ⟨by (with_reducible repeat (first | apply Kd.V_alloc | apply Kd.V_drewN | apply Kd.V_drew)); exact Kd.V_mono (Kd.V_far (p := ⟨go38, (t191 : Int).toNat, none⟩) (Kd.V_mono HO_171005.out (fun k_ hk => (⟨hk, fun e_ => hk.2.2.1 (by rw [e_]; rfl)⟩ : _ ∧ k_ ≠ go38))) (fun _ hk => hk.2) (.int .i64 (wrap64 ((rd x180000_2 t191) + 1)))) (fun _ hk => ⟨hk.1.1, ⟨hk.1.2.1, ⟨hk.1.2.2.1, ⟨hk.1.2.2.2.1, ⟨hk.1.2.2.2.2.1, hk.1.2.2.2.2.2⟩⟩⟩⟩⟩)⟩
     have n3_ : Aside0 (Kd.R (Kd.int .i64) 3 (w44.setCell ⟨go38, (t191 : Int).toNat, none⟩ (.int .i64 (wrap64 ((rd x180000_2 t191) + 1)))) w.heap.size (fun k_ => (w.heap.size ≤ k_) ∧ some k_ ≠ (u180001 : Value).ownBlock) (.slice (some ⟨go38, 0, none⟩) x180000_2.length co45) y193) := ⟨by (repeat apply rX); exact HQ46.out⟩
     have n4_ : Aside0 (Kd.R (Kd.int .i64) 3 (w44.setCell ⟨go38, (t191 : Int).toNat, none⟩ (.int .i64 (wrap64 ((rd x180000_2 t191) + 1)))) w.heap.size (fun k_ => (w.heap.size ≤ k_) ∧ some k_ ≠ (.slice (some ⟨go38, 0, none⟩) x180000_2.length co45 : Value).ownBlock) u180001 x180001_2) := ⟨by (repeat apply rX); exact Kd.R_mono (Kd.R_far (p := ⟨go38, (t191 : Int).toNat, none⟩) (Kd.R_mono HO_180001.out (fun k_ hk => (⟨hk, fun e_ => hk.2 (by rw [e_]; rfl)⟩ : _ ∧ k_ ≠ go38))) (fun _ hk => hk.2) (.int .i64 (wrap64 ((rd x180000_2 t191) + 1)))) (fun _ hk => ⟨hk.1.1, hk.1.2⟩)⟩
     have n5_ : Aside0 (Kd.V (Kd.int .i64) 3 (w44.setCell ⟨go38, (t191 : Int).toNat, none⟩ (.int .i64 (wrap64 ((rd x180000_2 t191) + 1)))) w.heap.size (fun k_ => ((P0_4_ k_ ∨ P0_5_ k_) ∨ w.heap.size ≤ k_) ∧ some k_ ≠ (.slice (some ad190) y186.length co42 : Value).ownBlock ∧ some k_ ≠ (.slice (some ⟨go38, 0, none⟩) x180000_2.length co45 : Value).ownBlock ∧ some k_ ≠ (u180001 : Value).ownBlock ∧ k_ ≠ gb170 ∧ k_ ≠ gb179) (.slice A190_7 ((rd_T38 y186 x5_2).f7).length c190_7) ((rd_T38 y186 x5_2).f7)) := ⟨by (with_reducible repeat (first | apply Kd.V_alloc | apply Kd.V_drewN | apply Kd.V_drew)); exact Kd.V_mono (Kd.V_far (p := ⟨go38, (t191 : Int).toNat, none⟩) (Kd.V_mono HL190_7.out (fun k_ hk => (⟨hk, fun e_ => hk.1.2.1 (by rw [e_]; rfl)⟩ : _ ∧ k_ ≠ go38))) (fun _ hk => hk.2) (.int .i64 (wrap64 ((rd x180000_2 t191) + 1)))) (fun _ hk => ⟨hk.1.1.1, ⟨hk.1.2, ⟨hk.1.1.2.1, ⟨hk.1.1.2.2.1, ⟨hk.1.1.2.2.2.1, hk.1.1.2.2.2.2⟩⟩⟩⟩⟩)⟩
     have n6_ : Aside0 ((w44.setCell ⟨go38, (t191 : Int).toNat, none⟩ (.int .i64 (wrap64 ((rd x180000_2 t191) + 1)))).heap[gb170]? = some (.cells #[.slice A0_0 l0_0.length c0_0, .slice A0_1 l0_1.length c0_1, .slice A0_2 l0_2.length c0_2, .slice A0_3 l0_3.length c0_3, .slice A0_4 l0_4.length c0_4, .slice A0_5 l0_5.length c0_5] 33 (0, 0))) := ⟨by (repeat apply bX); refine blk_far ?_ (by have h_ := Kd.R_ne HO_180000.out BK170.out (by decide); intro e_; exact h_ (by rw [e_]; rfl)) _; (repeat apply bX); exact BK170.out⟩
     have n7_ : Aside0 ((w44.setCell ⟨go38, (t191 : Int).toNat, none⟩ (.int .i64 (wrap64 ((rd x180000_2 t191) + 1)))).heap[gb179]? = some (.cells #[.slice (some ⟨go38, 0, none⟩) x180000_2.length co45, u180001] 30 (0, 0))) := ⟨by (repeat apply bX); refine blk_far ?_ (by have h_ := Kd.R_ne HO_180000.out BK179.out (by decide); intro e_; exact h_ (by rw [e_]; rfl)) _; (repeat apply bX); exact BK179.out⟩
     have n8_ : Aside0 (Below w.heap.size w (w44.setCell ⟨go38, (t191 : Int).toNat, none⟩ (.int .i64 (wrap64 ((rd x180000_2 t191) + 1))))) := ⟨by repeat (first | (with_reducible first | exact HB.out | apply below_alloc | apply pw_below_drewN | apply below_drew1 | refine below_set ?_ GB38.out | refine below_set ?_ GE170.out | refine below_set ?_ GE179.out) | exact HB.out)⟩
     generalize (w44.setCell ⟨go38, (t191 : Int).toNat, none⟩ (.int .i64 (wrap64 ((rd x180000_2 t191) + 1)))) = w47 at n0_ n1_ n2_ n3_ n4_ n5_ n6_ n7_ n8_ ⊢
     have HO_4 := n0_
     have HO_171004 := n1_
     have HO_171005 := n2_
     have HO_180000 := n3_
     have HO_180001 := n4_
     have HL190_7 := n5_
     have BK170 := n6_
     have BK179 := n7_
     have HB := n8_
     clear n0_ n1_ n2_ n3_ n4_ n5_ n6_ n7_ n8_
     have n0_ := Aside0.mk (Kd.N_drew HO_4.out)
     have n1_ := Aside0.mk (Kd.V_drew HO_171004.out)
     have n2_ := Aside0.mk (Kd.V_drew HO_171005.out)
     have n3_ := Aside0.mk (Kd.R_drew HO_180000.out)
     have n4_ := Aside0.mk (Kd.R_drew HO_180001.out)
     have n5_ := Aside0.mk (Kd.V_drew HL190_7.out)
     have n6_ := Aside0.mk (blk_drew BK170.out)
     have n7_ := Aside0.mk (blk_drew BK179.out)
     have n8_ := Aside0.mk (below_drew1 HB.out)
     clear HO_4
     clear HO_171004
     clear HO_171005
     clear HO_180000
     clear HO_180001
     clear HL190_7
     clear BK170
     clear BK179
     clear HB
     have HO_4 := n0_
     have HO_171004 := n1_
     have HO_171005 := n2_
     have HO_180000 := n3_
     have HO_180001 := n4_
     have HL190_7 := n5_
     have BK170 := n6_
     have BK179 := n7_
     have HB := n8_
     clear n0_ n1_ n2_ n3_ n4_ n5_ n6_ n7_ n8_
     obtain ⟨Ao49, co49, eo49⟩ := Kd.R_slice HO_180001.out
     (first | subst eo49 | (injection eo49 with f1_ f2_ f3_; have f4_ := f1_.symm; have f5_ := f3_.symm; clear f1_ f2_ f3_; subst f4_; subst f5_))
     have p194 : 0 ≤ (t191 : Int) := of_decide_eq_true (by first | (with_reducible assumption) | assumption)
     have q194 : t191 < (x180001_2.length : Int) := of_decide_eq_true (by first | (with_reducible assumption) | assumption)
     obtain ⟨ad194, e194, hx194_0⟩ := Kd.at_int (Kd.R_reads' HO_180001.out).2.2 t191 p194 q194
     cases e194
     replace p194 := eq_true p194
     replace q194 := eq_true q194
     have p195 : 0 ≤ (x5_2 : Int) := of_decide_eq_true (by first | (with_reducible assumption) | assumption)
     have q195 : x5_2 < (y186.length : Int) := of_decide_eq_true (by first | (with_reducible assumption) | assumption)
     obtain ⟨ad195, A195_7, c195_7, e195, hx195_0, hx195_1, hx195_2, hx195_3, hx195_4, hx195_5, hx195_6, hx195_7, hl195_7, hi195_7⟩ := at_T38 (Kd.N_reads' HO_4.out).2.2 x5_2 p195 q195
     obtain rfl : ad190 = ad195 := (by injection e195)
     obtain ⟨ce195, hce195, hMe195, hcc195⟩ := Kd.N_get HO_4.out z38 x5_2 p195 (by first | exact q195 | exact of_decide_eq_true (by first | (with_reducible assumption) | assumption) | (have e_ := (Kd.N_reads' HO_4.out).1; omega))
     obtain ⟨ua195_7, uc195_7, rfl, ul195_7, ge195_7⟩ := k38_openF hMe195
     have hv195_7 := hcc195 7 _ rfl
     rw [add_field _ _ 7 (by omega)] at hv195_7
     replace hv195_7 := Option.some.inj (hv195_7.symm.trans hx195_7)
     injection hv195_7 with hva_ hvn_ hvc_
     rw [hva_] at ge195_7
     rw [hvc_] at ul195_7
     have HL195_7 := Aside0.mk (show Kd.V (Kd.int .i64) 3 _ w.heap.size _ _ ((rd_T38 y186 x5_2).f7) from Kd.V_mk ul195_7 ge195_7)
     clear hva_ hvn_ hvc_ ge195_7 ul195_7
     clear hcc195 hce195
     have HR195_7 := Aside0.mk hi195_7
     have HC195_7 := Aside0.mk hl195_7
     clear hi195_7 hl195_7
     replace p195 := eq_true p195
     replace q195 := eq_true q195
     refine start_ (n := 16) (S := fun w' => w'.cell? ⟨gb179, 0, none⟩ = some (.slice (some ⟨go38, 0, none⟩) x180000_2.length co45) ∧ w'.cell? ⟨gb179, 1, none⟩ = some (.slice (some ad194) x180001_2.length co49) ∧ w'.cell? (ad194.add (t191).toNat) = some (.int .i64 (rd x180001_2 t191)) ∧ w'.cell? (ad190.add ((x5_2).toNat * 8)) = some (.int .i64 ((rd_T38 y186 x5_2).f0)) ∧ w'.cell? ⟨(ad190.add ((x5_2).toNat * 8)).block, (ad190.add ((x5_2).toNat * 8)).off + 1, none⟩ = some (.int .i64 ((rd_T38 y186 x5_2).f1)) ∧ w'.cell? ⟨(ad190.add ((x5_2).toNat * 8)).block, (ad190.add ((x5_2).toNat * 8)).off + 2, none⟩ = some (.int .i64 ((rd_T38 y186 x5_2).f2)) ∧ w'.cell? ⟨(ad190.add ((x5_2).toNat * 8)).block, (ad190.add ((x5_2).toNat * 8)).off + 3, none⟩ = some (.int .i64 ((rd_T38 y186 x5_2).f3)) ∧ w'.cell? ⟨(ad190.add ((x5_2).toNat * 8)).block, (ad190.add ((x5_2).toNat * 8)).off + 4, none⟩ = some (.int .i64 ((rd_T38 y186 x5_2).f4)) ∧ w'.cell? ⟨(ad190.add ((x5_2).toNat * 8)).block, (ad190.add ((x5_2).toNat * 8)).off + 5, none⟩ = some (.int .i64 ((rd_T38 y186 x5_2).f5)) ∧ w'.cell? ⟨(ad190.add ((x5_2).toNat * 8)).block, (ad190.add ((x5_2).toNat * 8)).off + 6, none⟩ = some (.int .i64 ((rd_T38 y186 x5_2).f6)) ∧ w'.cell? ⟨(ad190.add ((x5_2).toNat * 8)).block, (ad190.add ((x5_2).toNat * 8)).off + 7, none⟩ = some (.slice A195_7 ((rd_T38 y186 x5_2).f7).length c195_7)) (ds := [15]) #[F, F, F, F, F, F, F, F, F, F, F, F, F, F, F, F] (by kernel_rfl) rfl rfl ⟨(blk_cell BK179.out 0).trans rfl, (blk_cell BK179.out 1).trans rfl, hx194_0, hx195_0, hx195_1, hx195_2, hx195_3, hx195_4, hx195_5, hx195_6, hx195_7⟩ (fun hHeld => ?_); refine with_tabW spec_ChannelOk.tab12 spec_ChannelOk.bits12 (fun HT_ HW_ => ?_)
     generalize w47.drew = w48 at HO_4 HO_171004 HO_171005 HO_180000 HO_180001 HL190_7 BK170 BK179 HB HL195_7 HQ46 HR195_7 hx194_0 hx195_0 hx195_1 hx195_2 hx195_3 hx195_4 hx195_5 hx195_6 hx195_7 hHeld ⊢
     refine pure_ (i := 0) (N := some 50) (v := ?_) (a' := ?_) #[T, F, F, F, F, F, F, F, F, F, F, F, F, F, F, F] rfl rfl (any_of HT_.out (by kernel_rfl)) (fun _ _ _ h => h) (Or.inl ⟨by rfl, ?_⟩) ?_ ?_
     rotate_left
     ·intro w'
      go_simp
      with_reducible rfl
     rotate_left
     ·simp only [pS]
      rfl
     refine pure_ (i := 2) (N := some 52) (v := ?_) (a' := ?_) #[T, F, T, F, F, F, F, F, F, F, F, F, F, F, F, F] rfl rfl (any_of HT_.out (by kernel_rfl)) (fun _ _ _ h => h) (Or.inl ⟨by rfl, ?_⟩) ?_ ?_
     rotate_left
     ·intro w'
      go_simp
      with_reducible rfl
     rotate_left
     ·simp only [pS]
      rfl
     refine pure_ (i := 3) (N := some 53) (v := ?_) (a' := ?_) #[T, F, T, T, F, F, F, F, F, F, F, F, F, F, F, F] rfl rfl (any_of HT_.out (by kernel_rfl)) (fun _ _ _ h => h) (Or.inl ⟨by rfl, ?_⟩) ?_ ?_
     rotate_left
     ·intro w'
      go_simp
      with_reducible rfl
     rotate_left
     ·simp only [pS]
      rfl
     refine pure_ (i := 5) (N := some 55) (v := ?_) (a' := ?_) #[T, F, T, T, F, T, F, F, F, F, F, F, F, F, F, F] rfl rfl (any_of HT_.out (by kernel_rfl)) (fun _ _ _ h => h) (Or.inl ⟨by rfl, ?_⟩) ?_ ?_
     rotate_left
     ·intro w'
      go_simp
      with_reducible rfl
     rotate_left
     ·simp only [pS]
      rfl
     refine pure_ (i := 8) (N := some 58) (v := ?_) (a' := ?_) #[T, F, T, T, F, T, F, F, T, F, F, F, F, F, F, F] rfl rfl (any_of HT_.out (by kernel_rfl)) (fun _ _ _ h => h) (Or.inl ⟨by rfl, ?_⟩) ?_ ?_
     rotate_left
     ·intro w'
      go_simp
      with_reducible rfl
     rotate_left
     ·simp only [pS]
      rfl
     refine pure_ (i := 9) (N := some 59) (v := ?_) (a' := ?_) #[T, F, T, T, F, T, F, F, T, T, F, F, F, F, F, F] rfl rfl (any_of HT_.out (by kernel_rfl)) (fun _ _ _ h => h) (Or.inl ⟨by rfl, ?_⟩) ?_ ?_
     rotate_left
     ·intro w'
      go_simp
      with_reducible rfl
     rotate_left
     ·simp only [pS]
      rfl
     refine pure_ (i := 10) (N := some 60) (v := ?_) (a' := ?_) #[T, F, T, T, F, T, F, F, T, T, T, F, F, F, F, F] rfl rfl (any_of HT_.out (by kernel_rfl)) (fun _ _ _ h => h) (Or.inl ⟨by rfl, ?_⟩) ?_ ?_
     rotate_left
     ·intro w'
      go_simp
      with_reducible rfl
     rotate_left
     ·simp only [pS]
      rfl
     refine take_ (i := 1) (N := some 51) (v := ?_) (a' := ?_) #[T, T, T, T, F, T, F, F, T, T, T, F, F, F, F, F] rfl rfl (take_ofW HT_.out HW_.out (by kernel_rfl)) (fun _ _ _ h => h) (Or.inl ⟨by rfl, ?_⟩) hHeld ?_ ?_
     rotate_left
     ·rintro w' ⟨s0, s1, s2, s3, s4, s5, s6, s7, s8, s9, s10⟩
      go_simp
      with_reducible rfl
     rotate_left
     ·simp only [pS]
      rfl
     refine take_ (i := 4) (N := some 54) (v := ?_) (a' := ?_) #[T, T, T, T, T, T, F, F, T, T, T, F, F, F, F, F] rfl rfl (take_ofW HT_.out HW_.out (by kernel_rfl)) (fun _ _ _ h => h) (Or.inl ⟨by rfl, ?_⟩) hHeld ?_ ?_
     rotate_left
     ·rintro w' ⟨s0, s1, s2, s3, s4, s5, s6, s7, s8, s9, s10⟩
      go_simp
      with_reducible rfl
     rotate_left
     ·simp only [pS]
      rfl
     refine pure_ (i := 6) (N := some 56) (v := ?_) (a' := ?_) #[T, T, T, T, T, T, T, F, T, T, T, F, F, F, F, F] rfl rfl (any_of HT_.out (by kernel_rfl)) (fun _ _ _ h => h) (Or.inl ⟨by rfl, ?_⟩) ?_ ?_
     rotate_left
     ·intro w'
      go_simp
      with_reducible rfl
     rotate_left
     ·simp only [pS]
      rfl
     refine take_ (i := 7) (N := some 57) (v := ?_) (a' := ?_) #[T, T, T, T, T, T, T, T, T, T, T, F, F, F, F, F] rfl rfl (take_ofW HT_.out HW_.out (by kernel_rfl)) (fun _ _ _ h => h) (Or.inl ⟨by rfl, ?_⟩) hHeld ?_ ?_
     rotate_left
     ·rintro w' ⟨s0, s1, s2, s3, s4, s5, s6, s7, s8, s9, s10⟩
      go_simp
      with_reducible rfl
     rotate_left
     ·simp only [pS]
      rfl
     refine take_ (i := 11) (N := some 61) (v := ?_) (a' := ?_) #[T, T, T, T, T, T, T, T, T, T, T, T, F, F, F, F] rfl rfl (take_ofW HT_.out HW_.out (by kernel_rfl)) (fun _ _ _ h => h) (Or.inl ⟨by rfl, ?_⟩) hHeld ?_ ?_
     rotate_left
     ·rintro w' ⟨s0, s1, s2, s3, s4, s5, s6, s7, s8, s9, s10⟩
      go_simp
      with_reducible rfl
     rotate_left
     ·simp only [pS]
      rfl
     refine one_ (i := 12) (N := some 62) #[T, T, T, T, T, T, T, T, T, T, T, T, T, F, F, F] rfl rfl (one_of HT_.out (by kernel_rfl)) (by decide) (fun K hK => ?_)
     refine goes_ Try.func36 (by kernel_rfl) rfl #[.agg #[.int .i64 ((rd_T38 y186 x5_2).f0), .int .i64 ((rd_T38 y186 x5_2).f1), .int .i64 ((rd_T38 y186 x5_2).f2), .int .i64 ((rd_T38 y186 x5_2).f3), .int .i64 ((rd_T38 y186 x5_2).f4), .int .i64 ((rd_T38 y186 x5_2).f5), .int .i64 ((rd_T38 y186 x5_2).f6), .slice A195_7 ((rd_T38 y186 x5_2).f7).length c195_7]] (by rfl) rfl rfl (by (try simp only [List.map_toArray, List.map_cons, List.map_nil]); first | done | rfl) ?_
     with_reducible refine (spec_PacketUnits.calls k2 ((rd_T38 y186 x5_2).f0) ((rd_T38 y186 x5_2).f1) ((rd_T38 y186 x5_2).f2) ((rd_T38 y186 x5_2).f3) ((rd_T38 y186 x5_2).f4) ((rd_T38 y186 x5_2).f5) ((rd_T38 y186 x5_2).f6) _ _ ((rd_T38 y186 x5_2).f7) t196 _ ?side1 ?side2 A40.out).mono ?_
     (case side1 => repeat (first | exact (by repeat (first | (with_reducible exact HR195_7.out) | (with_reducible refine Kd.C_alloc ?_ _) | (with_reducible refine Kd.C_drewN ?_ _) | (with_reducible refine Kd.C_drew ?_) | exact HR195_7.out)) | (with_reducible refine Kd.C_alloc ?_ _) | (with_reducible refine Kd.C_drewN ?_ _) | (with_reducible refine Kd.C_drew ?_)))
     (case side2 => exact HC195_7.out)
     rintro e w50 ⟨rfl, hb⟩
     have HS2_ := (hb.cell (World.block_lt_of_cell? _ _ (hHeld.2.2.1))).trans (hHeld.2.2.1)
     have HS3_ := (hb.cell (World.block_lt_of_cell? _ _ (hHeld.2.2.2.1))).trans (hHeld.2.2.2.1)
     have HS4_ := (hb.cell (World.block_lt_of_cell? _ _ (hHeld.2.2.2.2.1))).trans (hHeld.2.2.2.2.1)
     have HS5_ := (hb.cell (World.block_lt_of_cell? _ _ (hHeld.2.2.2.2.2.1))).trans (hHeld.2.2.2.2.2.1)
     have HS6_ := (hb.cell (World.block_lt_of_cell? _ _ (hHeld.2.2.2.2.2.2.1))).trans (hHeld.2.2.2.2.2.2.1)
     have HS7_ := (hb.cell (World.block_lt_of_cell? _ _ (hHeld.2.2.2.2.2.2.2.1))).trans (hHeld.2.2.2.2.2.2.2.1)
     have HS8_ := (hb.cell (World.block_lt_of_cell? _ _ (hHeld.2.2.2.2.2.2.2.2.1))).trans (hHeld.2.2.2.2.2.2.2.2.1)
     have HS9_ := (hb.cell (World.block_lt_of_cell? _ _ (hHeld.2.2.2.2.2.2.2.2.2.1))).trans (hHeld.2.2.2.2.2.2.2.2.2.1)
     have HS10_ := (hb.cell (World.block_lt_of_cell? _ _ (hHeld.2.2.2.2.2.2.2.2.2.2))).trans (hHeld.2.2.2.2.2.2.2.2.2.2)
     refine ⟨_, rfl, ?_⟩
     have n0_ := Aside0.mk (Kd.N_below (by (with_reducible repeat (first | apply Kd.N_alloc | apply Kd.N_drewN | apply Kd.N_drew)); exact HO_4.out) hb)
     have n1_ := Aside0.mk (Kd.V_below (by (with_reducible repeat (first | apply Kd.V_alloc | apply Kd.V_drewN | apply Kd.V_drew)); exact HO_171004.out) hb)
     have n2_ := Aside0.mk (Kd.V_below (by (with_reducible repeat (first | apply Kd.V_alloc | apply Kd.V_drewN | apply Kd.V_drew)); exact HO_171005.out) hb)
     have n3_ := Aside0.mk (Kd.R_below (rY HO_180000.out) hb)
     have n4_ := Aside0.mk (Kd.R_below (rY HO_180001.out) hb)
     have n5_ := Aside0.mk (Kd.V_below (by (with_reducible repeat (first | apply Kd.V_alloc | apply Kd.V_drewN | apply Kd.V_drew)); exact HL190_7.out) hb)
     have n6_ := Aside0.mk (Kd.V_below (by (with_reducible repeat (first | apply Kd.V_alloc | apply Kd.V_drewN | apply Kd.V_drew)); exact HL195_7.out) hb)
     have n7_ := Aside0.mk (blk_below (bY BK170.out) hb)
     have n8_ := Aside0.mk (blk_below (bY BK179.out) hb)
     have n9_ := Aside0.mk (Kd.C_below (by repeat (first | (with_reducible exact HR195_7.out) | (with_reducible refine Kd.C_alloc ?_ _) | (with_reducible refine Kd.C_drewN ?_ _) | (with_reducible refine Kd.C_drew ?_) | exact HR195_7.out)) hb)
     have n10_ := Aside0.mk (below_step (by repeat (first | (with_reducible first | exact HB.out | apply below_alloc | apply pw_below_drewN | apply below_drew1 | refine below_set ?_ GE170.out | refine below_set ?_ GE179.out) | exact HB.out)) hb)
     clear HO_4
     clear HO_171004
     clear HO_171005
     clear HO_180000
     clear HO_180001
     clear HL190_7
     clear HL195_7
     clear BK170
     clear BK179
     clear HR195_7
     clear HB
     have HO_4 := n0_
     have HO_171004 := n1_
     have HO_171005 := n2_
     have HO_180000 := n3_
     have HO_180001 := n4_
     have HL190_7 := n5_
     have HL195_7 := n6_
     have BK170 := n7_
     have BK179 := n8_
     have HR195_7 := n9_
     have HB := n10_
     clear n0_ n1_ n2_ n3_ n4_ n5_ n6_ n7_ n8_ n9_ n10_
     have p41 : 0 ≤ (t191 : Int) := of_decide_eq_true (by first | (with_reducible assumption) | assumption)
     have q41 : (t191 : Int) < ((x180001_2.length : Int) : Int) := of_decide_eq_true (by first | (with_reducible assumption) | assumption)
     obtain ⟨go41, co41, eo41, gb41, gl41, cl41, HG41⟩ := Kd.R_form HO_180001.out (by omega)
     (first | cases eo41 | (injection eo41 with ea_ en_ ec_; (first | subst ea_ | (injection ea_ with ea_; subst ea_)); subst ec_; clear en_))
     have GB41 := Aside0.mk gb41
     have GG41 := Aside0.mk HG41
     clear gb41 gl41 HG41
     (first | simp only [add_plain] at hx194_0 | skip)
     obtain ⟨hx41_0, hf41_0⟩ := Kd.R_celln 0 HO_180001.out (t191 : Int) p41 q41
     replace p41 := eq_true p41
     replace q41 := eq_true q41
     have HP51 := Kd.R_putn HO_180001.out (t191 : Int) (wrap64 ((rd x180001_2 t191) + t196))
     rw [← Ny197.out] at HP51
     have HQ51 := Aside0.mk HP51
     clear HP51
     refine hK.out _ _ ⟨(blk_cell BK179.out 0).trans rfl, (blk_cell BK179.out 1).trans rfl, HS2_, HS3_, HS4_, HS5_, HS6_, HS7_, HS8_, HS9_, HS10_⟩ (fun hHeld => ?_)
     clear hK K
     refine norm_ (a' := ?_) ?_ ?_
     rotate_left
     ·show Act.put _ (some 62) _ = _
      simp only [pS]
      rfl
     refine pure_ (i := 13) (N := some 63) (v := ?_) (a' := ?_) #[T, T, T, T, T, T, T, T, T, T, T, T, T, T, F, F] rfl rfl (any_of HT_.out (by kernel_rfl)) (fun _ _ _ h => h) (Or.inl ⟨by rfl, ?_⟩) ?_ ?_
     rotate_left
     ·intro w'
      go_simp
      with_reducible rfl
     rotate_left
     ·simp only [pS]
      rfl
     refine pure_ (i := 14) (N := some 64) (v := ?_) (a' := ?_) #[T, T, T, T, T, T, T, T, T, T, T, T, T, T, T, F] rfl rfl (any_of HT_.out (by kernel_rfl)) (fun _ _ _ h => h) (Or.inl ⟨by rfl, ?_⟩) ?_ ?_
     rotate_left
     ·intro w'
      go_simp
      with_reducible rfl
     rotate_left
     ·simp only [pS]
      rfl
     refine last_ (i := 15) (N := none) #[T, T, T, T, T, T, T, T, T, T, T, T, T, T, T, T] rfl rfl (one_of HT_.out (by kernel_rfl)) (by decide) (fun K hK => ?_)
     refine skip_ (w1 := ?_) (by rfl) rfl ?_ ?_
     rotate_left
     ·go_simp
      rfl
     refine hK.out _ _ ?_
     clear hK K
     refine done_ (done_of HT_.out (by kernel_rfl)) ?_
     try go_wp2
     go_roundg k2
     case measure => have := HJ1.out; have := HK2.out; omega
     case rel => exact ⟨(wrap64 (x5_2 + 1)), (y193), (y197), (.slice (some ⟨go38, 0, none⟩) x180000_2.length co45), (.slice (some ⟨go41, 0, none⟩) x180001_2.length co49), (by first | rfl | (simp; done) | (simp [*]; done)), H', ⟨by have := HJ1.out; have := HK2.out; omega⟩, ⟨by (with_reducible repeat (first | apply Kd.N_alloc | apply Kd.N_drewN | apply Kd.N_drew)); exact Kd.N_mono (Kd.N_far (p := ⟨go41, (t191 : Int).toNat, none⟩) (Kd.N_mono HO_4.out (fun k_ hk => (⟨hk, fun e_ => hk.2.2.1 (by rw [e_]; rfl)⟩ : _ ∧ k_ ≠ go41))) (fun _ hk => hk.2) (.int .i64 (wrap64 ((rd x180001_2 t191) + t196)))) (fun _ hk => ⟨hk.1.1, ⟨hk.1.2.1, ⟨hk.1.2.2.1, ⟨hk.1.2.2.2.1, hk.1.2.2.2.2⟩⟩⟩⟩)⟩, ⟨by (with_reducible repeat (first | apply Kd.V_alloc | apply Kd.V_drewN | apply Kd.V_drew)); exact Kd.V_mono (Kd.V_far (p := ⟨go41, (t191 : Int).toNat, none⟩) (Kd.V_mono HO_171004.out (fun k_ hk => (⟨hk, fun e_ => hk.2.2.2.1 (by rw [e_]; rfl)⟩ : _ ∧ k_ ≠ go41))) (fun _ hk => hk.2) (.int .i64 (wrap64 ((rd x180001_2 t191) + t196)))) (fun _ hk => ⟨hk.1.1, ⟨hk.1.2.1, ⟨hk.1.2.2.1, ⟨hk.1.2.2.2.1, ⟨hk.1.2.2.2.2.1, hk.1.2.2.2.2.2⟩⟩⟩⟩⟩)⟩, ⟨by (with_reducible repeat (first | apply Kd.V_alloc | apply Kd.V_drewN | apply Kd.V_drew)); exact Kd.V_mono (Kd.V_far (p := ⟨go41, (t191 : Int).toNat, none⟩) (Kd.V_mono HO_171005.out (fun k_ hk => (⟨hk, fun e_ => hk.2.2.2.1 (by rw [e_]; rfl)⟩ : _ ∧ k_ ≠ go41))) (fun _ hk => hk.2) (.int .i64 (wrap64 ((rd x180001_2 t191) + t196)))) (fun _ hk => ⟨hk.1.1, ⟨hk.1.2.1, ⟨hk.1.2.2.1, ⟨hk.1.2.2.2.1, ⟨hk.1.2.2.2.2.1, hk.1.2.2.2.2.2⟩⟩⟩⟩⟩)⟩, ⟨by (repeat apply rX); exact Kd.R_mono (Kd.R_far (p := ⟨go41, (t191 : Int).toNat, none⟩) (Kd.R_mono HO_180000.out (fun k_ hk => (⟨hk, fun e_ => hk.2 (by rw [e_]; rfl)⟩ : _ ∧ k_ ≠ go41))) (fun _ hk => hk.2) (.int .i64 (wrap64 ((rd x180001_2 t191) + t196)))) (fun _ hk => ⟨hk.1.1, hk.1.2⟩)⟩, ⟨by (repeat apply rX); exact HQ51.out⟩, ⟨by (repeat apply bX); refine blk_far ?_ (by have h_ := Kd.R_ne HO_180001.out BK170.out (by decide); intro e_; exact h_ (by rw [e_]; rfl)) _; (repeat apply bX); exact BK170.out⟩, ⟨by (repeat apply bX); refine blk_far ?_ (by have h_ := Kd.R_ne HO_180001.out BK179.out (by decide); intro e_; exact h_ (by rw [e_]; rfl)) _; (repeat apply bX); exact BK179.out⟩, ⟨by repeat (first | (with_reducible first | exact HB.out | apply below_alloc | apply pw_below_drewN | apply below_drew1 | refine below_set ?_ GB41.out | refine below_set ?_ GE170.out | refine below_set ?_ GE179.out) | exact HB.out)⟩⟩
end Go.Proofs.Ytlombfmebinjbaa.PFnExactChannelOk
