-- Written by a program of this session (wip/xp): not trusted, Lean checks it.
import Derived.Test.YtlombfmebinjbaaPFnExactTellCreditsx0
import Derived.Test.YtlombfmebinjbaaPFnExactTellCreditsx6
import Derived.Test.YtlombfmebinjbaaPFnExactTellCreditsx9
namespace Go.Proofs.Ytlombfmebinjbaa.PFnExactTellCredits
open Go.RowKit Go.Proofs.YtlombfmebinjbaaW.PrintWords Go.Proofs.YtlombfmebinjbaaW.PrintLast Go.Proofs.YtlombfmebinjbaaW.PrintMore
attribute [local go_sem] max2_int min2_int max_two min_two max_three min_three max_four min_four   -- for this text's walks alone
set_option linter.unusedVariables false
set_option linter.unusedSimpArgs false

/-! ### spec_ChannelOk: function 9 -/
mutual
def spec_ChannelOk.j0 : Nat → Bool → List Int → List Int → List Int → List Int → List (S38) → List (S38) → Option (Bool)
 | 0, _, _, _, _, _, _, _ => none
 | k + 1, x16, x184000, x184001, x184002, x184003, x184004, x184005 => if x16 = true then (some false) else ((spec_l14Copy.f x184002 x184003).bind fun bt186 => ((some (([] : List (S38)) : List (S38))).bind fun y193 => (if y193.length + x184004.length < 1759218604441 then ((some (y193 ++ x184004 : List (S38))).bind fun y196 => (if y196.length + x184005.length < 1759218604441 then (spec_ChannelOk.l0 k (y196 ++ x184005) 0 x184000 x184001 x184002 x184003 x184004 x184005 bt186.1 bt186.2) else (none))) else (none))))
def spec_ChannelOk.l0 : Nat → List (S38) → Int → List Int → List Int → List Int → List Int → List (S38) → List (S38) → List Int → List Int → Option (Bool)
 | 0, _, _, _, _, _, _, _, _, _, _ => none
 | k + 1, x4, x5, x184000, x184001, x184002, x184003, x184004, x184005, x193000, x193001 => if x5 < (x4.length : Int) then (if 0 ≤ x5 then ((spec_ClassOf.f k ((rd_T38 x4 x5).f0) ((rd_T38 x4 x5).f1) ((rd_T38 x4 x5).f2) ((rd_T38 x4 x5).f3) ((rd_T38 x4 x5).f4) ((rd_T38 x4 x5).f5) ((rd_T38 x4 x5).f6) ((rd_T38 x4 x5).f7)).bind fun t204 => (if t204 < 0 then (some false) else (if 0 ≤ t204 then (if t204 < (x193000.length : Int) then (if t204 < (x193001.length : Int) then ((spec_PacketUnits.f k ((rd_T38 x4 x5).f0) ((rd_T38 x4 x5).f1) ((rd_T38 x4 x5).f2) ((rd_T38 x4 x5).f3) ((rd_T38 x4 x5).f4) ((rd_T38 x4 x5).f5) ((rd_T38 x4 x5).f6) ((rd_T38 x4 x5).f7)).bind fun t209 => (spec_ChannelOk.l0 k x4 (wrap64 (x5 + 1)) x184000 x184001 x184002 x184003 x184004 x184005 (x193000.set (t204 : Int).toNat (wrap64 ((rd x193000 t204) + 1))) (x193001.set (t204 : Int).toNat (wrap64 ((rd x193001 t204) + t209))))) else (none)) else (none)) else (none)))) else (none)) else ((spec_SameCredits.f k x193000 x193001 x184000 x184001).bind fun t202 => (some t202))
end
def spec_ChannelOk.f (k : Nat) (l0_0 : List Int) (l0_1 : List Int) (l0_2 : List Int) (l0_3 : List Int) (l0_4 : List (S38)) (l0_5 : List (S38)) : Option (Bool) := (spec_CreditsOk.f k l0_0 l0_1).bind fun t184 => (if t184 = true then ((spec_CreditsOk.f k l0_2 l0_3).bind fun t185 => (spec_ChannelOk.j0 k (!t185) l0_0 l0_1 l0_2 l0_3 l0_4 l0_5)) else (spec_ChannelOk.j0 k true l0_0 l0_1 l0_2 l0_3 l0_4 l0_5))
def spec_ChannelOk.T4 : Bool × List (List Nat × List Nat) := (true, [([], []), ([], []), ([1], [1]), ([0, 2], [0, 2]), ([], []), ([4], [4]), ([3, 5, 3], [3, 5]), ([6, 6, 0, 1, 2, 3, 4, 5, 6], [6])])
def spec_ChannelOk.B4 : List Nat := [0, 0, 2, 7, 0, 16, 63, 127]
theorem spec_ChannelOk.tab4 : rtab .any (opsOf Try.f9 4) = spec_ChannelOk.T4 := by kernel_rfl
theorem spec_ChannelOk.bits4 : waitsOk spec_ChannelOk.T4.2 spec_ChannelOk.B4 = true := by kernel_rfl
def spec_ChannelOk.T11 : Bool × List (List Nat × List Nat) := (true, [([], []), ([0], [0]), ([], []), ([], []), ([3], [3]), ([], []), ([4, 5], [4, 5]), ([6], [6]), ([7], [7]), ([1, 2, 0, 1, 2, 3, 4, 5, 6, 7, 8], [1, 2]), ([9, 8, 0, 1, 2, 3, 4, 5, 6, 7, 8], [8, 9])])
def spec_ChannelOk.B11 : List Nat := [0, 1, 0, 0, 8, 0, 56, 120, 248, 511, 1023]
theorem spec_ChannelOk.tab11 : rtab .any (opsOf Try.f9 11) = spec_ChannelOk.T11 := by kernel_rfl
theorem spec_ChannelOk.bits11 : waitsOk spec_ChannelOk.T11.2 spec_ChannelOk.B11 = true := by kernel_rfl
def spec_ChannelOk.T12 : Bool × List (List Nat × List Nat) := (true, [([], []), ([0], [0]), ([], []), ([], []), ([3], [3]), ([], []), ([4, 5], [4, 5]), ([6], [6]), ([], []), ([], []), ([8, 9], [8, 9]), ([10], [10]), ([11], [11]), ([7, 12], [7, 12]), ([1, 2, 0, 1, 2, 3, 4, 5, 6, 7, 8, 9, 10, 11, 12, 13], [1, 2]), ([14, 13, 12, 0, 1, 2, 3, 4, 5, 6, 7, 8, 9, 10, 11, 12, 13], [13, 14])])
def spec_ChannelOk.B12 : List Nat := [0, 1, 0, 0, 8, 0, 56, 120, 0, 0, 768, 1792, 3840, 8184, 16383, 32767]
theorem spec_ChannelOk.tab12 : rtab .any (opsOf Try.f9 12) = spec_ChannelOk.T12 := by kernel_rfl
theorem spec_ChannelOk.bits12 : waitsOk spec_ChannelOk.T12.2 spec_ChannelOk.B12 = true := by kernel_rfl
set_option maxHeartbeats 8000000 in
set_option maxRecDepth 100000 in
theorem spec_ChannelOk.calls (k : Nat) (A0_0 : Option Addr) (c0_0 : Nat) (l0_0 : List Int) (A0_1 : Option Addr) (c0_1 : Nat) (l0_1 : List Int) (A0_2 : Option Addr) (c0_2 : Nat) (l0_2 : List Int) (A0_3 : Option Addr) (c0_3 : Nat) (l0_3 : List Int) (P0_4_ : Nat → Prop) (A0_4 : Option Addr) (c0_4 : Nat) (l0_4 : List (S38)) (P0_5_ : Nat → Prop) (A0_5 : Option Addr) (c0_5 : Nat) (l0_5 : List (S38)) (r : Bool) (w : World) (hr0_0 : Kd.C (Kd.int .i64) w A0_0 l0_0.length l0_0) (hc0_0 : l0_0.length ≤ c0_0) (hr0_1 : Kd.C (Kd.int .i64) w A0_1 l0_1.length l0_1) (hc0_1 : l0_1.length ≤ c0_1) (hr0_2 : Kd.C (Kd.int .i64) w A0_2 l0_2.length l0_2) (hc0_2 : l0_2.length ≤ c0_2) (hr0_3 : Kd.C (Kd.int .i64) w A0_3 l0_3.length l0_3) (hc0_3 : l0_3.length ≤ c0_3) (hs0_4 : Kd.V k38 38 w w.heap.size (fun k_ => P0_4_ k_) (.slice A0_4 l0_4.length c0_4) l0_4) (hs0_5 : Kd.V k38 38 w w.heap.size (fun k_ => P0_5_ k_) (.slice A0_5 l0_5.length c0_5) l0_5) (h : spec_ChannelOk.f k l0_0 l0_1 l0_2 l0_3 l0_4 l0_5 = some r) :
  Calls Try.prog 9 #[.agg #[.slice A0_0 l0_0.length c0_0, .slice A0_1 l0_1.length c0_1, .slice A0_2 l0_2.length c0_2, .slice A0_3 l0_3.length c0_3, .slice A0_4 l0_4.length c0_4, .slice A0_5 l0_5.length c0_5]] w fun e w' => e = .returned (.bool r) ∧ Below w.heap.size w w' := by
 have hu33 := Try.underlying33
 have hu30 := Try.underlying30
 have hu38 := Try.underlying38
 have HR0_0 := A_.mk hr0_0
 have HC0_0 := A_.mk hc0_0
 clear hr0_0 hc0_0
 have HR0_1 := A_.mk hr0_1
 have HC0_1 := A_.mk hc0_1
 clear hr0_1 hc0_1
 have HR0_2 := A_.mk hr0_2
 have HC0_2 := A_.mk hc0_2
 clear hr0_2 hc0_2
 have HR0_3 := A_.mk hr0_3
 have HC0_3 := A_.mk hc0_3
 clear hr0_3 hc0_3
 have HO0_4 := A_.mk (show Kd.V k38 38 w w.heap.size (fun k_ => ((P0_4_ k_ ∨ P0_5_ k_) ∨ w.heap.size ≤ k_)) (.slice A0_4 l0_4.length c0_4) l0_4 from Kd.V_mono hs0_4 (fun k_ hk => .inl (.inl hk)))
 have HO0_5 := A_.mk (show Kd.V k38 38 w w.heap.size (fun k_ => ((P0_4_ k_ ∨ P0_5_ k_) ∨ w.heap.size ≤ k_)) (.slice A0_5 l0_5.length c0_5) l0_5 from Kd.V_mono hs0_5 (fun k_ hk => .inl (.inr hk)))
 have HB := A_.mk (Below.refl w.heap.size w)
 have H : ((spec_CreditsOk.f k l0_0 l0_1).bind fun t184 => (if t184 = true then ((spec_CreditsOk.f k l0_2 l0_3).bind fun t185 => (spec_ChannelOk.j0 k (!t185) l0_0 l0_1 l0_2 l0_3 l0_4 l0_5)) else (spec_ChannelOk.j0 k true l0_0 l0_1 l0_2 l0_3 l0_4 l0_5))) = some r := h
 clear h
 have HC2 := A_.mk H
 clear H
 go_enter Try.func9, Try.ntmps9
 go_upto_region 1 with (first | ((with_reducible refine gd_ (N := 1) rfl ?_); refine by_ 1 (cs := #[.slice A0_0 l0_0.length c0_0, .slice A0_1 l0_1.length c0_1, .slice A0_2 l0_2.length c0_2, .slice A0_3 l0_3.length c0_3, .slice A0_4 l0_4.length c0_4, .slice A0_5 l0_5.length c0_5]) (t := 33) ?_; intro gb183 hg w3 hbox hb; have n0_ := A_.mk (Kd.V_below (Kd.V_elderB (by (with_reducible repeat (first | apply Kd.V_alloc | apply Kd.V_drewN | apply Kd.V_drew)); exact HO0_4.out) gb183 (Nat.le_of_eq hg.symm)) hb); have n1_ := A_.mk (Kd.V_below (Kd.V_elderB (by (with_reducible repeat (first | apply Kd.V_alloc | apply Kd.V_drewN | apply Kd.V_drew)); exact HO0_5.out) gb183 (Nat.le_of_eq hg.symm)) hb); have n2_ := A_.mk (bt_ (beY HB.out) hb); have n3_ := A_.mk (hbox); have n4_ := A_.mk ((by rw [hg]; exact (bz_ (beY HB.out)) : w.heap.size ≤ gb183)); have n5_ := A_.mk ((by rw [hg]; exact (bz_ (beY HB.out)) : w.heap.size ≤ gb183)); clear HO0_4 HO0_5 HB; have HO0_4 := n0_; have HO0_5 := n1_; have HB := n2_; have BK183 := n3_; have GW183 := n4_; have GE183 := n5_; clear n0_ n1_ n2_ n3_ n4_ n5_ hb hbox hg))
 (try simp only [Act.put, List.setIfInBounds_toArray, List.set_cons_zero, List.set_cons_succ])
 go_cut [16] (fun v16 wc => ∃ (kq : Nat) (x16_1 : Bool), v16 = .bool x16_1 ∧ A_ (spec_ChannelOk.j0 kq x16_1 l0_0 l0_1 l0_2 l0_3 l0_4 l0_5 = some r) ∧ A_ (kq ≤ k) ∧ A_ (Kd.V k38 38 wc w.heap.size (fun k_ => ((P0_4_ k_ ∨ P0_5_ k_) ∨ w.heap.size ≤ k_) ∧ k_ ≠ gb183) (.slice A0_4 l0_4.length c0_4) l0_4) ∧ A_ (Kd.V k38 38 wc w.heap.size (fun k_ => ((P0_4_ k_ ∨ P0_5_ k_) ∨ w.heap.size ≤ k_) ∧ k_ ≠ gb183) (.slice A0_5 l0_5.length c0_5) l0_5) ∧ A_ (wc.heap[gb183]? = some (.cells #[(.slice A0_0 l0_0.length c0_0), (.slice A0_1 l0_1.length c0_1), (.slice A0_2 l0_2.length c0_2), (.slice A0_3 l0_3.length c0_3), (.slice A0_4 l0_4.length c0_4), (.slice A0_5 l0_5.length c0_5)] 33 (0, 0))) ∧ A_ (Below w.heap.size w wc))
 case first =>
  have H := HC2.out
  clear HC2
  replace H := ob_ H
  obtain ⟨t184, A40, H⟩ := H
  have A4 := A_.mk A40
  clear A40
  by_cases c5 : t184 = true
  rotate_left
  ·replace c5 := Bool.eq_false_iff.mpr c5
   subst c5
   have H1 : (spec_ChannelOk.j0 k true l0_0 l0_1 l0_2 l0_3 l0_4 l0_5) = some r := by rw [if_neg (show ¬ (false = true) by decide)] at H; exact H
   clear H
   have H := H1
   clear H1
   have H' := A_.mk H
   clear H
   obtain ⟨hcz11_0, hcz11_1, hcz11_2, hcz11_3, hcz11_4, hcz11_5, hfz11_0, hfz11_1, hfz11_2, hfz11_3, hfz11_4, hfz11_5⟩ := b6 BK183.out
   go_wp2_with (first | ((with_reducible refine gc_ (f := 33) rfl ?_); refine gl_ (some 9) Try.func33 #[.agg #[.slice A0_0 l0_0.length c0_0, .slice A0_1 l0_1.length c0_1]] ?_; (with_reducible refine (spec_CreditsOk.calls k _ _ l0_0 _ _ l0_1 false _ ?side1 ?side2 ?side3 ?side4 A4.out).mono ?_); (case side1 => exact cY ((Kd.C_below HR0_0.out HB.out))); (case side2 => exact HC0_0.out); (case side3 => exact cY ((Kd.C_below HR0_1.out HB.out))); (case side4 => exact HC0_1.out); rintro e w12 ⟨rfl, hb⟩; refine ⟨_, rfl, ?_⟩; have n0_ := A_.mk (Kd.V_below (by (with_reducible repeat (first | apply Kd.V_alloc | apply Kd.V_drewN | apply Kd.V_drew)); exact HO0_4.out) hb); have n1_ := A_.mk (Kd.V_below (by (with_reducible repeat (first | apply Kd.V_alloc | apply Kd.V_drewN | apply Kd.V_drew)); exact HO0_5.out) hb); have n2_ := A_.mk (bb_ (bY BK183.out) hb); have n3_ := A_.mk (bt_ (by repeat (first | (with_reducible first | exact HB.out | apply ba_ | apply bd_ | apply be_ | refine bs_ ?_ GE183.out) | exact HB.out)) hb); clear HO0_4 HO0_5 BK183 HB; have HO0_4 := n0_; have HO0_5 := n1_; have BK183 := n2_; have HB := n3_; clear n0_ n1_ n2_ n3_; (try clear hb); (try clear hb2); (try clear hk); (try clear hi)))
   go_meet
   case rel => exact ⟨_, (true), (by first | rfl | (simp; done) | (simp [*]; done)), H', ⟨by first | omega | exact Nat.le_refl _⟩, ⟨by (with_reducible repeat (first | apply Kd.V_alloc | apply Kd.V_drewN | apply Kd.V_drew)); exact HO0_4.out⟩, ⟨by (with_reducible repeat (first | apply Kd.V_alloc | apply Kd.V_drewN | apply Kd.V_drew)); exact HO0_5.out⟩, ⟨by (repeat apply bX); exact BK183.out⟩, ⟨by repeat (first | (with_reducible first | exact HB.out | apply ba_ | apply bd_ | apply be_ | refine bs_ ?_ GE183.out) | exact HB.out)⟩⟩
  subst c5
  have H1 : ((spec_CreditsOk.f k l0_2 l0_3).bind fun t185 => (spec_ChannelOk.j0 k (!t185) l0_0 l0_1 l0_2 l0_3 l0_4 l0_5)) = some r := by rw [if_pos rfl] at H; exact H
  clear H
  have H := H1
  clear H1
  replace H := ob_ H
  obtain ⟨t185, A60, H⟩ := H
  have A6 := A_.mk A60
  clear A60
  have H' := A_.mk H
  clear H
  obtain ⟨hcz7_0, hcz7_1, hcz7_2, hcz7_3, hcz7_4, hcz7_5, hfz7_0, hfz7_1, hfz7_2, hfz7_3, hfz7_4, hfz7_5⟩ := b6 BK183.out
  go_wp2_with (first | ((with_reducible refine gc_ (f := 33) rfl ?_); refine gl_ (some 9) Try.func33 #[.agg #[.slice A0_0 l0_0.length c0_0, .slice A0_1 l0_1.length c0_1]] ?_; (with_reducible refine (spec_CreditsOk.calls k _ _ l0_0 _ _ l0_1 true _ ?side1 ?side2 ?side3 ?side4 A4.out).mono ?_); (case side1 => exact cY ((Kd.C_below HR0_0.out HB.out))); (case side2 => exact HC0_0.out); (case side3 => exact cY ((Kd.C_below HR0_1.out HB.out))); (case side4 => exact HC0_1.out); rintro e w8 ⟨rfl, hb⟩; refine ⟨_, rfl, ?_⟩; have n0_ := A_.mk (Kd.V_below (by (with_reducible repeat (first | apply Kd.V_alloc | apply Kd.V_drewN | apply Kd.V_drew)); exact HO0_4.out) hb); have n1_ := A_.mk (Kd.V_below (by (with_reducible repeat (first | apply Kd.V_alloc | apply Kd.V_drewN | apply Kd.V_drew)); exact HO0_5.out) hb); have n2_ := A_.mk (bb_ (bY BK183.out) hb); have n3_ := A_.mk (bt_ (by repeat (first | (with_reducible first | exact HB.out | apply ba_ | apply bd_ | apply be_ | refine bs_ ?_ GE183.out) | exact HB.out)) hb); clear HO0_4 HO0_5 BK183 HB; have HO0_4 := n0_; have HO0_5 := n1_; have BK183 := n2_; have HB := n3_; clear n0_ n1_ n2_ n3_; (try clear hb); (try clear hb2); (try clear hk); (try clear hi); have hcz9_0 : w8.cell? ⟨gb183, 0, none⟩ = some (.slice A0_0 l0_0.length c0_0) := (bc_ BK183.out 0).trans rfl; have hcz9_1 : w8.cell? ⟨gb183, 1, none⟩ = some (.slice A0_1 l0_1.length c0_1) := (bc_ BK183.out 1).trans rfl; have hcz9_2 : w8.cell? ⟨gb183, 2, none⟩ = some (.slice A0_2 l0_2.length c0_2) := (bc_ BK183.out 2).trans rfl; have hcz9_3 : w8.cell? ⟨gb183, 3, none⟩ = some (.slice A0_3 l0_3.length c0_3) := (bc_ BK183.out 3).trans rfl; have hcz9_4 : w8.cell? ⟨gb183, 4, none⟩ = some (.slice A0_4 l0_4.length c0_4) := (bc_ BK183.out 4).trans rfl; have hcz9_5 : w8.cell? ⟨gb183, 5, none⟩ = some (.slice A0_5 l0_5.length c0_5) := (bc_ BK183.out 5).trans rfl; have hfz9_0 := bf_ BK183.out 0; have hfz9_1 := bf_ BK183.out 1; have hfz9_2 := bf_ BK183.out 2; have hfz9_3 := bf_ BK183.out 3; have hfz9_4 := bf_ BK183.out 4; have hfz9_5 := bf_ BK183.out 5) | (go_at_call 33; (with_reducible refine (spec_CreditsOk.calls k _ _ l0_2 _ _ l0_3 t185 _ ?side1 ?side2 ?side3 ?side4 A6.out).mono ?_); (case side1 => exact cY ((Kd.C_below HR0_2.out HB.out))); (case side2 => exact HC0_2.out); (case side3 => exact cY ((Kd.C_below HR0_3.out HB.out))); (case side4 => exact HC0_3.out); rintro e w10 ⟨rfl, hb⟩; have n0_ := A_.mk (Kd.V_below (by (with_reducible repeat (first | apply Kd.V_alloc | apply Kd.V_drewN | apply Kd.V_drew)); exact HO0_4.out) hb); have n1_ := A_.mk (Kd.V_below (by (with_reducible repeat (first | apply Kd.V_alloc | apply Kd.V_drewN | apply Kd.V_drew)); exact HO0_5.out) hb); have n2_ := A_.mk (bb_ (bY BK183.out) hb); have n3_ := A_.mk (bt_ (by repeat (first | (with_reducible first | exact HB.out | apply ba_ | apply bd_ | apply be_ | refine bs_ ?_ GE183.out) | exact HB.out)) hb); clear HO0_4 HO0_5 BK183 HB; have HO0_4 := n0_; have HO0_5 := n1_; have BK183 := n2_; have HB := n3_; clear n0_ n1_ n2_ n3_; (try clear hb); (try clear hb2); (try clear hk); (try clear hi)))
  go_meet
  case rel => exact ⟨_, (!t185), (by first | rfl | (simp; done) | (simp [*]; done)), H', ⟨by first | omega | exact Nat.le_refl _⟩, ⟨by (with_reducible repeat (first | apply Kd.V_alloc | apply Kd.V_drewN | apply Kd.V_drew)); exact HO0_4.out⟩, ⟨by (with_reducible repeat (first | apply Kd.V_alloc | apply Kd.V_drewN | apply Kd.V_drew)); exact HO0_5.out⟩, ⟨by (repeat apply bX); exact BK183.out⟩, ⟨by repeat (first | (with_reducible first | exact HB.out | apply ba_ | apply bd_ | apply be_ | refine bs_ ?_ GE183.out) | exact HB.out)⟩⟩
 case rest =>
  clear HC2
  obtain ⟨kq, x16_1, rfl, HA, HJ1, HO_184004, HO_184005, BK183, HB⟩ := hcut
  cases kq with
  | zero => exact absurd HA.out (by simp [spec_ChannelOk.j0])
  | succ kj1 =>
   have H := HA.out
   clear HA
   simp only [spec_ChannelOk.j0] at H
   by_cases c13 : x16_1 = true
   ·subst c13
    have H1 : (some false) = some r := by rw [if_pos rfl] at H; exact H
    clear H
    have H := H1
    clear H1
    obtain rfl := Option.some.inj H
    go_wp2
    go_ret
    exact ⟨by first | rfl | (simp [errW_none, errW_some] <;> rfl) | (simp [*, errW_none, errW_some] <;> rfl), by repeat (first | (with_reducible first | exact HB.out | apply ba_ | apply bd_ | apply be_ | refine bs_ ?_ GE183.out) | exact HB.out)⟩
   replace c13 := Bool.eq_false_iff.mpr c13
   subst c13
   have H1 : ((spec_l14Copy.f l0_2 l0_3).bind fun bt186 => ((some (([] : List (S38)) : List (S38))).bind fun y193 => (if y193.length + l0_4.length < 1759218604441 then ((some (y193 ++ l0_4 : List (S38))).bind fun y196 => (if y196.length + l0_5.length < 1759218604441 then (spec_ChannelOk.l0 kj1 (y196 ++ l0_5) 0 l0_0 l0_1 l0_2 l0_3 l0_4 l0_5 bt186.1 bt186.2) else (none))) else (none)))) = some r := by rw [if_neg (show ¬ (false = true) by decide)] at H; exact H
   clear H
   have H := H1
   clear H1
   replace H := ob_ H
   obtain ⟨⟨t186, t189⟩, A140, H⟩ := H
   replace H : ((some (([] : List (S38)) : List (S38))).bind fun y193 => (if y193.length + l0_4.length < 1759218604441 then ((some (y193 ++ l0_4 : List (S38))).bind fun y196 => (if y196.length + l0_5.length < 1759218604441 then (spec_ChannelOk.l0 kj1 (y196 ++ l0_5) 0 l0_0 l0_1 l0_2 l0_3 l0_4 l0_5 t186 t189) else (none))) else (none))) = some r := H
   have A14 := A_.mk A140
   clear A140
   obtain ⟨y193, hy193⟩ : ∃ y_ : List (S38), y_ = (([] : List (S38))) := ⟨_, rfl⟩
   replace H : (if y193.length + l0_4.length < 1759218604441 then ((some (y193 ++ l0_4 : List (S38))).bind fun y196 => (if y196.length + l0_5.length < 1759218604441 then (spec_ChannelOk.l0 kj1 (y196 ++ l0_5) 0 l0_0 l0_1 l0_2 l0_3 l0_4 l0_5 t186 t189) else (none))) else (none)) = some r := by first | (rw [hy193]; with_reducible exact H) | (have H2_ := (Option.bind_some _ _).symm.trans H; rw [hy193]; with_reducible exact H2_) | (have H2_ := (Option.bind_some _ _).symm.trans H; with_reducible exact H2_) | with_reducible exact H | (rw [hy193]; exact H) | exact H
   have Ny193 := A_.mk hy193
   clear hy193
   by_cases c15 : y193.length + l0_4.length < 1759218604441
   rotate_left
   ·rw [if_neg c15] at H
    exact absurd H (by simp)
   rw [if_pos c15] at H
   have LMc15 := A_.mk c15
   clear c15
   obtain ⟨y196, hy196⟩ : ∃ y_ : List (S38), y_ = (y193 ++ l0_4) := ⟨_, rfl⟩
   replace H : (if y196.length + l0_5.length < 1759218604441 then (spec_ChannelOk.l0 kj1 (y196 ++ l0_5) 0 l0_0 l0_1 l0_2 l0_3 l0_4 l0_5 t186 t189) else (none)) = some r := by first | (rw [hy196]; with_reducible exact H) | (have H2_ := (Option.bind_some _ _).symm.trans H; rw [hy196]; with_reducible exact H2_) | (have H2_ := (Option.bind_some _ _).symm.trans H; with_reducible exact H2_) | with_reducible exact H | (rw [hy196]; exact H) | exact H
   have Ny196 := A_.mk hy196
   clear hy196
   by_cases c16 : y196.length + l0_5.length < 1759218604441
   rotate_left
   ·rw [if_neg c16] at H
    exact absurd H (by simp)
   rw [if_pos c16] at H
   have LMc16 := A_.mk c16
   clear c16
   obtain ⟨y199, hy199⟩ : ∃ y_ : List (S38), y_ = (y196 ++ l0_5) := ⟨_, rfl⟩
   replace H : (spec_ChannelOk.l0 kj1 y199 0 l0_0 l0_1 l0_2 l0_3 l0_4 l0_5 t186 t189) = some r := by first | (rw [hy199]; with_reducible exact H) | (have H2_ := (Option.bind_some _ _).symm.trans H; rw [hy199]; with_reducible exact H2_) | (have H2_ := (Option.bind_some _ _).symm.trans H; with_reducible exact H2_) | with_reducible exact H | (rw [hy199]; exact H) | exact H
   have Ny199 := A_.mk hy199
   clear hy199
   have H' := A_.mk H
   clear H
   obtain ⟨hcz17_0, hcz17_1, hcz17_2, hcz17_3, hcz17_4, hcz17_5, hfz17_0, hfz17_1, hfz17_2, hfz17_3, hfz17_4, hfz17_5⟩ := b6 BK183.out
   try go_wp2_with (first | ((with_reducible refine gc_ (f := 34) rfl ?_); refine gl_ (some 19) Try.func34 #[.agg #[.slice A0_2 l0_2.length c0_2, .slice A0_3 l0_3.length c0_3]] ?_; (with_reducible refine (spec_l14Copy.calls _ _ l0_2 _ _ l0_3 t186 t189 _ ?side1 ?side2 ?side3 ?side4 A14.out).mono ?_); (case side1 => exact cY ((Kd.C_below HR0_2.out HB.out))); (case side2 => exact HC0_2.out); (case side3 => exact cY ((Kd.C_below HR0_3.out HB.out))); (case side4 => exact HC0_3.out); rintro e w18 ⟨v187, v190, rfl, ho0, ho1, hb⟩; refine ⟨_, rfl, ?_⟩; have n0_ := A_.mk (Kd.V_mono (Kd.V_told (Kd.V_told (Kd.V_old (by (with_reducible repeat (first | apply Kd.V_alloc | apply Kd.V_drewN | apply Kd.V_drew)); exact HO_184004.out) hb) (Kd.R_base ho0)) (Kd.R_base ho1)) (fun _ h_ => h_.1)); have n1_ := A_.mk (Kd.V_mono (Kd.V_told (Kd.V_told (Kd.V_old (by (with_reducible repeat (first | apply Kd.V_alloc | apply Kd.V_drewN | apply Kd.V_drew)); exact HO_184005.out) hb) (Kd.R_base ho0)) (Kd.R_base ho1)) (fun _ h_ => h_.1)); have n2_ := A_.mk (Kd.R_lower (Kd.R_newM (M := fun k_ => (w.heap.size ≤ k_)) ho0 (bz_ (by repeat (first | (with_reducible first | exact HB.out | apply ba_ | apply bd_ | apply be_ | refine bs_ ?_ GE183.out) | exact HB.out))) (fun k_ h_ => h_)) (bz_ (by repeat (first | (with_reducible first | exact HB.out | apply ba_ | apply bd_ | apply be_ | refine bs_ ?_ GE183.out) | exact HB.out)))); have n3_ := A_.mk (Kd.R_lower (Kd.R_newM (M := fun k_ => (w.heap.size ≤ k_)) ho1 (bz_ (by repeat (first | (with_reducible first | exact HB.out | apply ba_ | apply bd_ | apply be_ | refine bs_ ?_ GE183.out) | exact HB.out))) (fun k_ h_ => h_)) (bz_ (by repeat (first | (with_reducible first | exact HB.out | apply ba_ | apply bd_ | apply be_ | refine bs_ ?_ GE183.out) | exact HB.out)))); have n4_ := A_.mk (bb_ (bY BK183.out) hb); have n5_ := A_.mk (bt_ (by repeat (first | (with_reducible first | exact HB.out | apply ba_ | apply bd_ | apply be_ | refine bs_ ?_ GE183.out) | exact HB.out)) hb); clear HO_184004 HO_184005 BK183 HB; have HO_184004 := n0_; have HO_184005 := n1_; have HO188 := n2_; have HO191 := n3_; have BK183 := n4_; have HB := n5_; clear n0_ n1_ n2_ n3_ n4_ n5_; (try clear hb); (try clear hb2); (try clear hk); (try clear hi); (try clear ho0); (try clear ho1)) | ((with_reducible refine gd_ (N := 3) rfl ?_); refine by_ 3 (cs := #[.slice none 0 0, .slice none 0 0]) (t := 30) ?_; intro gb192 hg w19 hbox hb; have n0_ := A_.mk (Kd.V_below (Kd.V_elderB (by (with_reducible repeat (first | apply Kd.V_alloc | apply Kd.V_drewN | apply Kd.V_drew)); exact HO_184004.out) gb192 (Nat.le_of_eq hg.symm)) hb); have n1_ := A_.mk (Kd.V_below (Kd.V_elderB (by (with_reducible repeat (first | apply Kd.V_alloc | apply Kd.V_drewN | apply Kd.V_drew)); exact HO_184005.out) gb192 (Nat.le_of_eq hg.symm)) hb); have n2_ := A_.mk (Kd.R_below (rY HO188.out) hb); have n3_ := A_.mk (Kd.R_below (rY HO191.out) hb); have n4_ := A_.mk (bb_ (bY BK183.out) hb); have n5_ := A_.mk (bt_ (by repeat (first | (with_reducible first | exact HB.out | apply ba_ | apply bd_ | apply be_ | refine bs_ ?_ GE183.out) | exact HB.out)) hb); have n6_ := A_.mk (hbox); have n7_ := A_.mk ((by rw [hg]; exact (bz_ (by repeat (first | (with_reducible first | exact HB.out | apply ba_ | apply bd_ | apply be_ | refine bs_ ?_ GE183.out) | exact HB.out))) : w.heap.size ≤ gb192)); have n8_ := A_.mk ((by rw [hg]; exact (bz_ (by repeat (first | (with_reducible first | exact HB.out | apply ba_ | apply bd_ | apply be_ | refine bs_ ?_ GE183.out) | exact HB.out))) : w.heap.size ≤ gb192)); have n9_ := A_.mk ((by rw [hg]; exact Nat.ne_of_lt (blk_lt (bY BK183.out)) : gb183 ≠ gb192)); have n10_ := A_.mk ((by rw [hg]; exact Nat.ne_of_gt (blk_lt (bY BK183.out)) : gb192 ≠ gb183)); clear HO_184004 HO_184005 HO188 HO191 BK183 HB; have HO_184004 := n0_; have HO_184005 := n1_; have HO188 := n2_; have HO191 := n3_; have BK183 := n4_; have HB := n5_; have BK192 := n6_; have GW192 := n7_; have GE192 := n8_; have NB183_192 := n9_; have NB192_183 := n10_; clear n0_ n1_ n2_ n3_ n4_ n5_ n6_ n7_ n8_ n9_ n10_ hb hbox hg; obtain ⟨Ao20, co20, eo20⟩ := Kd.R_slice HO188.out; subst eo20; have hnb21 := NB192_183.out; have hnc21 := NB183_192.out; have hcz22_0 : w19.cell? ⟨gb192, 0, none⟩ = some (.slice none 0 0) := (bc_ BK192.out 0).trans rfl; have hcz22_1 : w19.cell? ⟨gb192, 1, none⟩ = some (.slice none 0 0) := (bc_ BK192.out 1).trans rfl; have hfz22_0 := bf_ BK192.out 0; have hfz22_1 := bf_ BK192.out 1; obtain ⟨Ao23, co23, eo23⟩ := Kd.R_slice HO191.out; subst eo23))
   have n0_ : A_ (Kd.V k38 38 ((w19.setCell ⟨gb192, 0, none⟩ (.slice Ao20 t186.length co20)).setCell ⟨gb192, 1, none⟩ (.slice Ao23 t189.length co23)) w.heap.size (fun k_ => ((P0_4_ k_ ∨ P0_5_ k_) ∨ w.heap.size ≤ k_) ∧ some k_ ≠ (.slice Ao20 t186.length co20 : Value).ownBlock ∧ some k_ ≠ (.slice Ao23 t189.length co23 : Value).ownBlock ∧ k_ ≠ gb183 ∧ k_ ≠ gb192) (.slice A0_4 l0_4.length c0_4) l0_4) := ⟨by (with_reducible repeat (first | apply Kd.V_alloc | apply Kd.V_drewN | apply Kd.V_drew)); exact Kd.V_mono (Kd.V_far (p := ⟨gb192, 1, none⟩) (Kd.V_far (p := ⟨gb192, 0, none⟩) (Kd.V_mono HO_184004.out (fun k_ hk => (⟨hk, hk.2⟩ : _ ∧ k_ ≠ gb192))) (fun _ hk => hk.2) (.slice Ao20 t186.length co20)) (fun _ hk => hk.2) (.slice Ao23 t189.length co23)) (fun _ hk => ⟨hk.1.1.1.1.1, ⟨hk.1.1.1.2, ⟨hk.1.1.2, ⟨hk.1.1.1.1.2, hk.1.2⟩⟩⟩⟩)⟩
   have n1_ : A_ (Kd.V k38 38 ((w19.setCell ⟨gb192, 0, none⟩ (.slice Ao20 t186.length co20)).setCell ⟨gb192, 1, none⟩ (.slice Ao23 t189.length co23)) w.heap.size (fun k_ => ((P0_4_ k_ ∨ P0_5_ k_) ∨ w.heap.size ≤ k_) ∧ some k_ ≠ (.slice Ao20 t186.length co20 : Value).ownBlock ∧ some k_ ≠ (.slice Ao23 t189.length co23 : Value).ownBlock ∧ k_ ≠ gb183 ∧ k_ ≠ gb192) (.slice A0_5 l0_5.length c0_5) l0_5) := ⟨by (with_reducible repeat (first | apply Kd.V_alloc | apply Kd.V_drewN | apply Kd.V_drew)); exact Kd.V_mono (Kd.V_far (p := ⟨gb192, 1, none⟩) (Kd.V_far (p := ⟨gb192, 0, none⟩) (Kd.V_mono HO_184005.out (fun k_ hk => (⟨hk, hk.2⟩ : _ ∧ k_ ≠ gb192))) (fun _ hk => hk.2) (.slice Ao20 t186.length co20)) (fun _ hk => hk.2) (.slice Ao23 t189.length co23)) (fun _ hk => ⟨hk.1.1.1.1.1, ⟨hk.1.1.1.2, ⟨hk.1.1.2, ⟨hk.1.1.1.1.2, hk.1.2⟩⟩⟩⟩)⟩
   have n2_ : A_ (Kd.R (Kd.int .i64) 3 ((w19.setCell ⟨gb192, 0, none⟩ (.slice Ao20 t186.length co20)).setCell ⟨gb192, 1, none⟩ (.slice Ao23 t189.length co23)) w.heap.size (fun k_ => (w.heap.size ≤ k_) ∧ some k_ ≠ (.slice Ao23 t189.length co23 : Value).ownBlock) (.slice Ao20 t186.length co20) t186) := ⟨by (repeat apply rX); exact Kd.R_mono (Kd.R_far (p := ⟨gb192, 1, none⟩) (Kd.R_far (p := ⟨gb192, 0, none⟩) (Kd.R_types HO188.out BK192.out (by decide)) (fun _ hk => hk.2) (.slice Ao20 t186.length co20)) (fun _ hk => hk.2) (.slice Ao23 t189.length co23)) (fun _ hk => ⟨hk.1.1, hk.1.2⟩)⟩
   have n3_ : A_ (Kd.R (Kd.int .i64) 3 ((w19.setCell ⟨gb192, 0, none⟩ (.slice Ao20 t186.length co20)).setCell ⟨gb192, 1, none⟩ (.slice Ao23 t189.length co23)) w.heap.size (fun k_ => (w.heap.size ≤ k_) ∧ some k_ ≠ (.slice Ao20 t186.length co20 : Value).ownBlock) (.slice Ao23 t189.length co23) t189) := ⟨by (repeat apply rX); exact Kd.R_mono (Kd.R_far (p := ⟨gb192, 1, none⟩) (Kd.R_far (p := ⟨gb192, 0, none⟩) (Kd.R_types HO191.out BK192.out (by decide)) (fun _ hk => hk.2) (.slice Ao20 t186.length co20)) (fun _ hk => hk.2) (.slice Ao23 t189.length co23)) (fun _ hk => ⟨hk.1.1, hk.1.2⟩)⟩
   have n4_ : A_ (((w19.setCell ⟨gb192, 0, none⟩ (.slice Ao20 t186.length co20)).setCell ⟨gb192, 1, none⟩ (.slice Ao23 t189.length co23)).heap[gb183]? = some (.cells #[.slice A0_0 l0_0.length c0_0, .slice A0_1 l0_1.length c0_1, .slice A0_2 l0_2.length c0_2, .slice A0_3 l0_3.length c0_3, .slice A0_4 l0_4.length c0_4, .slice A0_5 l0_5.length c0_5] 33 (0, 0))) := ⟨by (repeat apply bX); refine blk_far ?_ NB183_192.out _; (repeat apply bX); refine blk_far ?_ NB183_192.out _; (repeat apply bX); exact BK183.out⟩
   have n5_ : A_ (((w19.setCell ⟨gb192, 0, none⟩ (.slice Ao20 t186.length co20)).setCell ⟨gb192, 1, none⟩ (.slice Ao23 t189.length co23)).heap[gb192]? = some (.cells #[.slice Ao20 t186.length co20, .slice Ao23 t189.length co23] 30 (0, 0))) := ⟨by (repeat apply bX); refine bp_ (cs := #[.slice Ao20 t186.length co20, .slice none 0 0]) ?_ 1 _ rfl; (repeat apply bX); refine bp_ (cs := #[.slice none 0 0, .slice none 0 0]) ?_ 0 _ rfl; (repeat apply bX); exact BK192.out⟩
   have n6_ : A_ (Below w.heap.size w ((w19.setCell ⟨gb192, 0, none⟩ (.slice Ao20 t186.length co20)).setCell ⟨gb192, 1, none⟩ (.slice Ao23 t189.length co23))) := ⟨by repeat (first | (with_reducible first | exact HB.out | apply ba_ | apply bd_ | apply be_ | refine bs_ ?_ GE183.out | refine bs_ ?_ GE192.out) | exact HB.out)⟩
   generalize ((w19.setCell ⟨gb192, 0, none⟩ (.slice Ao20 t186.length co20)).setCell ⟨gb192, 1, none⟩ (.slice Ao23 t189.length co23)) = w24 at n0_ n1_ n2_ n3_ n4_ n5_ n6_ ⊢
   have HO_184004 := n0_
   have HO_184005 := n1_
   have HO188 := n2_
   have HO191 := n3_
   have BK183 := n4_
   have BK192 := n5_
   have HB := n6_
   clear n0_ n1_ n2_ n3_ n4_ n5_ n6_
   have n0_ := A_.mk (Kd.V_drew HO_184004.out)
   have n1_ := A_.mk (Kd.V_drew HO_184005.out)
   have n2_ := A_.mk (Kd.R_drew HO188.out)
   have n3_ := A_.mk (Kd.R_drew HO191.out)
   have n4_ := A_.mk (bw_ BK183.out)
   have n5_ := A_.mk (bw_ BK192.out)
   have n6_ := A_.mk (be_ HB.out)
   clear HO_184004 HO_184005 HO188 HO191 BK183 BK192 HB
   have HO_184004 := n0_
   have HO_184005 := n1_
   have HO188 := n2_
   have HO191 := n3_
   have BK183 := n4_
   have BK192 := n5_
   have HB := n6_
   clear n0_ n1_ n2_ n3_ n4_ n5_ n6_
   refine start_ (n := 8) (S := fun w' => w'.cell? ⟨gb183, 0, none⟩ = some (.slice A0_0 l0_0.length c0_0) ∧ w'.cell? ⟨gb183, 1, none⟩ = some (.slice A0_1 l0_1.length c0_1) ∧ w'.cell? ⟨gb183, 2, none⟩ = some (.slice A0_2 l0_2.length c0_2) ∧ w'.cell? ⟨gb183, 3, none⟩ = some (.slice A0_3 l0_3.length c0_3) ∧ w'.cell? ⟨gb183, 4, none⟩ = some (.slice A0_4 l0_4.length c0_4) ∧ w'.cell? ⟨gb183, 5, none⟩ = some (.slice A0_5 l0_5.length c0_5)) (ds := []) #[F, F, F, F, F, F, F, F] (by kernel_rfl) rfl rfl ⟨(bc_ BK183.out 0).trans rfl, (bc_ BK183.out 1).trans rfl, (bc_ BK183.out 2).trans rfl, (bc_ BK183.out 3).trans rfl, (bc_ BK183.out 4).trans rfl, (bc_ BK183.out 5).trans rfl⟩ (fun hHeld => ?_); refine with_tabW spec_ChannelOk.tab4 spec_ChannelOk.bits4 (fun HT_ HW_ => ?_)
   generalize w24.drew = w25 at HO_184004 HO_184005 HO188 HO191 BK183 BK192 HB hHeld ⊢
   refine pr_ (i := 1) (N := some 21) #[F, T, F, F, F, F, F, F] rfl HT_.out ?_
   refine pr_ (i := 4) (N := some 24) #[F, T, F, F, T, F, F, F] rfl HT_.out ?_
   refine tk_ (i := 2) (N := some 22) #[F, T, T, F, T, F, F, F] rfl HT_.out HW_.out hHeld ?_
   refine tk_ (i := 5) (N := some 25) #[F, T, T, F, T, T, F, F] rfl HT_.out HW_.out hHeld ?_
   refine ot_ (i := 0) (N := some 20) #[T, T, T, F, T, T, F, F] rfl HT_.out (fun K hK => ?_)
   refine Kd.N_lit_step k38 _ 38 ?hg (N' := 20) ?hd (xs := ([] : List (S38))) (inner := []) (ok := (fun k_ => ((P0_4_ k_ ∨ P0_5_ k_) ∨ w.heap.size ≤ k_) ∧ some k_ ≠ (.slice Ao20 t186.length co20 : Value).ownBlock ∧ some k_ ≠ (.slice Ao23 t189.length co23 : Value).ownBlock ∧ k_ ≠ gb183 ∧ k_ ≠ gb192)) (okp := (fun k_ => ((P0_4_ k_ ∨ P0_5_ k_) ∨ w.heap.size ≤ k_) ∧ some k_ ≠ (.slice Ao20 t186.length co20 : Value).ownBlock ∧ some k_ ≠ (.slice Ao23 t189.length co23 : Value).ownBlock ∧ k_ ≠ gb183 ∧ k_ ≠ gb192)) ?hr ?hp (fun _ hk => hk) ((show ∀ k_, w25.heap.size ≤ k_ → (fun k_ => ((P0_4_ k_ ∨ P0_5_ k_) ∨ w.heap.size ≤ k_) ∧ some k_ ≠ (.slice Ao20 t186.length co20 : Value).ownBlock ∧ some k_ ≠ (.slice Ao23 t189.length co23 : Value).ownBlock ∧ k_ ≠ gb183 ∧ k_ ≠ gb192) k_ from fun k_ hk => ⟨(.inr (Nat.le_trans (bz_ (by repeat (first | (with_reducible first | exact HB.out | apply ba_ | apply bd_ | apply be_ | refine bs_ ?_ GE183.out | refine bs_ ?_ GE192.out) | exact HB.out))) hk)), Kd.fresh' (Kd.R_lt (rY HO188.out)) k_ hk, Kd.fresh' (Kd.R_lt (rY HO191.out)) k_ hk, Kd.freshB (g := gb183) (o := .cells #[.slice A0_0 l0_0.length c0_0, .slice A0_1 l0_1.length c0_1, .slice A0_2 l0_2.length c0_2, .slice A0_3 l0_3.length c0_3, .slice A0_4 l0_4.length c0_4, .slice A0_5 l0_5.length c0_5] 33 (0, 0)) (bY BK183.out) k_ hk, Kd.freshB (g := gb192) (o := .cells #[.slice Ao20 t186.length co20, .slice Ao23 t189.length co23] 30 (0, 0)) (bY BK192.out) k_ hk⟩) _ (Nat.le_refl _)) (Below.refl _ _) (Nat.le_refl _) (by simp) ?_; (case hd => rfl); (case hg => rfl); (case hr => first | (go_simp; done) | (go_simp; rfl)); (case hp => exact (Reps.none _ _))
   intro v194 w26 ho27 hb hg_ hnew_
   clear hg_ hnew_
   (first | rw [← Ny193.out] at ho27 | (simp only [Int.reduceToNat] at ho27; rw [← Ny193.out] at ho27))
   have n0_ := A_.mk (Kd.V_elder' (by (with_reducible repeat (first | apply Kd.V_alloc | apply Kd.V_drewN | apply Kd.V_drew)); exact HO_184004.out) (Kd.N_base ho27) hb)
   have n1_ := A_.mk (Kd.V_elder' (by (with_reducible repeat (first | apply Kd.V_alloc | apply Kd.V_drewN | apply Kd.V_drew)); exact HO_184005.out) (Kd.N_base ho27) hb)
   have n2_ := A_.mk (Kd.R_below (rY HO188.out) hb)
   have n3_ := A_.mk (Kd.R_below (rY HO191.out) hb)
   have n4_ := A_.mk (Kd.N_lower ho27 (bz_ (by repeat (first | (with_reducible first | exact HB.out | apply ba_ | apply bd_ | apply be_ | refine bs_ ?_ GE183.out | refine bs_ ?_ GE192.out) | exact HB.out))))
   have n5_ := A_.mk (bb_ (bY BK183.out) hb)
   have n6_ := A_.mk (bb_ (bY BK192.out) hb)
   have n7_ := A_.mk (bt_ (by repeat (first | (with_reducible first | exact HB.out | apply ba_ | apply bd_ | apply be_ | refine bs_ ?_ GE183.out | refine bs_ ?_ GE192.out) | exact HB.out)) hb)
   clear HO_184004 HO_184005 HO188 HO191 BK183 BK192 HB
   have HO_184004 := n0_
   have HO_184005 := n1_
   have HO188 := n2_
   have HO191 := n3_
   have HO195 := n4_
   have BK183 := n5_
   have BK192 := n6_
   have HB := n7_
   clear n0_ n1_ n2_ n3_ n4_ n5_ n6_ n7_ hb ho27
   refine hK.out _ _ ⟨(bc_ BK183.out 0).trans rfl, (bc_ BK183.out 1).trans rfl, (bc_ BK183.out 2).trans rfl, (bc_ BK183.out 3).trans rfl, (bc_ BK183.out 4).trans rfl, (bc_ BK183.out 5).trans rfl⟩ (fun hHeld => ?_)
   clear hK K
   refine nm_ ?_
   refine ot_ (i := 3) (N := some 23) #[T, T, T, T, T, T, F, F] rfl HT_.out (fun K hK => ?_)
   refine Kd.N_append_rows_step k38 (w0 := w) w.heap.size (by rfl) (.tmp 20) (.tmp 22) 31 38 (.agg #[(.int .i64 0), (.int .i64 0), (.int .i64 0), (.int .i64 0), (.int .i64 0), (.int .i64 0), (.int .i64 0), (.slice none 0 0)]) 80 rfl Try.underlying31 info38 rfl (by decide) (by omega) v194 y193 l0_4 _ _ _ (fun k_ => ((P0_4_ k_ ∨ P0_5_ k_) ∨ w.heap.size ≤ k_) ∧ some k_ ≠ (.slice Ao20 t186.length co20 : Value).ownBlock ∧ some k_ ≠ (.slice Ao23 t189.length co23 : Value).ownBlock ∧ k_ ≠ gb183 ∧ k_ ≠ gb192) (fun k_ => ((fun k_ => ((P0_4_ k_ ∨ P0_5_ k_) ∨ w.heap.size ≤ k_) ∧ some k_ ≠ (.slice Ao20 t186.length co20 : Value).ownBlock ∧ some k_ ≠ (.slice Ao23 t189.length co23 : Value).ownBlock ∧ k_ ≠ gb183 ∧ k_ ≠ gb192)) k_ ∧ some k_ ≠ (v194 : Value).ownBlock) rfl rfl ?aO ?aR (fun _ hk => hk) ?aF ?aB ?aS ?aL ?_
   (case aR => exact (by skip; exact Kd.V_F (Kd.V_mono (ok' := (fun k_ => ((fun k_ => ((P0_4_ k_ ∨ P0_5_ k_) ∨ w.heap.size ≤ k_) ∧ some k_ ≠ (.slice Ao20 t186.length co20 : Value).ownBlock ∧ some k_ ≠ (.slice Ao23 t189.length co23 : Value).ownBlock ∧ k_ ≠ gb183 ∧ k_ ≠ gb192)) k_ ∧ some k_ ≠ (v194 : Value).ownBlock)) (HO_184004.out) (fun k_ hk => ⟨⟨hk.1.1, ⟨hk.1.2.1, ⟨hk.1.2.2.1, ⟨hk.1.2.2.2.1, hk.1.2.2.2.2⟩⟩⟩⟩, hk.2⟩))))
   (case aB => exact (by repeat (first | (with_reducible first | exact HB.out | apply ba_ | apply bd_ | apply be_ | refine bs_ ?_ GE183.out | refine bs_ ?_ GE192.out) | exact HB.out)))
   (case aF => exact (fun k_ hk => ⟨(.inr (Nat.le_trans (bz_ (by repeat (first | (with_reducible first | exact HB.out | apply ba_ | apply bd_ | apply be_ | refine bs_ ?_ GE183.out | refine bs_ ?_ GE192.out) | exact HB.out))) hk)), Kd.fresh' (Kd.R_lt (rY HO188.out)) k_ hk, Kd.fresh' (Kd.R_lt (rY HO191.out)) k_ hk, Kd.freshB (g := gb183) (o := .cells #[.slice A0_0 l0_0.length c0_0, .slice A0_1 l0_1.length c0_1, .slice A0_2 l0_2.length c0_2, .slice A0_3 l0_3.length c0_3, .slice A0_4 l0_4.length c0_4, .slice A0_5 l0_5.length c0_5] 33 (0, 0)) (bY BK183.out) k_ hk, Kd.freshB (g := gb192) (o := .cells #[.slice Ao20 t186.length co20, .slice Ao23 t189.length co23] 30 (0, 0)) (bY BK192.out) k_ hk⟩))
   (case aO => exact (by (with_reducible repeat (first | apply Kd.N_alloc | apply Kd.N_drewN | apply Kd.N_drew)); exact HO195.out))
   (case aS => exact (bz_ (by repeat (first | (with_reducible first | exact HB.out | apply ba_ | apply bd_ | apply be_ | refine bs_ ?_ GE183.out | refine bs_ ?_ GE192.out) | exact HB.out))))
   (case aL => have := LMc15.out; omega)
   intro v197 w28 ho hb hg hat
   rw [← Ny196.out] at ho
   have n0_ := A_.mk (Kd.V_afterv (ok := (fun k_ => ((P0_4_ k_ ∨ P0_5_ k_) ∨ w.heap.size ≤ k_) ∧ some k_ ≠ (.slice Ao20 t186.length co20 : Value).ownBlock ∧ some k_ ≠ (.slice Ao23 t189.length co23 : Value).ownBlock ∧ k_ ≠ gb183 ∧ k_ ≠ gb192)) (by (with_reducible repeat (first | apply Kd.V_alloc | apply Kd.V_drewN | apply Kd.V_drew)); exact HO_184004.out) hg hat)
   have n1_ := A_.mk (Kd.V_afterv (ok := (fun k_ => ((P0_4_ k_ ∨ P0_5_ k_) ∨ w.heap.size ≤ k_) ∧ some k_ ≠ (.slice Ao20 t186.length co20 : Value).ownBlock ∧ some k_ ≠ (.slice Ao23 t189.length co23 : Value).ownBlock ∧ k_ ≠ gb183 ∧ k_ ≠ gb192)) (by (with_reducible repeat (first | apply Kd.V_alloc | apply Kd.V_drewN | apply Kd.V_drew)); exact HO_184005.out) hg hat)
   have n2_ := A_.mk (blk_grown (g := gb183) (o := .cells #[.slice A0_0 l0_0.length c0_0, .slice A0_1 l0_1.length c0_1, .slice A0_2 l0_2.length c0_2, .slice A0_3 l0_3.length c0_3, .slice A0_4 l0_4.length c0_4, .slice A0_5 l0_5.length c0_5] 33 (0, 0)) (bY BK183.out) hg (Kd.N_ne HO195.out BK183.out (by decide)))
   have n3_ := A_.mk (Kd.R_over' (rY HO188.out) (Kd.N_typed (by (with_reducible repeat (first | apply Kd.N_alloc | apply Kd.N_drewN | apply Kd.N_drew)); exact HO195.out)) (by decide) hg)
   have n4_ := A_.mk (Kd.R_over' (rY HO191.out) (Kd.N_typed (by (with_reducible repeat (first | apply Kd.N_alloc | apply Kd.N_drewN | apply Kd.N_drew)); exact HO195.out)) (by decide) hg)
   have n5_ := A_.mk (blk_grown (g := gb192) (o := .cells #[.slice Ao20 t186.length co20, .slice Ao23 t189.length co23] 30 (0, 0)) (bY BK192.out) hg (Kd.N_ne HO195.out BK192.out (by decide)))
   have n6_ := A_.mk (hb)
   have n7_ := A_.mk (ho)
   clear HO_184004 HO_184005 BK183 HO188 HO191 BK192 HB HO195
   have HO_184004 := n0_
   have HO_184005 := n1_
   have BK183 := n2_
   have HO188 := n3_
   have HO191 := n4_
   have BK192 := n5_
   have HB := n6_
   have HO198 := n7_
   clear n0_ n1_ n2_ n3_ n4_ n5_ n6_ n7_ ho hb hg hat
   refine hK.out _ _ ⟨(bc_ BK183.out 0).trans rfl, (bc_ BK183.out 1).trans rfl, (bc_ BK183.out 2).trans rfl, (bc_ BK183.out 3).trans rfl, (bc_ BK183.out 4).trans rfl, (bc_ BK183.out 5).trans rfl⟩ (fun hHeld => ?_)
   clear hK K
   refine nm_ ?_
   refine ot_ (i := 6) (N := some 26) #[T, T, T, T, T, T, T, F] rfl HT_.out (fun K hK => ?_)
   refine Kd.N_append_rows_step k38 (w0 := w) w.heap.size (by rfl) (.tmp 23) (.tmp 25) 31 38 (.agg #[(.int .i64 0), (.int .i64 0), (.int .i64 0), (.int .i64 0), (.int .i64 0), (.int .i64 0), (.int .i64 0), (.slice none 0 0)]) 80 rfl Try.underlying31 info38 rfl (by decide) (by omega) v197 y196 l0_5 _ _ _ (fun k_ => ((P0_4_ k_ ∨ P0_5_ k_) ∨ w.heap.size ≤ k_) ∧ some k_ ≠ (.slice Ao20 t186.length co20 : Value).ownBlock ∧ some k_ ≠ (.slice Ao23 t189.length co23 : Value).ownBlock ∧ k_ ≠ gb183 ∧ k_ ≠ gb192) (fun k_ => ((fun k_ => ((P0_4_ k_ ∨ P0_5_ k_) ∨ w.heap.size ≤ k_) ∧ some k_ ≠ (.slice Ao20 t186.length co20 : Value).ownBlock ∧ some k_ ≠ (.slice Ao23 t189.length co23 : Value).ownBlock ∧ k_ ≠ gb183 ∧ k_ ≠ gb192)) k_ ∧ some k_ ≠ (v197 : Value).ownBlock) rfl rfl ?aO ?aR (fun _ hk => hk) ?aF ?aB ?aS ?aL ?_
   (case aR => exact (by skip; exact Kd.V_F (Kd.V_mono (ok' := (fun k_ => ((fun k_ => ((P0_4_ k_ ∨ P0_5_ k_) ∨ w.heap.size ≤ k_) ∧ some k_ ≠ (.slice Ao20 t186.length co20 : Value).ownBlock ∧ some k_ ≠ (.slice Ao23 t189.length co23 : Value).ownBlock ∧ k_ ≠ gb183 ∧ k_ ≠ gb192)) k_ ∧ some k_ ≠ (v197 : Value).ownBlock)) (HO_184005.out) (fun k_ hk => ⟨⟨hk.1.1, ⟨hk.1.2.1, ⟨hk.1.2.2.1, ⟨hk.1.2.2.2.1, hk.1.2.2.2.2⟩⟩⟩⟩, hk.2⟩))))
   (case aB => exact (by repeat (first | (with_reducible first | exact HB.out | apply ba_ | apply bd_ | apply be_ | refine bs_ ?_ GE183.out | refine bs_ ?_ GE192.out) | exact HB.out)))
   (case aF => exact (fun k_ hk => ⟨(.inr (Nat.le_trans (bz_ (by repeat (first | (with_reducible first | exact HB.out | apply ba_ | apply bd_ | apply be_ | refine bs_ ?_ GE183.out | refine bs_ ?_ GE192.out) | exact HB.out))) hk)), Kd.fresh' (Kd.R_lt (rY HO188.out)) k_ hk, Kd.fresh' (Kd.R_lt (rY HO191.out)) k_ hk, Kd.freshB (g := gb183) (o := .cells #[.slice A0_0 l0_0.length c0_0, .slice A0_1 l0_1.length c0_1, .slice A0_2 l0_2.length c0_2, .slice A0_3 l0_3.length c0_3, .slice A0_4 l0_4.length c0_4, .slice A0_5 l0_5.length c0_5] 33 (0, 0)) (bY BK183.out) k_ hk, Kd.freshB (g := gb192) (o := .cells #[.slice Ao20 t186.length co20, .slice Ao23 t189.length co23] 30 (0, 0)) (bY BK192.out) k_ hk⟩))
   (case aO => exact (by (with_reducible repeat (first | apply Kd.N_alloc | apply Kd.N_drewN | apply Kd.N_drew)); exact HO198.out))
   (case aS => exact (bz_ (by repeat (first | (with_reducible first | exact HB.out | apply ba_ | apply bd_ | apply be_ | refine bs_ ?_ GE183.out | refine bs_ ?_ GE192.out) | exact HB.out))))
   (case aL => have := LMc16.out; omega)
   intro v200 w29 ho hb hg hat
   rw [← Ny199.out] at ho
   have n0_ := A_.mk (Kd.V_afterv (ok := (fun k_ => ((P0_4_ k_ ∨ P0_5_ k_) ∨ w.heap.size ≤ k_) ∧ some k_ ≠ (.slice Ao20 t186.length co20 : Value).ownBlock ∧ some k_ ≠ (.slice Ao23 t189.length co23 : Value).ownBlock ∧ k_ ≠ gb183 ∧ k_ ≠ gb192)) (by (with_reducible repeat (first | apply Kd.V_alloc | apply Kd.V_drewN | apply Kd.V_drew)); exact HO_184004.out) hg hat)
   have n1_ := A_.mk (Kd.V_afterv (ok := (fun k_ => ((P0_4_ k_ ∨ P0_5_ k_) ∨ w.heap.size ≤ k_) ∧ some k_ ≠ (.slice Ao20 t186.length co20 : Value).ownBlock ∧ some k_ ≠ (.slice Ao23 t189.length co23 : Value).ownBlock ∧ k_ ≠ gb183 ∧ k_ ≠ gb192)) (by (with_reducible repeat (first | apply Kd.V_alloc | apply Kd.V_drewN | apply Kd.V_drew)); exact HO_184005.out) hg hat)
   have n2_ := A_.mk (blk_grown (g := gb183) (o := .cells #[.slice A0_0 l0_0.length c0_0, .slice A0_1 l0_1.length c0_1, .slice A0_2 l0_2.length c0_2, .slice A0_3 l0_3.length c0_3, .slice A0_4 l0_4.length c0_4, .slice A0_5 l0_5.length c0_5] 33 (0, 0)) (bY BK183.out) hg (Kd.N_ne HO198.out BK183.out (by decide)))
   have n3_ := A_.mk (Kd.R_over' (rY HO188.out) (Kd.N_typed (by (with_reducible repeat (first | apply Kd.N_alloc | apply Kd.N_drewN | apply Kd.N_drew)); exact HO198.out)) (by decide) hg)
   have n4_ := A_.mk (Kd.R_over' (rY HO191.out) (Kd.N_typed (by (with_reducible repeat (first | apply Kd.N_alloc | apply Kd.N_drewN | apply Kd.N_drew)); exact HO198.out)) (by decide) hg)
   have n5_ := A_.mk (blk_grown (g := gb192) (o := .cells #[.slice Ao20 t186.length co20, .slice Ao23 t189.length co23] 30 (0, 0)) (bY BK192.out) hg (Kd.N_ne HO198.out BK192.out (by decide)))
   have n6_ := A_.mk (hb)
   have n7_ := A_.mk (ho)
   clear HO_184004 HO_184005 BK183 HO188 HO191 BK192 HB HO198
   have HO_184004 := n0_
   have HO_184005 := n1_
   have BK183 := n2_
   have HO188 := n3_
   have HO191 := n4_
   have BK192 := n5_
   have HB := n6_
   have HO201 := n7_
   clear n0_ n1_ n2_ n3_ n4_ n5_ n6_ n7_ ho hb hg hat
   refine hK.out _ _ ⟨(bc_ BK183.out 0).trans rfl, (bc_ BK183.out 1).trans rfl, (bc_ BK183.out 2).trans rfl, (bc_ BK183.out 3).trans rfl, (bc_ BK183.out 4).trans rfl, (bc_ BK183.out 5).trans rfl⟩ (fun hHeld => ?_)
   clear hK K
   refine nm_ ?_
   refine pr_ (i := 7) (N := some 4) #[T, T, T, T, T, T, T, T] rfl HT_.out ?_
   refine done_ (done_of HT_.out (by kernel_rfl)) ?_
   try go_wp2
   go_loopg [5] kj1 (fun kq v5 w' => ∃ (x5_2 : Int) (x193000_2 : List Int) (x193001_2 : List Int) (u193000 : Value) (u193001 : Value), v5 = .int .i64 x5_2 ∧ A_ (spec_ChannelOk.l0 kq y199 x5_2 l0_0 l0_1 l0_2 l0_3 l0_4 l0_5 x193000_2 x193001_2 = some r) ∧ A_ (kq ≤ kj1) ∧ A_ (Kd.N k38 38 w' w.heap.size (fun k_ => ((P0_4_ k_ ∨ P0_5_ k_) ∨ w.heap.size ≤ k_) ∧ some k_ ≠ (u193000 : Value).ownBlock ∧ some k_ ≠ (u193001 : Value).ownBlock ∧ k_ ≠ gb183 ∧ k_ ≠ gb192) v200 y199) ∧ A_ (Kd.V k38 38 w' w.heap.size (fun k_ => ((P0_4_ k_ ∨ P0_5_ k_) ∨ w.heap.size ≤ k_) ∧ some k_ ≠ (v200 : Value).ownBlock ∧ some k_ ≠ (u193000 : Value).ownBlock ∧ some k_ ≠ (u193001 : Value).ownBlock ∧ k_ ≠ gb183 ∧ k_ ≠ gb192) (.slice A0_4 l0_4.length c0_4) l0_4) ∧ A_ (Kd.V k38 38 w' w.heap.size (fun k_ => ((P0_4_ k_ ∨ P0_5_ k_) ∨ w.heap.size ≤ k_) ∧ some k_ ≠ (v200 : Value).ownBlock ∧ some k_ ≠ (u193000 : Value).ownBlock ∧ some k_ ≠ (u193001 : Value).ownBlock ∧ k_ ≠ gb183 ∧ k_ ≠ gb192) (.slice A0_5 l0_5.length c0_5) l0_5) ∧ A_ (Kd.R (Kd.int .i64) 3 w' w.heap.size (fun k_ => (w.heap.size ≤ k_) ∧ some k_ ≠ (u193001 : Value).ownBlock) u193000 x193000_2) ∧ A_ (Kd.R (Kd.int .i64) 3 w' w.heap.size (fun k_ => (w.heap.size ≤ k_) ∧ some k_ ≠ (u193000 : Value).ownBlock) u193001 x193001_2) ∧ A_ (w'.heap[gb183]? = some (.cells #[(.slice A0_0 l0_0.length c0_0), (.slice A0_1 l0_1.length c0_1), (.slice A0_2 l0_2.length c0_2), (.slice A0_3 l0_3.length c0_3), (.slice A0_4 l0_4.length c0_4), (.slice A0_5 l0_5.length c0_5)] 33 (0, 0))) ∧ A_ (w'.heap[gb192]? = some (.cells #[u193000, u193001] 30 (0, 0))) ∧ A_ (Below w.heap.size w w'))
   case atStart => exact ⟨(0), (t186), (t189), (.slice Ao20 t186.length co20), (.slice Ao23 t189.length co23), (by first | rfl | (simp; done) | (simp [*]; done)), H', ⟨Nat.le_refl _⟩, ⟨by (with_reducible repeat (first | apply Kd.N_alloc | apply Kd.N_drewN | apply Kd.N_drew)); exact HO201.out⟩, ⟨by (with_reducible repeat (first | apply Kd.V_alloc | apply Kd.V_drewN | apply Kd.V_drew)); exact Kd.V_mono HO_184004.out (fun _ hk => ⟨hk.1.1, ⟨hk.2, ⟨hk.1.2.1, ⟨hk.1.2.2.1, ⟨hk.1.2.2.2.1, hk.1.2.2.2.2⟩⟩⟩⟩⟩)⟩, ⟨by (with_reducible repeat (first | apply Kd.V_alloc | apply Kd.V_drewN | apply Kd.V_drew)); exact Kd.V_mono HO_184005.out (fun _ hk => ⟨hk.1.1, ⟨hk.2, ⟨hk.1.2.1, ⟨hk.1.2.2.1, ⟨hk.1.2.2.2.1, hk.1.2.2.2.2⟩⟩⟩⟩⟩)⟩, ⟨by (repeat apply rX); exact HO188.out⟩, ⟨by (repeat apply rX); exact HO191.out⟩, ⟨by (repeat apply bX); exact BK183.out⟩, ⟨by (repeat apply bX); exact BK192.out⟩, ⟨by repeat (first | (with_reducible first | exact HB.out | apply ba_ | apply bd_ | apply be_ | refine bs_ ?_ GE183.out | refine bs_ ?_ GE192.out) | exact HB.out)⟩⟩
   case round =>
    clear H'
    obtain ⟨x5_2, x193000_2, x193001_2, u193000, u193001, rfl, HA, HK2, HO_4, HO_184004, HO_184005, HO_193000, HO_193001, BK183, BK192, HB⟩ := hrel
    cases gk with
    | zero => exact absurd HA.out (by simp [spec_ChannelOk.l0])
    | succ k2 =>
     have H := HA.out
     clear HA
     simp only [spec_ChannelOk.l0] at H
     by_cases c30 : x5_2 < (y199.length : Int)
     rotate_left
     ·rw [if_neg c30] at H
      have c30b0 : decide (x5_2 < (y199.length : Int)) = false := decide_eq_false c30
      clear c30
      replace H := ob_ H
      obtain ⟨t202, A520, H⟩ := H
      have A52 := A_.mk A520
      clear A520
      obtain rfl := Option.some.inj H
      obtain ⟨Ao53, co53, eo53⟩ := Kd.N_slice HO_4.out
      subst eo53
      have hnb54 := NB192_183.out
      have hnc54 := NB183_192.out
      obtain ⟨hcz55_0, hcz55_1, hfz55_0, hfz55_1⟩ := b2 BK192.out
      obtain ⟨hcz56_0, hcz56_1, hcz56_2, hcz56_3, hcz56_4, hcz56_5, hfz56_0, hfz56_1, hfz56_2, hfz56_3, hfz56_4, hfz56_5⟩ := b6 BK183.out
      obtain ⟨Ao57, co57, eo57⟩ := Kd.R_slice HO_193000.out
      subst eo57
      obtain ⟨Ao58, co58, eo58⟩ := Kd.R_slice HO_193001.out
      subst eo58
      go_wp2_with (first | ((with_reducible refine gc_ (f := 37) rfl ?_); refine gl_ (some 68) Try.func37 #[.agg #[.slice Ao57 x193000_2.length co57, .slice Ao58 x193001_2.length co58], .agg #[.slice A0_0 l0_0.length c0_0, .slice A0_1 l0_1.length c0_1]] ?_; (with_reducible refine (spec_SameCredits.calls k2 _ _ x193000_2 _ _ x193001_2 _ _ l0_0 _ _ l0_1 t202 _ ?side1 ?side2 ?side3 ?side4 ?side5 ?side6 ?side7 ?side8 A52.out).mono ?_); (case side1 => exact cY ((Kd.R_reads' HO_193000.out).2.2)); (case side2 => exact (Kd.R_reads' HO_193000.out).2.1); (case side3 => exact cY ((Kd.R_reads' HO_193001.out).2.2)); (case side4 => exact (Kd.R_reads' HO_193001.out).2.1); (case side5 => exact cY ((Kd.C_below HR0_0.out HB.out))); (case side6 => exact HC0_0.out); (case side7 => exact cY ((Kd.C_below HR0_1.out HB.out))); (case side8 => exact HC0_1.out); rintro e w59 ⟨rfl, hb⟩; refine ⟨_, rfl, ?_⟩; have n0_ := A_.mk (Kd.N_below (by (with_reducible repeat (first | apply Kd.N_alloc | apply Kd.N_drewN | apply Kd.N_drew)); exact HO_4.out) hb); have n1_ := A_.mk (Kd.V_below (by (with_reducible repeat (first | apply Kd.V_alloc | apply Kd.V_drewN | apply Kd.V_drew)); exact HO_184004.out) hb); have n2_ := A_.mk (Kd.V_below (by (with_reducible repeat (first | apply Kd.V_alloc | apply Kd.V_drewN | apply Kd.V_drew)); exact HO_184005.out) hb); have n3_ := A_.mk (Kd.R_below (rY HO_193000.out) hb); have n4_ := A_.mk (Kd.R_below (rY HO_193001.out) hb); have n5_ := A_.mk (bb_ (bY BK183.out) hb); have n6_ := A_.mk (bb_ (bY BK192.out) hb); have n7_ := A_.mk (bt_ (by repeat (first | (with_reducible first | exact HB.out | apply ba_ | apply bd_ | apply be_ | refine bs_ ?_ GE183.out | refine bs_ ?_ GE192.out) | exact HB.out)) hb); clear HO_4 HO_184004 HO_184005 HO_193000 HO_193001 BK183 BK192 HB; have HO_4 := n0_; have HO_184004 := n1_; have HO_184005 := n2_; have HO_193000 := n3_; have HO_193001 := n4_; have BK183 := n5_; have BK192 := n6_; have HB := n7_; clear n0_ n1_ n2_ n3_ n4_ n5_ n6_ n7_; (try clear hb); (try clear hb2); (try clear hk); (try clear hi)))
      go_ret
      exact ⟨by first | rfl | (simp [errW_none, errW_some] <;> rfl) | (simp [*, errW_none, errW_some] <;> rfl), by repeat (first | (with_reducible first | exact HB.out | apply ba_ | apply bd_ | apply be_ | refine bs_ ?_ GE183.out | refine bs_ ?_ GE192.out) | exact HB.out)⟩
     rw [if_pos c30] at H
     have c30b0 : decide (x5_2 < (y199.length : Int)) = true := decide_eq_true c30
     clear c30
     by_cases c31 : 0 ≤ x5_2
     rotate_left
     ·rw [if_neg c31] at H
      exact absurd H (by simp)
     rw [if_pos c31] at H
     have c31b0 : decide (0 ≤ x5_2) = true := decide_eq_true c31
     clear c31
     replace H := ob_ H
     obtain ⟨t204, A320, H⟩ := H
     have A32 := A_.mk A320
     clear A320
     by_cases c33 : t204 < 0
     ·rw [if_pos c33] at H
      have c33b0 : decide (t204 < 0) = true := decide_eq_true c33
      clear c33
      obtain rfl := Option.some.inj H
      obtain ⟨Ao34, co34, eo34⟩ := Kd.N_slice HO_4.out
      subst eo34
      have p203 : 0 ≤ (x5_2 : Int) := od_
      have q203 : x5_2 < (y199.length : Int) := od_
      obtain ⟨ad203, A203_7, c203_7, e203, hx203_0, hx203_1, hx203_2, hx203_3, hx203_4, hx203_5, hx203_6, hx203_7, hl203_7, hi203_7⟩ := at_T38 (Kd.N_reads' HO_4.out).2.2 x5_2 p203 q203
      cases e203
      obtain ⟨ce203, hce203, hMe203, hcc203⟩ := Kd.N_get HO_4.out z38 x5_2 p203 (by first | exact q203 | exact od_ | (have e_ := (Kd.N_reads' HO_4.out).1; omega))
      obtain ⟨ua203_7, uc203_7, rfl, ul203_7, ge203_7⟩ := k38_openF hMe203
      have hv203_7 := hcc203 7 _ rfl
      rw [add_field _ _ 7 (by omega)] at hv203_7
      replace hv203_7 := Option.some.inj (hv203_7.symm.trans hx203_7)
      injection hv203_7 with hva_ hvn_ hvc_
      rw [hva_] at ge203_7
      rw [hvc_] at ul203_7
      have HL203_7 := A_.mk (show Kd.V (Kd.int .i64) 3 _ w.heap.size _ _ ((rd_T38 y199 x5_2).f7) from Kd.V_mk ul203_7 ge203_7)
      clear hva_ hvn_ hvc_ ge203_7 ul203_7 hcc203 hce203
      have HR203_7 := A_.mk hi203_7
      have HC203_7 := A_.mk hl203_7
      clear hi203_7 hl203_7
      replace p203 := eq_true p203
      replace q203 := eq_true q203
      go_wp2_with (first | ((with_reducible refine gc_ (f := 35) rfl ?_); refine gl_ (some 37) Try.func35 #[.agg #[.int .i64 ((rd_T38 y199 x5_2).f0), .int .i64 ((rd_T38 y199 x5_2).f1), .int .i64 ((rd_T38 y199 x5_2).f2), .int .i64 ((rd_T38 y199 x5_2).f3), .int .i64 ((rd_T38 y199 x5_2).f4), .int .i64 ((rd_T38 y199 x5_2).f5), .int .i64 ((rd_T38 y199 x5_2).f6), .slice A203_7 ((rd_T38 y199 x5_2).f7).length c203_7]] ?_; (with_reducible refine (spec_ClassOf.calls k2 ((rd_T38 y199 x5_2).f0) ((rd_T38 y199 x5_2).f1) ((rd_T38 y199 x5_2).f2) ((rd_T38 y199 x5_2).f3) ((rd_T38 y199 x5_2).f4) ((rd_T38 y199 x5_2).f5) ((rd_T38 y199 x5_2).f6) _ _ ((rd_T38 y199 x5_2).f7) t204 _ ?side1 ?side2 A32.out).mono ?_); (case side1 => repeat (first | exact (by repeat (first | (with_reducible exact HR203_7.out) | (with_reducible refine Kd.C_alloc ?_ _) | (with_reducible refine Kd.C_drewN ?_ _) | (with_reducible refine Kd.C_drew ?_) | exact HR203_7.out)) | (with_reducible refine Kd.C_alloc ?_ _) | (with_reducible refine Kd.C_drewN ?_ _) | (with_reducible refine Kd.C_drew ?_))); (case side2 => exact HC203_7.out); rintro e w35 ⟨rfl, hb⟩; refine ⟨_, rfl, ?_⟩; have n0_ := A_.mk (Kd.N_below (by (with_reducible repeat (first | apply Kd.N_alloc | apply Kd.N_drewN | apply Kd.N_drew)); exact HO_4.out) hb); have n1_ := A_.mk (Kd.V_below (by (with_reducible repeat (first | apply Kd.V_alloc | apply Kd.V_drewN | apply Kd.V_drew)); exact HO_184004.out) hb); have n2_ := A_.mk (Kd.V_below (by (with_reducible repeat (first | apply Kd.V_alloc | apply Kd.V_drewN | apply Kd.V_drew)); exact HO_184005.out) hb); have n3_ := A_.mk (Kd.R_below (rY HO_193000.out) hb); have n4_ := A_.mk (Kd.R_below (rY HO_193001.out) hb); have n5_ := A_.mk (Kd.V_below (by (with_reducible repeat (first | apply Kd.V_alloc | apply Kd.V_drewN | apply Kd.V_drew)); exact HL203_7.out) hb); have n6_ := A_.mk (bb_ (bY BK183.out) hb); have n7_ := A_.mk (bb_ (bY BK192.out) hb); have n8_ := A_.mk (Kd.C_below (by repeat (first | (with_reducible exact HR203_7.out) | (with_reducible refine Kd.C_alloc ?_ _) | (with_reducible refine Kd.C_drewN ?_ _) | (with_reducible refine Kd.C_drew ?_) | exact HR203_7.out)) hb); have n9_ := A_.mk (bt_ (by repeat (first | (with_reducible first | exact HB.out | apply ba_ | apply bd_ | apply be_ | refine bs_ ?_ GE183.out | refine bs_ ?_ GE192.out) | exact HB.out)) hb); clear HO_4 HO_184004 HO_184005 HO_193000 HO_193001 HL203_7 BK183 BK192 HR203_7 HB; have HO_4 := n0_; have HO_184004 := n1_; have HO_184005 := n2_; have HO_193000 := n3_; have HO_193001 := n4_; have HL203_7 := n5_; have BK183 := n6_; have BK192 := n7_; have HR203_7 := n8_; have HB := n9_; clear n0_ n1_ n2_ n3_ n4_ n5_ n6_ n7_ n8_ n9_; (try clear hb); (try clear hb2); (try clear hk); (try clear hi)))
      go_ret
      exact ⟨by first | rfl | (simp [errW_none, errW_some] <;> rfl) | (simp [*, errW_none, errW_some] <;> rfl), by repeat (first | (with_reducible first | exact HB.out | apply ba_ | apply bd_ | apply be_ | refine bs_ ?_ GE183.out | refine bs_ ?_ GE192.out) | exact HB.out)⟩
     rw [if_neg c33] at H
     have c33b0 : decide (t204 < 0) = false := decide_eq_false c33
     clear c33
     by_cases c36 : 0 ≤ t204
     rotate_left
     ·rw [if_neg c36] at H
      exact absurd H (by simp)
     rw [if_pos c36] at H
     have c36b0 : decide (0 ≤ t204) = true := decide_eq_true c36
     clear c36
     by_cases c37 : t204 < (x193000_2.length : Int)
     rotate_left
     ·rw [if_neg c37] at H
      exact absurd H (by simp)
     rw [if_pos c37] at H
     have c37b0 : decide (t204 < (x193000_2.length : Int)) = true := decide_eq_true c37
     clear c37
     obtain ⟨y206, hy206⟩ : ∃ y_ : List Int, y_ = (x193000_2.set (t204 : Int).toNat (wrap64 ((rd x193000_2 t204) + 1))) := ⟨_, rfl⟩
     replace H : (if t204 < (x193001_2.length : Int) then ((spec_PacketUnits.f k2 ((rd_T38 y199 x5_2).f0) ((rd_T38 y199 x5_2).f1) ((rd_T38 y199 x5_2).f2) ((rd_T38 y199 x5_2).f3) ((rd_T38 y199 x5_2).f4) ((rd_T38 y199 x5_2).f5) ((rd_T38 y199 x5_2).f6) ((rd_T38 y199 x5_2).f7)).bind fun t209 => (spec_ChannelOk.l0 k2 y199 (wrap64 (x5_2 + 1)) l0_0 l0_1 l0_2 l0_3 l0_4 l0_5 y206 (x193001_2.set (t204 : Int).toNat (wrap64 ((rd x193001_2 t204) + t209))))) else (none)) = some r := by first | (rw [hy206]; with_reducible exact H) | (have H2_ := (Option.bind_some _ _).symm.trans H; rw [hy206]; with_reducible exact H2_) | (have H2_ := (Option.bind_some _ _).symm.trans H; with_reducible exact H2_) | with_reducible exact H | (rw [hy206]; exact H) | exact H
     have Ny206 := A_.mk hy206
     clear hy206
     by_cases c39 : t204 < (x193001_2.length : Int)
     rotate_left
     ·rw [if_neg c39] at H
      exact absurd H (by simp)
     rw [if_pos c39] at H
     have c39b0 : decide (t204 < (x193001_2.length : Int)) = true := decide_eq_true c39
     clear c39
     replace H := ob_ H
     obtain ⟨t209, A400, H⟩ := H
     have A40 := A_.mk A400
     clear A400
     obtain ⟨y210, hy210⟩ : ∃ y_ : List Int, y_ = (x193001_2.set (t204 : Int).toNat (wrap64 ((rd x193001_2 t204) + t209))) := ⟨_, rfl⟩
     replace H : (spec_ChannelOk.l0 k2 y199 (wrap64 (x5_2 + 1)) l0_0 l0_1 l0_2 l0_3 l0_4 l0_5 y206 y210) = some r := by first | (rw [hy210]; with_reducible exact H) | (have H2_ := (Option.bind_some _ _).symm.trans H; rw [hy210]; with_reducible exact H2_) | (have H2_ := (Option.bind_some _ _).symm.trans H; with_reducible exact H2_) | with_reducible exact H | (rw [hy210]; exact H) | exact H
     have Ny210 := A_.mk hy210
     clear hy210
     have H' := A_.mk H
     clear H
     obtain ⟨Ao42, co42, eo42⟩ := Kd.N_slice HO_4.out
     subst eo42
     have p203 : 0 ≤ (x5_2 : Int) := od_
     have q203 : x5_2 < (y199.length : Int) := od_
     obtain ⟨ad203, A203_7, c203_7, e203, hx203_0, hx203_1, hx203_2, hx203_3, hx203_4, hx203_5, hx203_6, hx203_7, hl203_7, hi203_7⟩ := at_T38 (Kd.N_reads' HO_4.out).2.2 x5_2 p203 q203
     cases e203
     obtain ⟨ce203, hce203, hMe203, hcc203⟩ := Kd.N_get HO_4.out z38 x5_2 p203 (by first | exact q203 | exact od_ | (have e_ := (Kd.N_reads' HO_4.out).1; omega))
     obtain ⟨ua203_7, uc203_7, rfl, ul203_7, ge203_7⟩ := k38_openF hMe203
     have hv203_7 := hcc203 7 _ rfl
     rw [add_field _ _ 7 (by omega)] at hv203_7
     replace hv203_7 := Option.some.inj (hv203_7.symm.trans hx203_7)
     injection hv203_7 with hva_ hvn_ hvc_
     rw [hva_] at ge203_7
     rw [hvc_] at ul203_7
     have HL203_7 := A_.mk (show Kd.V (Kd.int .i64) 3 _ w.heap.size _ _ ((rd_T38 y199 x5_2).f7) from Kd.V_mk ul203_7 ge203_7)
     clear hva_ hvn_ hvc_ ge203_7 ul203_7 hcc203 hce203
     have HR203_7 := A_.mk hi203_7
     have HC203_7 := A_.mk hl203_7
     clear hi203_7 hl203_7
     replace p203 := eq_true p203
     replace q203 := eq_true q203
     try go_wp2_with (first | ((with_reducible refine gc_ (f := 35) rfl ?_); refine gl_ (some 37) Try.func35 #[.agg #[.int .i64 ((rd_T38 y199 x5_2).f0), .int .i64 ((rd_T38 y199 x5_2).f1), .int .i64 ((rd_T38 y199 x5_2).f2), .int .i64 ((rd_T38 y199 x5_2).f3), .int .i64 ((rd_T38 y199 x5_2).f4), .int .i64 ((rd_T38 y199 x5_2).f5), .int .i64 ((rd_T38 y199 x5_2).f6), .slice A203_7 ((rd_T38 y199 x5_2).f7).length c203_7]] ?_; (with_reducible refine (spec_ClassOf.calls k2 ((rd_T38 y199 x5_2).f0) ((rd_T38 y199 x5_2).f1) ((rd_T38 y199 x5_2).f2) ((rd_T38 y199 x5_2).f3) ((rd_T38 y199 x5_2).f4) ((rd_T38 y199 x5_2).f5) ((rd_T38 y199 x5_2).f6) _ _ ((rd_T38 y199 x5_2).f7) t204 _ ?side1 ?side2 A32.out).mono ?_); (case side1 => repeat (first | exact (by repeat (first | (with_reducible exact HR203_7.out) | (with_reducible refine Kd.C_alloc ?_ _) | (with_reducible refine Kd.C_drewN ?_ _) | (with_reducible refine Kd.C_drew ?_) | exact HR203_7.out)) | (with_reducible refine Kd.C_alloc ?_ _) | (with_reducible refine Kd.C_drewN ?_ _) | (with_reducible refine Kd.C_drew ?_))); (case side2 => exact HC203_7.out); rintro e w43 ⟨rfl, hb⟩; refine ⟨_, rfl, ?_⟩; have n0_ := A_.mk (Kd.N_below (by (with_reducible repeat (first | apply Kd.N_alloc | apply Kd.N_drewN | apply Kd.N_drew)); exact HO_4.out) hb); have n1_ := A_.mk (Kd.V_below (by (with_reducible repeat (first | apply Kd.V_alloc | apply Kd.V_drewN | apply Kd.V_drew)); exact HO_184004.out) hb); have n2_ := A_.mk (Kd.V_below (by (with_reducible repeat (first | apply Kd.V_alloc | apply Kd.V_drewN | apply Kd.V_drew)); exact HO_184005.out) hb); have n3_ := A_.mk (Kd.R_below (rY HO_193000.out) hb); have n4_ := A_.mk (Kd.R_below (rY HO_193001.out) hb); have n5_ := A_.mk (Kd.V_below (by (with_reducible repeat (first | apply Kd.V_alloc | apply Kd.V_drewN | apply Kd.V_drew)); exact HL203_7.out) hb); have n6_ := A_.mk (bb_ (bY BK183.out) hb); have n7_ := A_.mk (bb_ (bY BK192.out) hb); have n8_ := A_.mk (Kd.C_below (by repeat (first | (with_reducible exact HR203_7.out) | (with_reducible refine Kd.C_alloc ?_ _) | (with_reducible refine Kd.C_drewN ?_ _) | (with_reducible refine Kd.C_drew ?_) | exact HR203_7.out)) hb); have n9_ := A_.mk (bt_ (by repeat (first | (with_reducible first | exact HB.out | apply ba_ | apply bd_ | apply be_ | refine bs_ ?_ GE183.out | refine bs_ ?_ GE192.out) | exact HB.out)) hb); clear HO_4 HO_184004 HO_184005 HO_193000 HO_193001 HL203_7 BK183 BK192 HR203_7 HB; have HO_4 := n0_; have HO_184004 := n1_; have HO_184005 := n2_; have HO_193000 := n3_; have HO_193001 := n4_; have HL203_7 := n5_; have BK183 := n6_; have BK192 := n7_; have HR203_7 := n8_; have HB := n9_; clear n0_ n1_ n2_ n3_ n4_ n5_ n6_ n7_ n8_ n9_; (try clear hb); (try clear hb2); (try clear hk); (try clear hi)))
     have n0_ := A_.mk (Kd.N_drew HO_4.out)
     have n1_ := A_.mk (Kd.V_drew HO_184004.out)
     have n2_ := A_.mk (Kd.V_drew HO_184005.out)
     have n3_ := A_.mk (Kd.R_drew HO_193000.out)
     have n4_ := A_.mk (Kd.R_drew HO_193001.out)
     have n5_ := A_.mk (Kd.V_drew HL203_7.out)
     have n6_ := A_.mk (bw_ BK183.out)
     have n7_ := A_.mk (bw_ BK192.out)
     have n8_ := A_.mk (Kd.C_drew HR203_7.out)
     have n9_ := A_.mk (be_ HB.out)
     clear HO_4 HO_184004 HO_184005 HO_193000 HO_193001 HL203_7 BK183 BK192 HR203_7 HB
     have HO_4 := n0_
     have HO_184004 := n1_
     have HO_184005 := n2_
     have HO_193000 := n3_
     have HO_193001 := n4_
     have HL203_7 := n5_
     have BK183 := n6_
     have BK192 := n7_
     have HR203_7 := n8_
     have HB := n9_
     clear n0_ n1_ n2_ n3_ n4_ n5_ n6_ n7_ n8_ n9_
     obtain ⟨Ao45, co45, eo45⟩ := Kd.R_slice HO_193000.out
     (first | subst eo45 | (injection eo45 with f1_ f2_ f3_; have f4_ := f1_.symm; have f5_ := f3_.symm; clear f1_ f2_ f3_; subst f4_; subst f5_))
     have p205 : 0 ≤ (t204 : Int) := od_
     have q205 : t204 < (x193000_2.length : Int) := od_
     obtain ⟨ad205, e205, hx205_0⟩ := Kd.at_int (Kd.R_reads' HO_193000.out).2.2 t204 p205 q205
     cases e205
     replace p205 := eq_true p205
     replace q205 := eq_true q205
     have p38 : 0 ≤ (t204 : Int) := od_
     have q38 : (t204 : Int) < ((x193000_2.length : Int) : Int) := od_
     obtain ⟨go38, co38, eo38, gb38, gl38, cl38, HG38⟩ := Kd.R_form HO_193000.out (by omega)
     (first | cases eo38 | (injection eo38 with ea_ en_ ec_; (first | subst ea_ | (injection ea_ with ea_; subst ea_)); subst ec_; clear en_))
     have GB38 := A_.mk gb38
     have GG38 := A_.mk HG38
     clear gb38 gl38 HG38
     (first | simp only [add_plain] at hx205_0 | skip)
     obtain ⟨hx38_0, hf38_0⟩ := Kd.R_celln 0 HO_193000.out (t204 : Int) p38 q38
     replace p38 := eq_true p38
     replace q38 := eq_true q38
     have HP46 := Kd.R_putn HO_193000.out (t204 : Int) (wrap64 ((rd x193000_2 t204) + 1))
     rw [← Ny206.out] at HP46
     have HQ46 := A_.mk HP46
     clear HP46
     refine start_ (n := 11) (S := fun w' => w'.cell? ⟨gb192, 0, none⟩ = some (.slice (some ⟨go38, 0, none⟩) x193000_2.length co45) ∧ w'.cell? ⟨gb192, 1, none⟩ = some (u193001) ∧ w'.cell? ⟨go38, (t204).toNat, none⟩ = some (.int .i64 (rd x193000_2 t204))) (ds := [10]) #[F, F, F, F, F, F, F, F, F, F, F] (by kernel_rfl) rfl rfl ⟨(bc_ BK192.out 0).trans rfl, (bc_ BK192.out 1).trans rfl, hx205_0⟩ (fun hHeld => ?_); refine with_tabW spec_ChannelOk.tab11 spec_ChannelOk.bits11 (fun HT_ HW_ => ?_)
     generalize w43.drew = w44 at HO_4 HO_184004 HO_184005 HO_193000 HO_193001 HL203_7 BK183 BK192 HR203_7 HB GG38 HQ46 hf38_0 hx205_0 hx38_0 hHeld ⊢
     refine pr_ (i := 0) (N := some 40) #[T, F, F, F, F, F, F, F, F, F, F] rfl HT_.out ?_
     refine pr_ (i := 2) (N := some 42) #[T, F, T, F, F, F, F, F, F, F, F] rfl HT_.out ?_
     refine pr_ (i := 3) (N := some 43) #[T, F, T, T, F, F, F, F, F, F, F] rfl HT_.out ?_
     refine pr_ (i := 5) (N := some 45) #[T, F, T, T, F, T, F, F, F, F, F] rfl HT_.out ?_
     refine tk_ (i := 1) (N := some 41) #[T, T, T, T, F, T, F, F, F, F, F] rfl HT_.out HW_.out hHeld ?_
     refine tk_ (i := 4) (N := some 44) #[T, T, T, T, T, T, F, F, F, F, F] rfl HT_.out HW_.out hHeld ?_
     refine pr_ (i := 6) (N := some 46) #[T, T, T, T, T, T, T, F, F, F, F] rfl HT_.out ?_
     refine tk_ (i := 7) (N := some 47) #[T, T, T, T, T, T, T, T, F, F, F] rfl HT_.out HW_.out hHeld ?_
     refine pr_ (i := 8) (N := some 48) #[T, T, T, T, T, T, T, T, T, F, F] rfl HT_.out ?_
     refine pr_ (i := 9) (N := some 49) #[T, T, T, T, T, T, T, T, T, T, F] rfl HT_.out ?_
     refine last_ (i := 10) (N := none) #[T, T, T, T, T, T, T, T, T, T, T] rfl rfl (one_of HT_.out (by kernel_rfl)) (by decide) (fun K hK => ?_)
     refine skip_ (w1 := ?_) (by rfl) rfl ?_ ?_
     rotate_left
     ·go_simp
      rfl
     refine hK.out _ _ ?_
     clear hK K
     refine done_ (done_of HT_.out (by kernel_rfl)) ?_
     try go_wp2
     have n0_ : A_ (Kd.N k38 38 (w44.setCell ⟨go38, (t204 : Int).toNat, none⟩ (.int .i64 (wrap64 ((rd x193000_2 t204) + 1)))) w.heap.size (fun k_ => ((P0_4_ k_ ∨ P0_5_ k_) ∨ w.heap.size ≤ k_) ∧ some k_ ≠ (.slice (some ⟨go38, 0, none⟩) x193000_2.length co45 : Value).ownBlock ∧ some k_ ≠ (u193001 : Value).ownBlock ∧ k_ ≠ gb183 ∧ k_ ≠ gb192) (.slice (some ad203) y199.length co42) y199) := ⟨by (with_reducible repeat (first | apply Kd.N_alloc | apply Kd.N_drewN | apply Kd.N_drew)); exact Kd.N_mono (Kd.N_far (p := ⟨go38, (t204 : Int).toNat, none⟩) (Kd.N_mono HO_4.out (fun k_ hk => (⟨hk, fun e_ => hk.2.1 (by rw [e_]; rfl)⟩ : _ ∧ k_ ≠ go38))) (fun _ hk => hk.2) (.int .i64 (wrap64 ((rd x193000_2 t204) + 1)))) (fun _ hk => ⟨hk.1.1, ⟨hk.1.2.1, ⟨hk.1.2.2.1, ⟨hk.1.2.2.2.1, hk.1.2.2.2.2⟩⟩⟩⟩)⟩
     have n1_ : A_ (Kd.V k38 38 (w44.setCell ⟨go38, (t204 : Int).toNat, none⟩ (.int .i64 (wrap64 ((rd x193000_2 t204) + 1)))) w.heap.size (fun k_ => ((P0_4_ k_ ∨ P0_5_ k_) ∨ w.heap.size ≤ k_) ∧ some k_ ≠ (.slice (some ad203) y199.length co42 : Value).ownBlock ∧ some k_ ≠ (.slice (some ⟨go38, 0, none⟩) x193000_2.length co45 : Value).ownBlock ∧ some k_ ≠ (u193001 : Value).ownBlock ∧ k_ ≠ gb183 ∧ k_ ≠ gb192) (.slice A0_4 l0_4.length c0_4) l0_4) := ⟨by (with_reducible repeat (first | apply Kd.V_alloc | apply Kd.V_drewN | apply Kd.V_drew)); exact Kd.V_mono (Kd.V_far (p := ⟨go38, (t204 : Int).toNat, none⟩) (Kd.V_mono HO_184004.out (fun k_ hk => (⟨hk, fun e_ => hk.2.2.1 (by rw [e_]; rfl)⟩ : _ ∧ k_ ≠ go38))) (fun _ hk => hk.2) (.int .i64 (wrap64 ((rd x193000_2 t204) + 1)))) (fun _ hk => ⟨hk.1.1, ⟨hk.1.2.1, ⟨hk.1.2.2.1, ⟨hk.1.2.2.2.1, ⟨hk.1.2.2.2.2.1, hk.1.2.2.2.2.2⟩⟩⟩⟩⟩)⟩
     have n2_ : A_ (Kd.V k38 38 (w44.setCell ⟨go38, (t204 : Int).toNat, none⟩ (.int .i64 (wrap64 ((rd x193000_2 t204) + 1)))) w.heap.size (fun k_ => ((P0_4_ k_ ∨ P0_5_ k_) ∨ w.heap.size ≤ k_) ∧ some k_ ≠ (.slice (some ad203) y199.length co42 : Value).ownBlock ∧ some k_ ≠ (.slice (some ⟨go38, 0, none⟩) x193000_2.length co45 : Value).ownBlock ∧ some k_ ≠ (u193001 : Value).ownBlock ∧ k_ ≠ gb183 ∧ k_ ≠ gb192) (.slice A0_5 l0_5.length c0_5) l0_5) := ⟨by (with_reducible repeat (first | apply Kd.V_alloc | apply Kd.V_drewN | apply Kd.V_drew)); exact Kd.V_mono (Kd.V_far (p := ⟨go38, (t204 : Int).toNat, none⟩) (Kd.V_mono HO_184005.out (fun k_ hk => (⟨hk, fun e_ => hk.2.2.1 (by rw [e_]; rfl)⟩ : _ ∧ k_ ≠ go38))) (fun _ hk => hk.2) (.int .i64 (wrap64 ((rd x193000_2 t204) + 1)))) (fun _ hk => ⟨hk.1.1, ⟨hk.1.2.1, ⟨hk.1.2.2.1, ⟨hk.1.2.2.2.1, ⟨hk.1.2.2.2.2.1, hk.1.2.2.2.2.2⟩⟩⟩⟩⟩)⟩
     have n3_ : A_ (Kd.R (Kd.int .i64) 3 (w44.setCell ⟨go38, (t204 : Int).toNat, none⟩ (.int .i64 (wrap64 ((rd x193000_2 t204) + 1)))) w.heap.size (fun k_ => (w.heap.size ≤ k_) ∧ some k_ ≠ (u193001 : Value).ownBlock) (.slice (some ⟨go38, 0, none⟩) x193000_2.length co45) y206) := ⟨by (repeat apply rX); exact HQ46.out⟩
     have n4_ : A_ (Kd.R (Kd.int .i64) 3 (w44.setCell ⟨go38, (t204 : Int).toNat, none⟩ (.int .i64 (wrap64 ((rd x193000_2 t204) + 1)))) w.heap.size (fun k_ => (w.heap.size ≤ k_) ∧ some k_ ≠ (.slice (some ⟨go38, 0, none⟩) x193000_2.length co45 : Value).ownBlock) u193001 x193001_2) := ⟨by (repeat apply rX); exact Kd.R_mono (Kd.R_far (p := ⟨go38, (t204 : Int).toNat, none⟩) (Kd.R_mono HO_193001.out (fun k_ hk => (⟨hk, fun e_ => hk.2 (by rw [e_]; rfl)⟩ : _ ∧ k_ ≠ go38))) (fun _ hk => hk.2) (.int .i64 (wrap64 ((rd x193000_2 t204) + 1)))) (fun _ hk => ⟨hk.1.1, hk.1.2⟩)⟩
     have n5_ : A_ (Kd.V (Kd.int .i64) 3 (w44.setCell ⟨go38, (t204 : Int).toNat, none⟩ (.int .i64 (wrap64 ((rd x193000_2 t204) + 1)))) w.heap.size (fun k_ => ((P0_4_ k_ ∨ P0_5_ k_) ∨ w.heap.size ≤ k_) ∧ some k_ ≠ (.slice (some ad203) y199.length co42 : Value).ownBlock ∧ some k_ ≠ (.slice (some ⟨go38, 0, none⟩) x193000_2.length co45 : Value).ownBlock ∧ some k_ ≠ (u193001 : Value).ownBlock ∧ k_ ≠ gb183 ∧ k_ ≠ gb192) (.slice A203_7 ((rd_T38 y199 x5_2).f7).length c203_7) ((rd_T38 y199 x5_2).f7)) := ⟨by (with_reducible repeat (first | apply Kd.V_alloc | apply Kd.V_drewN | apply Kd.V_drew)); exact Kd.V_mono (Kd.V_far (p := ⟨go38, (t204 : Int).toNat, none⟩) (Kd.V_mono HL203_7.out (fun k_ hk => (⟨hk, fun e_ => hk.1.2.1 (by rw [e_]; rfl)⟩ : _ ∧ k_ ≠ go38))) (fun _ hk => hk.2) (.int .i64 (wrap64 ((rd x193000_2 t204) + 1)))) (fun _ hk => ⟨hk.1.1.1, ⟨hk.1.2, ⟨hk.1.1.2.1, ⟨hk.1.1.2.2.1, ⟨hk.1.1.2.2.2.1, hk.1.1.2.2.2.2⟩⟩⟩⟩⟩)⟩
     have n6_ : A_ ((w44.setCell ⟨go38, (t204 : Int).toNat, none⟩ (.int .i64 (wrap64 ((rd x193000_2 t204) + 1)))).heap[gb183]? = some (.cells #[.slice A0_0 l0_0.length c0_0, .slice A0_1 l0_1.length c0_1, .slice A0_2 l0_2.length c0_2, .slice A0_3 l0_3.length c0_3, .slice A0_4 l0_4.length c0_4, .slice A0_5 l0_5.length c0_5] 33 (0, 0))) := ⟨by (repeat apply bX); refine blk_far ?_ (by have h_ := Kd.R_ne HO_193000.out BK183.out (by decide); intro e_; exact h_ (by rw [e_]; rfl)) _; (repeat apply bX); exact BK183.out⟩
     have n7_ : A_ ((w44.setCell ⟨go38, (t204 : Int).toNat, none⟩ (.int .i64 (wrap64 ((rd x193000_2 t204) + 1)))).heap[gb192]? = some (.cells #[.slice (some ⟨go38, 0, none⟩) x193000_2.length co45, u193001] 30 (0, 0))) := ⟨by (repeat apply bX); refine blk_far ?_ (by have h_ := Kd.R_ne HO_193000.out BK192.out (by decide); intro e_; exact h_ (by rw [e_]; rfl)) _; (repeat apply bX); exact BK192.out⟩
     have n8_ : A_ (Below w.heap.size w (w44.setCell ⟨go38, (t204 : Int).toNat, none⟩ (.int .i64 (wrap64 ((rd x193000_2 t204) + 1))))) := ⟨by repeat (first | (with_reducible first | exact HB.out | apply ba_ | apply bd_ | apply be_ | refine bs_ ?_ GB38.out | refine bs_ ?_ GE183.out | refine bs_ ?_ GE192.out) | exact HB.out)⟩
     generalize (w44.setCell ⟨go38, (t204 : Int).toNat, none⟩ (.int .i64 (wrap64 ((rd x193000_2 t204) + 1)))) = w47 at n0_ n1_ n2_ n3_ n4_ n5_ n6_ n7_ n8_ ⊢
     have HO_4 := n0_
     have HO_184004 := n1_
     have HO_184005 := n2_
     have HO_193000 := n3_
     have HO_193001 := n4_
     have HL203_7 := n5_
     have BK183 := n6_
     have BK192 := n7_
     have HB := n8_
     clear n0_ n1_ n2_ n3_ n4_ n5_ n6_ n7_ n8_
     have n0_ := A_.mk (Kd.N_drew HO_4.out)
     have n1_ := A_.mk (Kd.V_drew HO_184004.out)
     have n2_ := A_.mk (Kd.V_drew HO_184005.out)
     have n3_ := A_.mk (Kd.R_drew HO_193000.out)
     have n4_ := A_.mk (Kd.R_drew HO_193001.out)
     have n5_ := A_.mk (Kd.V_drew HL203_7.out)
     have n6_ := A_.mk (bw_ BK183.out)
     have n7_ := A_.mk (bw_ BK192.out)
     have n8_ := A_.mk (be_ HB.out)
     clear HO_4 HO_184004 HO_184005 HO_193000 HO_193001 HL203_7 BK183 BK192 HB
     have HO_4 := n0_
     have HO_184004 := n1_
     have HO_184005 := n2_
     have HO_193000 := n3_
     have HO_193001 := n4_
     have HL203_7 := n5_
     have BK183 := n6_
     have BK192 := n7_
     have HB := n8_
     clear n0_ n1_ n2_ n3_ n4_ n5_ n6_ n7_ n8_
     obtain ⟨Ao49, co49, eo49⟩ := Kd.R_slice HO_193001.out
     (first | subst eo49 | (injection eo49 with f1_ f2_ f3_; have f4_ := f1_.symm; have f5_ := f3_.symm; clear f1_ f2_ f3_; subst f4_; subst f5_))
     have p207 : 0 ≤ (t204 : Int) := od_
     have q207 : t204 < (x193001_2.length : Int) := od_
     obtain ⟨ad207, e207, hx207_0⟩ := Kd.at_int (Kd.R_reads' HO_193001.out).2.2 t204 p207 q207
     cases e207
     replace p207 := eq_true p207
     replace q207 := eq_true q207
     have p208 : 0 ≤ (x5_2 : Int) := od_
     have q208 : x5_2 < (y199.length : Int) := od_
     obtain ⟨ad208, A208_7, c208_7, e208, hx208_0, hx208_1, hx208_2, hx208_3, hx208_4, hx208_5, hx208_6, hx208_7, hl208_7, hi208_7⟩ := at_T38 (Kd.N_reads' HO_4.out).2.2 x5_2 p208 q208
     obtain rfl : ad203 = ad208 := (by injection e208)
     obtain ⟨ce208, hce208, hMe208, hcc208⟩ := Kd.N_get HO_4.out z38 x5_2 p208 (by first | exact q208 | exact od_ | (have e_ := (Kd.N_reads' HO_4.out).1; omega))
     obtain ⟨ua208_7, uc208_7, rfl, ul208_7, ge208_7⟩ := k38_openF hMe208
     have hv208_7 := hcc208 7 _ rfl
     rw [add_field _ _ 7 (by omega)] at hv208_7
     replace hv208_7 := Option.some.inj (hv208_7.symm.trans hx208_7)
     injection hv208_7 with hva_ hvn_ hvc_
     rw [hva_] at ge208_7
     rw [hvc_] at ul208_7
     have HL208_7 := A_.mk (show Kd.V (Kd.int .i64) 3 _ w.heap.size _ _ ((rd_T38 y199 x5_2).f7) from Kd.V_mk ul208_7 ge208_7)
     clear hva_ hvn_ hvc_ ge208_7 ul208_7 hcc208 hce208
     have HR208_7 := A_.mk hi208_7
     have HC208_7 := A_.mk hl208_7
     clear hi208_7 hl208_7
     replace p208 := eq_true p208
     replace q208 := eq_true q208
     refine start_ (n := 16) (S := fun w' => w'.cell? ⟨gb192, 0, none⟩ = some (.slice (some ⟨go38, 0, none⟩) x193000_2.length co45) ∧ w'.cell? ⟨gb192, 1, none⟩ = some (.slice (some ad207) x193001_2.length co49) ∧ w'.cell? (ad207.add (t204).toNat) = some (.int .i64 (rd x193001_2 t204)) ∧ w'.cell? (ad203.add ((x5_2).toNat * 8)) = some (.int .i64 ((rd_T38 y199 x5_2).f0)) ∧ w'.cell? ⟨(ad203.add ((x5_2).toNat * 8)).block, (ad203.add ((x5_2).toNat * 8)).off + 1, none⟩ = some (.int .i64 ((rd_T38 y199 x5_2).f1)) ∧ w'.cell? ⟨(ad203.add ((x5_2).toNat * 8)).block, (ad203.add ((x5_2).toNat * 8)).off + 2, none⟩ = some (.int .i64 ((rd_T38 y199 x5_2).f2)) ∧ w'.cell? ⟨(ad203.add ((x5_2).toNat * 8)).block, (ad203.add ((x5_2).toNat * 8)).off + 3, none⟩ = some (.int .i64 ((rd_T38 y199 x5_2).f3)) ∧ w'.cell? ⟨(ad203.add ((x5_2).toNat * 8)).block, (ad203.add ((x5_2).toNat * 8)).off + 4, none⟩ = some (.int .i64 ((rd_T38 y199 x5_2).f4)) ∧ w'.cell? ⟨(ad203.add ((x5_2).toNat * 8)).block, (ad203.add ((x5_2).toNat * 8)).off + 5, none⟩ = some (.int .i64 ((rd_T38 y199 x5_2).f5)) ∧ w'.cell? ⟨(ad203.add ((x5_2).toNat * 8)).block, (ad203.add ((x5_2).toNat * 8)).off + 6, none⟩ = some (.int .i64 ((rd_T38 y199 x5_2).f6)) ∧ w'.cell? ⟨(ad203.add ((x5_2).toNat * 8)).block, (ad203.add ((x5_2).toNat * 8)).off + 7, none⟩ = some (.slice A208_7 ((rd_T38 y199 x5_2).f7).length c208_7)) (ds := [15]) #[F, F, F, F, F, F, F, F, F, F, F, F, F, F, F, F] (by kernel_rfl) rfl rfl ⟨(bc_ BK192.out 0).trans rfl, (bc_ BK192.out 1).trans rfl, hx207_0, hx208_0, hx208_1, hx208_2, hx208_3, hx208_4, hx208_5, hx208_6, hx208_7⟩ (fun hHeld => ?_); refine with_tabW spec_ChannelOk.tab12 spec_ChannelOk.bits12 (fun HT_ HW_ => ?_)
     generalize w47.drew = w48 at HO_4 HO_184004 HO_184005 HO_193000 HO_193001 HL203_7 BK183 BK192 HB HL208_7 HQ46 HR208_7 hx207_0 hx208_0 hx208_1 hx208_2 hx208_3 hx208_4 hx208_5 hx208_6 hx208_7 hHeld ⊢
     refine pr_ (i := 0) (N := some 50) #[T, F, F, F, F, F, F, F, F, F, F, F, F, F, F, F] rfl HT_.out ?_
     refine pr_ (i := 2) (N := some 52) #[T, F, T, F, F, F, F, F, F, F, F, F, F, F, F, F] rfl HT_.out ?_
     refine pr_ (i := 3) (N := some 53) #[T, F, T, T, F, F, F, F, F, F, F, F, F, F, F, F] rfl HT_.out ?_
     refine pr_ (i := 5) (N := some 55) #[T, F, T, T, F, T, F, F, F, F, F, F, F, F, F, F] rfl HT_.out ?_
     refine pr_ (i := 8) (N := some 58) #[T, F, T, T, F, T, F, F, T, F, F, F, F, F, F, F] rfl HT_.out ?_
     refine pr_ (i := 9) (N := some 59) #[T, F, T, T, F, T, F, F, T, T, F, F, F, F, F, F] rfl HT_.out ?_
     refine pr_ (i := 10) (N := some 60) #[T, F, T, T, F, T, F, F, T, T, T, F, F, F, F, F] rfl HT_.out ?_
     refine tk_ (i := 1) (N := some 51) #[T, T, T, T, F, T, F, F, T, T, T, F, F, F, F, F] rfl HT_.out HW_.out hHeld ?_
     refine tk_ (i := 4) (N := some 54) #[T, T, T, T, T, T, F, F, T, T, T, F, F, F, F, F] rfl HT_.out HW_.out hHeld ?_
     refine pr_ (i := 6) (N := some 56) #[T, T, T, T, T, T, T, F, T, T, T, F, F, F, F, F] rfl HT_.out ?_
     refine tk_ (i := 7) (N := some 57) #[T, T, T, T, T, T, T, T, T, T, T, F, F, F, F, F] rfl HT_.out HW_.out hHeld ?_
     refine tk_ (i := 11) (N := some 61) #[T, T, T, T, T, T, T, T, T, T, T, T, F, F, F, F] rfl HT_.out HW_.out hHeld ?_
     refine ot_ (i := 12) (N := some 62) #[T, T, T, T, T, T, T, T, T, T, T, T, T, F, F, F] rfl HT_.out (fun K hK => ?_)
     refine gz_ Try.func36 #[.agg #[.int .i64 ((rd_T38 y199 x5_2).f0), .int .i64 ((rd_T38 y199 x5_2).f1), .int .i64 ((rd_T38 y199 x5_2).f2), .int .i64 ((rd_T38 y199 x5_2).f3), .int .i64 ((rd_T38 y199 x5_2).f4), .int .i64 ((rd_T38 y199 x5_2).f5), .int .i64 ((rd_T38 y199 x5_2).f6), .slice A208_7 ((rd_T38 y199 x5_2).f7).length c208_7]] ?_
     with_reducible refine (spec_PacketUnits.calls k2 ((rd_T38 y199 x5_2).f0) ((rd_T38 y199 x5_2).f1) ((rd_T38 y199 x5_2).f2) ((rd_T38 y199 x5_2).f3) ((rd_T38 y199 x5_2).f4) ((rd_T38 y199 x5_2).f5) ((rd_T38 y199 x5_2).f6) _ _ ((rd_T38 y199 x5_2).f7) t209 _ ?side1 ?side2 A40.out).mono ?_
     (case side1 => repeat (first | exact (by repeat (first | (with_reducible exact HR208_7.out) | (with_reducible refine Kd.C_alloc ?_ _) | (with_reducible refine Kd.C_drewN ?_ _) | (with_reducible refine Kd.C_drew ?_) | exact HR208_7.out)) | (with_reducible refine Kd.C_alloc ?_ _) | (with_reducible refine Kd.C_drewN ?_ _) | (with_reducible refine Kd.C_drew ?_)))
     (case side2 => exact HC208_7.out)
     rintro e w50 ⟨rfl, hb⟩
     have HS2_ := (hb.cell (wl_ _ _ (hHeld.2.2.1))).trans (hHeld.2.2.1)
     have HS3_ := (hb.cell (wl_ _ _ (hHeld.2.2.2.1))).trans (hHeld.2.2.2.1)
     have HS4_ := (hb.cell (wl_ _ _ (hHeld.2.2.2.2.1))).trans (hHeld.2.2.2.2.1)
     have HS5_ := (hb.cell (wl_ _ _ (hHeld.2.2.2.2.2.1))).trans (hHeld.2.2.2.2.2.1)
     have HS6_ := (hb.cell (wl_ _ _ (hHeld.2.2.2.2.2.2.1))).trans (hHeld.2.2.2.2.2.2.1)
     have HS7_ := (hb.cell (wl_ _ _ (hHeld.2.2.2.2.2.2.2.1))).trans (hHeld.2.2.2.2.2.2.2.1)
     have HS8_ := (hb.cell (wl_ _ _ (hHeld.2.2.2.2.2.2.2.2.1))).trans (hHeld.2.2.2.2.2.2.2.2.1)
     have HS9_ := (hb.cell (wl_ _ _ (hHeld.2.2.2.2.2.2.2.2.2.1))).trans (hHeld.2.2.2.2.2.2.2.2.2.1)
     have HS10_ := (hb.cell (wl_ _ _ (hHeld.2.2.2.2.2.2.2.2.2.2))).trans (hHeld.2.2.2.2.2.2.2.2.2.2)
     refine ⟨_, rfl, ?_⟩
     have n0_ := A_.mk (Kd.N_below (by (with_reducible repeat (first | apply Kd.N_alloc | apply Kd.N_drewN | apply Kd.N_drew)); exact HO_4.out) hb)
     have n1_ := A_.mk (Kd.V_below (by (with_reducible repeat (first | apply Kd.V_alloc | apply Kd.V_drewN | apply Kd.V_drew)); exact HO_184004.out) hb)
     have n2_ := A_.mk (Kd.V_below (by (with_reducible repeat (first | apply Kd.V_alloc | apply Kd.V_drewN | apply Kd.V_drew)); exact HO_184005.out) hb)
     have n3_ := A_.mk (Kd.R_below (rY HO_193000.out) hb)
     have n4_ := A_.mk (Kd.R_below (rY HO_193001.out) hb)
     have n5_ := A_.mk (Kd.V_below (by (with_reducible repeat (first | apply Kd.V_alloc | apply Kd.V_drewN | apply Kd.V_drew)); exact HL203_7.out) hb)
     have n6_ := A_.mk (Kd.V_below (by (with_reducible repeat (first | apply Kd.V_alloc | apply Kd.V_drewN | apply Kd.V_drew)); exact HL208_7.out) hb)
     have n7_ := A_.mk (bb_ (bY BK183.out) hb)
     have n8_ := A_.mk (bb_ (bY BK192.out) hb)
     have n9_ := A_.mk (Kd.C_below (by repeat (first | (with_reducible exact HR208_7.out) | (with_reducible refine Kd.C_alloc ?_ _) | (with_reducible refine Kd.C_drewN ?_ _) | (with_reducible refine Kd.C_drew ?_) | exact HR208_7.out)) hb)
     have n10_ := A_.mk (bt_ (by repeat (first | (with_reducible first | exact HB.out | apply ba_ | apply bd_ | apply be_ | refine bs_ ?_ GE183.out | refine bs_ ?_ GE192.out) | exact HB.out)) hb)
     clear HO_4 HO_184004 HO_184005 HO_193000 HO_193001 HL203_7 HL208_7 BK183 BK192 HR208_7 HB
     have HO_4 := n0_
     have HO_184004 := n1_
     have HO_184005 := n2_
     have HO_193000 := n3_
     have HO_193001 := n4_
     have HL203_7 := n5_
     have HL208_7 := n6_
     have BK183 := n7_
     have BK192 := n8_
     have HR208_7 := n9_
     have HB := n10_
     clear n0_ n1_ n2_ n3_ n4_ n5_ n6_ n7_ n8_ n9_ n10_
     have p41 : 0 ≤ (t204 : Int) := od_
     have q41 : (t204 : Int) < ((x193001_2.length : Int) : Int) := od_
     obtain ⟨go41, co41, eo41, gb41, gl41, cl41, HG41⟩ := Kd.R_form HO_193001.out (by omega)
     (first | cases eo41 | (injection eo41 with ea_ en_ ec_; (first | subst ea_ | (injection ea_ with ea_; subst ea_)); subst ec_; clear en_))
     have GB41 := A_.mk gb41
     have GG41 := A_.mk HG41
     clear gb41 gl41 HG41
     (first | simp only [add_plain] at hx207_0 | skip)
     obtain ⟨hx41_0, hf41_0⟩ := Kd.R_celln 0 HO_193001.out (t204 : Int) p41 q41
     replace p41 := eq_true p41
     replace q41 := eq_true q41
     have HP51 := Kd.R_putn HO_193001.out (t204 : Int) (wrap64 ((rd x193001_2 t204) + t209))
     rw [← Ny210.out] at HP51
     have HQ51 := A_.mk HP51
     clear HP51
     refine hK.out _ _ ⟨(bc_ BK192.out 0).trans rfl, (bc_ BK192.out 1).trans rfl, HS2_, HS3_, HS4_, HS5_, HS6_, HS7_, HS8_, HS9_, HS10_⟩ (fun hHeld => ?_)
     clear hK K
     refine nm_ ?_
     refine pr_ (i := 13) (N := some 63) #[T, T, T, T, T, T, T, T, T, T, T, T, T, T, F, F] rfl HT_.out ?_
     refine pr_ (i := 14) (N := some 64) #[T, T, T, T, T, T, T, T, T, T, T, T, T, T, T, F] rfl HT_.out ?_
     refine last_ (i := 15) (N := none) #[T, T, T, T, T, T, T, T, T, T, T, T, T, T, T, T] rfl rfl (one_of HT_.out (by kernel_rfl)) (by decide) (fun K hK => ?_)
     refine skip_ (w1 := ?_) (by rfl) rfl ?_ ?_
     rotate_left
     ·go_simp
      rfl
     refine hK.out _ _ ?_
     clear hK K
     refine done_ (done_of HT_.out (by kernel_rfl)) ?_
     try go_wp2
     go_roundg k2
     case measure => have := HJ1.out; have := HK2.out; omega
     case rel => exact ⟨(wrap64 (x5_2 + 1)), (y206), (y210), (.slice (some ⟨go38, 0, none⟩) x193000_2.length co45), (.slice (some ⟨go41, 0, none⟩) x193001_2.length co49), (by first | rfl | (simp; done) | (simp [*]; done)), H', ⟨by have := HJ1.out; have := HK2.out; omega⟩, ⟨by (with_reducible repeat (first | apply Kd.N_alloc | apply Kd.N_drewN | apply Kd.N_drew)); exact Kd.N_mono (Kd.N_far (p := ⟨go41, (t204 : Int).toNat, none⟩) (Kd.N_mono HO_4.out (fun k_ hk => (⟨hk, fun e_ => hk.2.2.1 (by rw [e_]; rfl)⟩ : _ ∧ k_ ≠ go41))) (fun _ hk => hk.2) (.int .i64 (wrap64 ((rd x193001_2 t204) + t209)))) (fun _ hk => ⟨hk.1.1, ⟨hk.1.2.1, ⟨hk.1.2.2.1, ⟨hk.1.2.2.2.1, hk.1.2.2.2.2⟩⟩⟩⟩)⟩, ⟨by (with_reducible repeat (first | apply Kd.V_alloc | apply Kd.V_drewN | apply Kd.V_drew)); exact Kd.V_mono (Kd.V_far (p := ⟨go41, (t204 : Int).toNat, none⟩) (Kd.V_mono HO_184004.out (fun k_ hk => (⟨hk, fun e_ => hk.2.2.2.1 (by rw [e_]; rfl)⟩ : _ ∧ k_ ≠ go41))) (fun _ hk => hk.2) (.int .i64 (wrap64 ((rd x193001_2 t204) + t209)))) (fun _ hk => ⟨hk.1.1, ⟨hk.1.2.1, ⟨hk.1.2.2.1, ⟨hk.1.2.2.2.1, ⟨hk.1.2.2.2.2.1, hk.1.2.2.2.2.2⟩⟩⟩⟩⟩)⟩, ⟨by (with_reducible repeat (first | apply Kd.V_alloc | apply Kd.V_drewN | apply Kd.V_drew)); exact Kd.V_mono (Kd.V_far (p := ⟨go41, (t204 : Int).toNat, none⟩) (Kd.V_mono HO_184005.out (fun k_ hk => (⟨hk, fun e_ => hk.2.2.2.1 (by rw [e_]; rfl)⟩ : _ ∧ k_ ≠ go41))) (fun _ hk => hk.2) (.int .i64 (wrap64 ((rd x193001_2 t204) + t209)))) (fun _ hk => ⟨hk.1.1, ⟨hk.1.2.1, ⟨hk.1.2.2.1, ⟨hk.1.2.2.2.1, ⟨hk.1.2.2.2.2.1, hk.1.2.2.2.2.2⟩⟩⟩⟩⟩)⟩, ⟨by (repeat apply rX); exact Kd.R_mono (Kd.R_far (p := ⟨go41, (t204 : Int).toNat, none⟩) (Kd.R_mono HO_193000.out (fun k_ hk => (⟨hk, fun e_ => hk.2 (by rw [e_]; rfl)⟩ : _ ∧ k_ ≠ go41))) (fun _ hk => hk.2) (.int .i64 (wrap64 ((rd x193001_2 t204) + t209)))) (fun _ hk => ⟨hk.1.1, hk.1.2⟩)⟩, ⟨by (repeat apply rX); exact HQ51.out⟩, ⟨by (repeat apply bX); refine blk_far ?_ (by have h_ := Kd.R_ne HO_193001.out BK183.out (by decide); intro e_; exact h_ (by rw [e_]; rfl)) _; (repeat apply bX); exact BK183.out⟩, ⟨by (repeat apply bX); refine blk_far ?_ (by have h_ := Kd.R_ne HO_193001.out BK192.out (by decide); intro e_; exact h_ (by rw [e_]; rfl)) _; (repeat apply bX); exact BK192.out⟩, ⟨by repeat (first | (with_reducible first | exact HB.out | apply ba_ | apply bd_ | apply be_ | refine bs_ ?_ GB41.out | refine bs_ ?_ GE183.out | refine bs_ ?_ GE192.out) | exact HB.out)⟩⟩
end Go.Proofs.Ytlombfmebinjbaa.PFnExactTellCredits
