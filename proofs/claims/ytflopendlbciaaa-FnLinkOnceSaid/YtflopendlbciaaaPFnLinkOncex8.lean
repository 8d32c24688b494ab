-- Written by a program of this session (wip/xp): not trusted, Lean checks it.
import Derived.Test.YtflopendlbciaaaPFnLinkOncex0
import Derived.Test.YtflopendlbciaaaPFnLinkOncex1
import Derived.Test.YtflopendlbciaaaPFnLinkOncex2
import Derived.Test.YtflopendlbciaaaPFnLinkOncex6
import Derived.Test.YtflopendlbciaaaPFnLinkOncex7
namespace Go.Proofs.Ytflopendlbciaaa.PFnLinkOnce
open Go.RowKit Go.Proofs.YtflopendlbciaaaW.PrintWords Go.Proofs.YtflopendlbciaaaW.PrintLast Go.Proofs.YtflopendlbciaaaW.PrintMore
attribute [local go_sem] max2_int min2_int max_two min_two max_three min_three max_four min_four   -- for this text's walks alone
set_option linter.unusedVariables false
set_option linter.unusedSimpArgs false

/-! ### impl_TakeFrame: function 39 -/
def impl_TakeFrame.f (k : Nat) (a0_0 : Int) (l0_1 : List (List Int)) (l1 : List Int) : Option (Int × (List (List Int)) × Int) := (impl_copyReceiver.f k a0_0 l0_1).bind fun bt303 => ((impl_Judge.f k a0_0 l0_1 l1).bind fun t307 => (if t307 = 0 then (if (l0_1.length : Int) = 1000 then (some (bt303.1, bt303.2, 2)) else ((impl_TakeWire.f k l1).bind fun bt309 => ((slices_Clone_int_int.f bt309.2.1).bind fun t315 => (if bt303.2.length < 5864062014805 then ((impl_NextSeq.f a0_0).bind fun t321 => (some (t321, (bt303.2 ++ [t315]), 0))) else (none))))) else (some (bt303.1, bt303.2, t307))))
def impl_TakeFrame.T1 : Bool × List (List Nat × List Nat) := (true, [([], []), ([0], [0]), ([], []), ([], []), ([2, 3, 1], [2, 3]), ([], []), ([5, 1, 4, 0, 1, 5], [1, 5]), ([4, 6, 0, 1, 2, 3, 4, 5, 6], [4])])
def impl_TakeFrame.B1 : List Nat := [0, 1, 0, 0, 15, 0, 63, 127]
theorem impl_TakeFrame.tab1 : rtab .any (opsOf Try.f39 1) = impl_TakeFrame.T1 := by kernel_rfl
theorem impl_TakeFrame.bits1 : waitsOk impl_TakeFrame.T1.2 impl_TakeFrame.B1 = true := by kernel_rfl
def impl_TakeFrame.T7 : Bool × List (List Nat × List Nat) := (true, [([], []), ([0], [0]), ([], []), ([2], [2]), ([3], [3]), ([4], [4]), ([1, 5, 4], [1, 5]), ([0, 1, 2, 3, 4, 5, 6], []), ([7, 6, 6, 0, 1, 2, 3, 4, 5, 6], [6, 7])])
def impl_TakeFrame.B7 : List Nat := [0, 1, 0, 4, 12, 28, 63, 127, 255]
theorem impl_TakeFrame.tab7 : rtab .any (opsOf Try.f39 7) = impl_TakeFrame.T7 := by kernel_rfl
theorem impl_TakeFrame.bits7 : waitsOk impl_TakeFrame.T7.2 impl_TakeFrame.B7 = true := by kernel_rfl
set_option maxHeartbeats 8000000 in
set_option maxRecDepth 100000 in
theorem impl_TakeFrame.calls (k : Nat) (a0_0 : Int) (A0_1 : Option Addr) (c0_1 : Nat) (l0_1 : List (List Int)) (A1 : Option Addr) (c1 : Nat) (l1 : List Int) (r1 : Int) (r2 : List (List Int)) (r3 : Int) (w : World) (hr0_1 : Kd.C (Kd.slice 3 (Kd.int .i64)) w A0_1 l0_1.length l0_1) (hc0_1 : l0_1.length ≤ c0_1) (hr1 : Kd.C (Kd.int .i64) w A1 l1.length l1) (hc1 : l1.length ≤ c1) (h : impl_TakeFrame.f k a0_0 l0_1 l1 = some (r1, r2, r3)) :
  Calls Try.prog 39 #[.agg #[.int .i64 a0_0, .slice A0_1 l0_1.length c0_1], .slice A1 l1.length c1] w fun e w' => ∃ v1_ : Value, e = .returned (.tuple #[.agg #[.int .i64 r1, v1_], .int .i64 r3]) ∧ Kd.S (Kd.slice 3 (Kd.int .i64)) 32 w' w.heap.size (fun _ => True) v1_ r2 ∧ Below w.heap.size w w' := by
 have hu31 := Try.underlying31
 have hu68 := Try.underlying68
 have HR0_1 := A_.mk hr0_1
 have HC0_1 := A_.mk hc0_1
 clear hr0_1 hc0_1
 have HR1 := A_.mk hr1
 have HC1 := A_.mk hc1
 clear hr1 hc1
 have HB := A_.mk (Below.refl w.heap.size w)
 have H : ((impl_copyReceiver.f k a0_0 l0_1).bind fun bt303 => ((impl_Judge.f k a0_0 l0_1 l1).bind fun t307 => (if t307 = 0 then (if (l0_1.length : Int) = 1000 then (some (bt303.1, bt303.2, 2)) else ((impl_TakeWire.f k l1).bind fun bt309 => ((slices_Clone_int_int.f bt309.2.1).bind fun t315 => (if bt303.2.length < 5864062014805 then ((impl_NextSeq.f a0_0).bind fun t321 => (some (t321, (bt303.2 ++ [t315]), 0))) else (none))))) else (some (bt303.1, bt303.2, t307))))) = some (r1, r2, r3) := h
 clear h
 replace H := ob_ H
 obtain ⟨⟨t303, t304⟩, A30, H⟩ := H
 replace H : ((impl_Judge.f k a0_0 l0_1 l1).bind fun t307 => (if t307 = 0 then (if (l0_1.length : Int) = 1000 then (some (t303, t304, 2)) else ((impl_TakeWire.f k l1).bind fun bt309 => ((slices_Clone_int_int.f bt309.2.1).bind fun t315 => (if t304.length < 5864062014805 then ((impl_NextSeq.f a0_0).bind fun t321 => (some (t321, (t304 ++ [t315]), 0))) else (none))))) else (some (t303, t304, t307)))) = some (r1, r2, r3) := H
 have A3 := A_.mk A30
 clear A30
 replace H := ob_ H
 obtain ⟨t307, A40, H⟩ := H
 have A4 := A_.mk A40
 clear A40
 by_cases c5 : t307 = 0
 rotate_left
 ·rw [if_neg c5] at H
  have c5b0 : (t307 == 0) = false := beq_eq_false_iff_ne.mpr c5
  have c5b1 : (t307 != 0) = true := bne_iff_ne.mpr c5
  simp only [Option.some.injEq, Prod.mk.injEq] at H
  obtain ⟨rfl, rfl, rfl⟩ := H
  go_enter Try.func39, Try.ntmps39
  try go_wp2_with (first | ((with_reducible refine gd_ (N := 2) rfl ?_); refine by_ 2 (cs := #[.int .i64 a0_0, .slice A0_1 l0_1.length c0_1]) (t := 31) ?_; intro gb301 hg w58 hbox hb; have n0_ := A_.mk (bt_ (beY HB.out) hb); have n1_ := A_.mk (hbox); have n2_ := A_.mk ((by rw [hg]; exact (bz_ (beY HB.out)) : w.heap.size ≤ gb301)); have n3_ := A_.mk ((by rw [hg]; exact (bz_ (beY HB.out)) : w.heap.size ≤ gb301)); clear HB; have HB := n0_; have BK301 := n1_; have GW301 := n2_; have GE301 := n3_; clear n0_ n1_ n2_ n3_ hb hbox hg) | ((with_reducible refine gd_ (N := 4) rfl ?_); refine by_ 4 (cs := #[.int .i64 0, .slice none 0 0]) (t := 31) ?_; intro gb302 hg w59 hbox hb; have n0_ := A_.mk (bb_ (bY BK301.out) hb); have n1_ := A_.mk (bt_ (by repeat (first | (with_reducible first | exact HB.out | apply ba_ | apply bd_ | apply be_ | refine bs_ ?_ GE301.out) | exact HB.out)) hb); have n2_ := A_.mk (hbox); have n3_ := A_.mk ((by rw [hg]; exact (bz_ (by repeat (first | (with_reducible first | exact HB.out | apply ba_ | apply bd_ | apply be_ | refine bs_ ?_ GE301.out) | exact HB.out))) : w.heap.size ≤ gb302)); have n4_ := A_.mk ((by rw [hg]; exact (bz_ (by repeat (first | (with_reducible first | exact HB.out | apply ba_ | apply bd_ | apply be_ | refine bs_ ?_ GE301.out) | exact HB.out))) : w.heap.size ≤ gb302)); have n5_ := A_.mk ((by rw [hg]; exact Nat.ne_of_lt (blk_lt (bY BK301.out)) : gb301 ≠ gb302)); have n6_ := A_.mk ((by rw [hg]; exact Nat.ne_of_gt (blk_lt (bY BK301.out)) : gb302 ≠ gb301)); clear BK301 HB; have BK301 := n0_; have HB := n1_; have BK302 := n2_; have GW302 := n3_; have GE302 := n4_; have NB301_302 := n5_; have NB302_301 := n6_; clear n0_ n1_ n2_ n3_ n4_ n5_ n6_ hb hbox hg))
  have n0_ := A_.mk (bw_ BK301.out)
  have n1_ := A_.mk (bw_ BK302.out)
  have n2_ := A_.mk (be_ HB.out)
  clear BK301 BK302 HB
  have BK301 := n0_
  have BK302 := n1_
  have HB := n2_
  clear n0_ n1_ n2_
  refine start_ (n := 8) (S := fun w' => w'.cell? ⟨gb301, 0, none⟩ = some (.int .i64 a0_0) ∧ w'.cell? ⟨gb301, 1, none⟩ = some (.slice A0_1 l0_1.length c0_1)) (ds := []) #[F, F, F, F, F, F, F, F] (by kernel_rfl) rfl rfl ⟨(bc_ BK301.out 0).trans rfl, (bc_ BK301.out 1).trans rfl⟩ (fun hHeld => ?_); refine with_tabW impl_TakeFrame.tab1 impl_TakeFrame.bits1 (fun HT_ HW_ => ?_)
  generalize w59.drew = w60 at BK301 BK302 HB hHeld ⊢
  refine pr_ (i := 3) (N := some 13) #[F, F, F, T, F, F, F, F] rfl HT_.out ?_
  refine tk_ (i := 0) (N := some 10) #[T, F, F, T, F, F, F, F] rfl HT_.out HW_.out hHeld ?_
  refine tk_ (i := 2) (N := some 12) #[T, F, T, T, F, F, F, F] rfl HT_.out HW_.out hHeld ?_
  refine join_ (σ := Value × Nat) 2 #[T, T, T, T, T, T, F, F] (fun s_ => [(11, .agg #[.int .i64 t303, s_.1]), (14, .int .i64 t307), (6, .pointer (some ⟨s_.2, 0, none⟩))]) (fun s_ w' => (w'.cell? ⟨gb301, 0, none⟩ = some (.int .i64 a0_0) ∧ w'.cell? ⟨gb301, 1, none⟩ = some (.slice A0_1 l0_1.length c0_1)) ∧ (Kd.S (Kd.slice 3 (Kd.int .i64)) 32 w' w.heap.size (fun _ => True) s_.1 t304) ∧ (w'.heap[gb301]? = some (.cells #[.int .i64 a0_0, .slice A0_1 l0_1.length c0_1] 31 (0, 0))) ∧ (w'.heap[gb302]? = some (.cells #[.int .i64 0, .slice none 0 0] 31 (0, 0))) ∧ (w'.heap[s_.2]? = some (.cells #[.int .i64 0, .slice none 0 0] 31 (0, 0))) ∧ (w.heap.size ≤ s_.2) ∧ (w.heap.size ≤ s_.2) ∧ (gb301 ≠ s_.2) ∧ (s_.2 ≠ gb301) ∧ (gb302 ≠ s_.2) ∧ (s_.2 ≠ gb302) ∧ (Below w.heap.size w w')) ?_ ?_
  rotate_left
  ·intro hCont
   refine two_ (i := 1) (j := 5) (Ni := some 11) (Nj := some 6) #[T, T, T, T, F, F, F, F] #[T, F, T, T, F, T, F, F] rfl rfl rfl rfl (two_of HT_.out (by kernel_rfl)) (by decide) (by decide) (fun K hK => ?_) (fun K hK => ?_)
   ·skip
    refine gz_ Try.func22 #[.agg #[.int .i64 a0_0, .slice A0_1 l0_1.length c0_1]] ?_
    with_reducible refine (impl_copyReceiver.calls k a0_0 _ _ l0_1 t303 t304 _ ?side1 ?side2 A3.out).mono ?_
    (case side1 => exact cY ((Kd.C_below HR0_1.out HB.out)))
    (case side2 => exact HC0_1.out)
    rintro e w61 ⟨v305, rfl, ho0, hb⟩
    refine ⟨_, rfl, ?_⟩
    have n0_ := A_.mk (Kd.S_lower ho0 (bz_ (by repeat (first | (with_reducible first | exact HB.out | apply ba_ | apply bd_ | apply be_ | refine bs_ ?_ GE301.out | refine bs_ ?_ GE302.out) | exact HB.out))))
    have n1_ := A_.mk (bb_ (bY BK301.out) hb)
    have n2_ := A_.mk (bb_ (bY BK302.out) hb)
    have n3_ := A_.mk (bt_ (by repeat (first | (with_reducible first | exact HB.out | apply ba_ | apply bd_ | apply be_ | refine bs_ ?_ GE301.out | refine bs_ ?_ GE302.out) | exact HB.out)) hb)
    clear BK301 BK302 HB
    have HO306 := n0_
    have BK301 := n1_
    have BK302 := n2_
    have HB := n3_
    clear n0_ n1_ n2_ n3_
    refine hK.out _ _ ⟨(bc_ BK301.out 0).trans rfl, (bc_ BK301.out 1).trans rfl⟩ (fun hHeld => ?_)
    clear hK K
    refine nm_ ?_
    refine two_ (i := 4) (j := 5) (Ni := some 14) (Nj := some 6) #[T, T, T, T, T, F, F, F] #[T, T, T, T, F, T, F, F] rfl rfl rfl rfl (two_of HT_.out (by kernel_rfl)) (by decide) (by decide) (fun K hK => ?_) (fun K hK => ?_)
    ·skip
     refine gz_ Try.func54 #[.agg #[.int .i64 a0_0, .slice A0_1 l0_1.length c0_1], .slice A1 l1.length c1] ?_
     with_reducible refine (impl_Judge.calls k a0_0 _ _ l0_1 _ _ l1 t307 _ ?side1 ?side2 ?side3 ?side4 A4.out).mono ?_
     (case side1 => exact cY ((Kd.C_below HR0_1.out HB.out)))
     (case side2 => exact HC0_1.out)
     (case side3 => exact cY ((Kd.C_below HR1.out HB.out)))
     (case side4 => exact HC1.out)
     rintro e w62 ⟨rfl, hb⟩
     refine ⟨_, rfl, ?_⟩
     have n0_ := A_.mk (Kd.S_below (by (with_reducible repeat (first | apply Kd.S_alloc | apply Kd.S_drewN | apply Kd.S_drew)); exact HO306.out) hb)
     have n1_ := A_.mk (bb_ (bY BK301.out) hb)
     have n2_ := A_.mk (bb_ (bY BK302.out) hb)
     have n3_ := A_.mk (bt_ (by repeat (first | (with_reducible first | exact HB.out | apply ba_ | apply bd_ | apply be_ | refine bs_ ?_ GE301.out | refine bs_ ?_ GE302.out) | exact HB.out)) hb)
     clear HO306 BK301 BK302 HB
     have HO306 := n0_
     have BK301 := n1_
     have BK302 := n2_
     have HB := n3_
     clear n0_ n1_ n2_ n3_
     refine hK.out _ _ ⟨(bc_ BK301.out 0).trans rfl, (bc_ BK301.out 1).trans rfl⟩ (fun hHeld => ?_)
     clear hK K
     refine nm_ ?_
     refine ot_ (i := 5) (N := some 6) #[T, T, T, T, T, T, F, F] rfl HT_.out (fun K hK => ?_)
     refine box_step ?hg (N := 6) ?hd (cs := #[.int .i64 0, .slice none 0 0]) (t := 31) ?hr ?_; (case hd => rfl); (case hg => rfl); (case hr => first | (go_simp; done) | (go_simp; rfl))
     intro gb308 hg w63 hbox hb
     have n0_ := A_.mk (Kd.S_below (by (with_reducible repeat (first | apply Kd.S_alloc | apply Kd.S_drewN | apply Kd.S_drew)); exact HO306.out) hb)
     have n1_ := A_.mk (bb_ (bY BK301.out) hb)
     have n2_ := A_.mk (bb_ (bY BK302.out) hb)
     have n3_ := A_.mk (bt_ (by repeat (first | (with_reducible first | exact HB.out | apply ba_ | apply bd_ | apply be_ | refine bs_ ?_ GE301.out | refine bs_ ?_ GE302.out) | exact HB.out)) hb)
     have n4_ := A_.mk (hbox)
     have n5_ := A_.mk ((by rw [hg]; exact (bz_ (by repeat (first | (with_reducible first | exact HB.out | apply ba_ | apply bd_ | apply be_ | refine bs_ ?_ GE301.out | refine bs_ ?_ GE302.out) | exact HB.out))) : w.heap.size ≤ gb308))
     have n6_ := A_.mk ((by rw [hg]; exact (bz_ (by repeat (first | (with_reducible first | exact HB.out | apply ba_ | apply bd_ | apply be_ | refine bs_ ?_ GE301.out | refine bs_ ?_ GE302.out) | exact HB.out))) : w.heap.size ≤ gb308))
     have n7_ := A_.mk ((by rw [hg]; exact Nat.ne_of_lt (blk_lt (bY BK301.out)) : gb301 ≠ gb308))
     have n8_ := A_.mk ((by rw [hg]; exact Nat.ne_of_gt (blk_lt (bY BK301.out)) : gb308 ≠ gb301))
     have n9_ := A_.mk ((by rw [hg]; exact Nat.ne_of_lt (blk_lt (bY BK302.out)) : gb302 ≠ gb308))
     have n10_ := A_.mk ((by rw [hg]; exact Nat.ne_of_gt (blk_lt (bY BK302.out)) : gb308 ≠ gb302))
     clear HO306 BK301 BK302 HB
     have HO306 := n0_
     have BK301 := n1_
     have BK302 := n2_
     have HB := n3_
     have BK308 := n4_
     have GW308 := n5_
     have GE308 := n6_
     have NB301_308 := n7_
     have NB308_301 := n8_
     have NB302_308 := n9_
     have NB308_302 := n10_
     clear n0_ n1_ n2_ n3_ n4_ n5_ n6_ n7_ n8_ n9_ n10_ hb hbox hg
     refine hK.out _ _ ⟨(bc_ BK301.out 0).trans rfl, (bc_ BK301.out 1).trans rfl⟩ (fun hHeld => ?_)
     clear hK K
     refine nm_ ?_
     exact norm_ (by simp only [putAll, Act.put, List.setIfInBounds_toArray, List.set_cons_zero, List.set_cons_succ]) (hCont (v305, gb308) _ ⟨hHeld, (by (with_reducible repeat (first | apply Kd.S_alloc | apply Kd.S_drewN | apply Kd.S_drew)); exact HO306.out), (bY BK301.out), (bY BK302.out), (bY BK308.out), GW308.out, GE308.out, NB301_308.out, NB308_301.out, NB302_308.out, NB308_302.out, (by repeat (first | (with_reducible first | exact HB.out | apply ba_ | apply bd_ | apply be_ | refine bs_ ?_ GE301.out | refine bs_ ?_ GE302.out | refine bs_ ?_ GE308.out) | exact HB.out))⟩)
    ·skip
     refine box_step ?hg (N := 6) ?hd (cs := #[.int .i64 0, .slice none 0 0]) (t := 31) ?hr ?_; (case hd => rfl); (case hg => rfl); (case hr => first | (go_simp; done) | (go_simp; rfl))
     intro gb308 hg w62 hbox hb
     have n0_ := A_.mk (Kd.S_below (by (with_reducible repeat (first | apply Kd.S_alloc | apply Kd.S_drewN | apply Kd.S_drew)); exact HO306.out) hb)
     have n1_ := A_.mk (bb_ (bY BK301.out) hb)
     have n2_ := A_.mk (bb_ (bY BK302.out) hb)
     have n3_ := A_.mk (bt_ (by repeat (first | (with_reducible first | exact HB.out | apply ba_ | apply bd_ | apply be_ | refine bs_ ?_ GE301.out | refine bs_ ?_ GE302.out) | exact HB.out)) hb)
     have n4_ := A_.mk (hbox)
     have n5_ := A_.mk ((by rw [hg]; exact (bz_ (by repeat (first | (with_reducible first | exact HB.out | apply ba_ | apply bd_ | apply be_ | refine bs_ ?_ GE301.out | refine bs_ ?_ GE302.out) | exact HB.out))) : w.heap.size ≤ gb308))
     have n6_ := A_.mk ((by rw [hg]; exact (bz_ (by repeat (first | (with_reducible first | exact HB.out | apply ba_ | apply bd_ | apply be_ | refine bs_ ?_ GE301.out | refine bs_ ?_ GE302.out) | exact HB.out))) : w.heap.size ≤ gb308))
     have n7_ := A_.mk ((by rw [hg]; exact Nat.ne_of_lt (blk_lt (bY BK301.out)) : gb301 ≠ gb308))
     have n8_ := A_.mk ((by rw [hg]; exact Nat.ne_of_gt (blk_lt (bY BK301.out)) : gb308 ≠ gb301))
     have n9_ := A_.mk ((by rw [hg]; exact Nat.ne_of_lt (blk_lt (bY BK302.out)) : gb302 ≠ gb308))
     have n10_ := A_.mk ((by rw [hg]; exact Nat.ne_of_gt (blk_lt (bY BK302.out)) : gb308 ≠ gb302))
     clear HO306 BK301 BK302 HB
     have HO306 := n0_
     have BK301 := n1_
     have BK302 := n2_
     have HB := n3_
     have BK308 := n4_
     have GW308 := n5_
     have GE308 := n6_
     have NB301_308 := n7_
     have NB308_301 := n8_
     have NB302_308 := n9_
     have NB308_302 := n10_
     clear n0_ n1_ n2_ n3_ n4_ n5_ n6_ n7_ n8_ n9_ n10_ hb hbox hg
     refine hK.out _ _ ⟨(bc_ BK301.out 0).trans rfl, (bc_ BK301.out 1).trans rfl⟩ (fun hHeld => ?_)
     clear hK K
     refine nm_ ?_
     refine ot_ (i := 4) (N := some 14) #[T, T, T, T, T, T, F, F] rfl HT_.out (fun K hK => ?_)
     refine gz_ Try.func54 #[.agg #[.int .i64 a0_0, .slice A0_1 l0_1.length c0_1], .slice A1 l1.length c1] ?_
     with_reducible refine (impl_Judge.calls k a0_0 _ _ l0_1 _ _ l1 t307 _ ?side1 ?side2 ?side3 ?side4 A4.out).mono ?_
     (case side1 => exact cY ((Kd.C_below HR0_1.out HB.out)))
     (case side2 => exact HC0_1.out)
     (case side3 => exact cY ((Kd.C_below HR1.out HB.out)))
     (case side4 => exact HC1.out)
     rintro e w63 ⟨rfl, hb⟩
     refine ⟨_, rfl, ?_⟩
     have n0_ := A_.mk (Kd.S_below (by (with_reducible repeat (first | apply Kd.S_alloc | apply Kd.S_drewN | apply Kd.S_drew)); exact HO306.out) hb)
     have n1_ := A_.mk (bb_ (bY BK301.out) hb)
     have n2_ := A_.mk (bb_ (bY BK302.out) hb)
     have n3_ := A_.mk (bb_ (bY BK308.out) hb)
     have n4_ := A_.mk (bt_ (by repeat (first | (with_reducible first | exact HB.out | apply ba_ | apply bd_ | apply be_ | refine bs_ ?_ GE301.out | refine bs_ ?_ GE302.out | refine bs_ ?_ GE308.out) | exact HB.out)) hb)
     clear HO306 BK301 BK302 BK308 HB
     have HO306 := n0_
     have BK301 := n1_
     have BK302 := n2_
     have BK308 := n3_
     have HB := n4_
     clear n0_ n1_ n2_ n3_ n4_
     refine hK.out _ _ ⟨(bc_ BK301.out 0).trans rfl, (bc_ BK301.out 1).trans rfl⟩ (fun hHeld => ?_)
     clear hK K
     refine nm_ ?_
     exact norm_ (by simp only [putAll, Act.put, List.setIfInBounds_toArray, List.set_cons_zero, List.set_cons_succ]) (hCont (v305, gb308) _ ⟨hHeld, (by (with_reducible repeat (first | apply Kd.S_alloc | apply Kd.S_drewN | apply Kd.S_drew)); exact HO306.out), (bY BK301.out), (bY BK302.out), (bY BK308.out), GW308.out, GE308.out, NB301_308.out, NB308_301.out, NB302_308.out, NB308_302.out, (by repeat (first | (with_reducible first | exact HB.out | apply ba_ | apply bd_ | apply be_ | refine bs_ ?_ GE301.out | refine bs_ ?_ GE302.out | refine bs_ ?_ GE308.out) | exact HB.out))⟩)
   ·skip
    refine box_step ?hg (N := 6) ?hd (cs := #[.int .i64 0, .slice none 0 0]) (t := 31) ?hr ?_; (case hd => rfl); (case hg => rfl); (case hr => first | (go_simp; done) | (go_simp; rfl))
    intro gb308 hg w61 hbox hb
    have n0_ := A_.mk (bb_ (bY BK301.out) hb)
    have n1_ := A_.mk (bb_ (bY BK302.out) hb)
    have n2_ := A_.mk (bt_ (by repeat (first | (with_reducible first | exact HB.out | apply ba_ | apply bd_ | apply be_ | refine bs_ ?_ GE301.out | refine bs_ ?_ GE302.out) | exact HB.out)) hb)
    have n3_ := A_.mk (hbox)
    have n4_ := A_.mk ((by rw [hg]; exact (bz_ (by repeat (first | (with_reducible first | exact HB.out | apply ba_ | apply bd_ | apply be_ | refine bs_ ?_ GE301.out | refine bs_ ?_ GE302.out) | exact HB.out))) : w.heap.size ≤ gb308))
    have n5_ := A_.mk ((by rw [hg]; exact (bz_ (by repeat (first | (with_reducible first | exact HB.out | apply ba_ | apply bd_ | apply be_ | refine bs_ ?_ GE301.out | refine bs_ ?_ GE302.out) | exact HB.out))) : w.heap.size ≤ gb308))
    have n6_ := A_.mk ((by rw [hg]; exact Nat.ne_of_lt (blk_lt (bY BK301.out)) : gb301 ≠ gb308))
    have n7_ := A_.mk ((by rw [hg]; exact Nat.ne_of_gt (blk_lt (bY BK301.out)) : gb308 ≠ gb301))
    have n8_ := A_.mk ((by rw [hg]; exact Nat.ne_of_lt (blk_lt (bY BK302.out)) : gb302 ≠ gb308))
    have n9_ := A_.mk ((by rw [hg]; exact Nat.ne_of_gt (blk_lt (bY BK302.out)) : gb308 ≠ gb302))
    clear BK301 BK302 HB
    have BK301 := n0_
    have BK302 := n1_
    have HB := n2_
    have BK308 := n3_
    have GW308 := n4_
    have GE308 := n5_
    have NB301_308 := n6_
    have NB308_301 := n7_
    have NB302_308 := n8_
    have NB308_302 := n9_
    clear n0_ n1_ n2_ n3_ n4_ n5_ n6_ n7_ n8_ n9_ hb hbox hg
    refine hK.out _ _ ⟨(bc_ BK301.out 0).trans rfl, (bc_ BK301.out 1).trans rfl⟩ (fun hHeld => ?_)
    clear hK K
    refine nm_ ?_
    refine ot_ (i := 1) (N := some 11) #[T, T, T, T, F, T, F, F] rfl HT_.out (fun K hK => ?_)
    refine gz_ Try.func22 #[.agg #[.int .i64 a0_0, .slice A0_1 l0_1.length c0_1]] ?_
    with_reducible refine (impl_copyReceiver.calls k a0_0 _ _ l0_1 t303 t304 _ ?side1 ?side2 A3.out).mono ?_
    (case side1 => exact cY ((Kd.C_below HR0_1.out HB.out)))
    (case side2 => exact HC0_1.out)
    rintro e w62 ⟨v305, rfl, ho0, hb⟩
    refine ⟨_, rfl, ?_⟩
    have n0_ := A_.mk (Kd.S_lower ho0 (bz_ (by repeat (first | (with_reducible first | exact HB.out | apply ba_ | apply bd_ | apply be_ | refine bs_ ?_ GE301.out | refine bs_ ?_ GE302.out | refine bs_ ?_ GE308.out) | exact HB.out))))
    have n1_ := A_.mk (bb_ (bY BK301.out) hb)
    have n2_ := A_.mk (bb_ (bY BK302.out) hb)
    have n3_ := A_.mk (bb_ (bY BK308.out) hb)
    have n4_ := A_.mk (bt_ (by repeat (first | (with_reducible first | exact HB.out | apply ba_ | apply bd_ | apply be_ | refine bs_ ?_ GE301.out | refine bs_ ?_ GE302.out | refine bs_ ?_ GE308.out) | exact HB.out)) hb)
    clear BK301 BK302 BK308 HB
    have HO306 := n0_
    have BK301 := n1_
    have BK302 := n2_
    have BK308 := n3_
    have HB := n4_
    clear n0_ n1_ n2_ n3_ n4_
    refine hK.out _ _ ⟨(bc_ BK301.out 0).trans rfl, (bc_ BK301.out 1).trans rfl⟩ (fun hHeld => ?_)
    clear hK K
    refine nm_ ?_
    refine ot_ (i := 4) (N := some 14) #[T, T, T, T, T, T, F, F] rfl HT_.out (fun K hK => ?_)
    refine gz_ Try.func54 #[.agg #[.int .i64 a0_0, .slice A0_1 l0_1.length c0_1], .slice A1 l1.length c1] ?_
    with_reducible refine (impl_Judge.calls k a0_0 _ _ l0_1 _ _ l1 t307 _ ?side1 ?side2 ?side3 ?side4 A4.out).mono ?_
    (case side1 => exact cY ((Kd.C_below HR0_1.out HB.out)))
    (case side2 => exact HC0_1.out)
    (case side3 => exact cY ((Kd.C_below HR1.out HB.out)))
    (case side4 => exact HC1.out)
    rintro e w63 ⟨rfl, hb⟩
    refine ⟨_, rfl, ?_⟩
    have n0_ := A_.mk (Kd.S_below (by (with_reducible repeat (first | apply Kd.S_alloc | apply Kd.S_drewN | apply Kd.S_drew)); exact HO306.out) hb)
    have n1_ := A_.mk (bb_ (bY BK301.out) hb)
    have n2_ := A_.mk (bb_ (bY BK302.out) hb)
    have n3_ := A_.mk (bb_ (bY BK308.out) hb)
    have n4_ := A_.mk (bt_ (by repeat (first | (with_reducible first | exact HB.out | apply ba_ | apply bd_ | apply be_ | refine bs_ ?_ GE301.out | refine bs_ ?_ GE302.out | refine bs_ ?_ GE308.out) | exact HB.out)) hb)
    clear HO306 BK301 BK302 BK308 HB
    have HO306 := n0_
    have BK301 := n1_
    have BK302 := n2_
    have BK308 := n3_
    have HB := n4_
    clear n0_ n1_ n2_ n3_ n4_
    refine hK.out _ _ ⟨(bc_ BK301.out 0).trans rfl, (bc_ BK301.out 1).trans rfl⟩ (fun hHeld => ?_)
    clear hK K
    refine nm_ ?_
    exact norm_ (by simp only [putAll, Act.put, List.setIfInBounds_toArray, List.set_cons_zero, List.set_cons_succ]) (hCont (v305, gb308) _ ⟨hHeld, (by (with_reducible repeat (first | apply Kd.S_alloc | apply Kd.S_drewN | apply Kd.S_drew)); exact HO306.out), (bY BK301.out), (bY BK302.out), (bY BK308.out), GW308.out, GE308.out, NB301_308.out, NB308_301.out, NB302_308.out, NB308_302.out, (by repeat (first | (with_reducible first | exact HB.out | apply ba_ | apply bd_ | apply be_ | refine bs_ ?_ GE301.out | refine bs_ ?_ GE302.out | refine bs_ ?_ GE308.out) | exact HB.out))⟩)
  rintro ⟨v305, gb308⟩ w64 ⟨hS_, h0_, h1_, h2_, h3_, h4_, h5_, h6_, h7_, h8_, h9_, h10_⟩
  have n0_ : A_ (Kd.S (Kd.slice 3 (Kd.int .i64)) 32 w64 w.heap.size (fun _ => True) v305 t304) := ⟨h0_⟩
  have n1_ : A_ (w64.heap[gb301]? = some (.cells #[.int .i64 a0_0, .slice A0_1 l0_1.length c0_1] 31 (0, 0))) := ⟨h1_⟩
  have n2_ : A_ (w64.heap[gb302]? = some (.cells #[.int .i64 0, .slice none 0 0] 31 (0, 0))) := ⟨h2_⟩
  have n3_ : A_ (w64.heap[gb308]? = some (.cells #[.int .i64 0, .slice none 0 0] 31 (0, 0))) := ⟨h3_⟩
  have n4_ : A_ (w.heap.size ≤ gb308) := ⟨h4_⟩
  have n5_ : A_ (w.heap.size ≤ gb308) := ⟨h5_⟩
  have n6_ : A_ (gb301 ≠ gb308) := ⟨h6_⟩
  have n7_ : A_ (gb308 ≠ gb301) := ⟨h7_⟩
  have n8_ : A_ (gb302 ≠ gb308) := ⟨h8_⟩
  have n9_ : A_ (gb308 ≠ gb302) := ⟨h9_⟩
  have n10_ : A_ (Below w.heap.size w w64) := ⟨h10_⟩
  clear BK301 BK302 HB h0_ h1_ h2_ h3_ h4_ h5_ h6_ h7_ h8_ h9_ h10_
  have HO306 := n0_
  have BK301 := n1_
  have BK302 := n2_
  have BK308 := n3_
  have GW308 := n4_
  have GE308 := n5_
  have NB301_308 := n6_
  have NB308_301 := n7_
  have NB302_308 := n8_
  have NB308_302 := n9_
  have HB := n10_
  clear n0_ n1_ n2_ n3_ n4_ n5_ n6_ n7_ n8_ n9_ n10_
  have hHeld : w64.cell? ⟨gb301, 0, none⟩ = some (.int .i64 a0_0) ∧ w64.cell? ⟨gb301, 1, none⟩ = some (.slice A0_1 l0_1.length c0_1) := hS_
  obtain ⟨Ao66, co66, eo66⟩ := Kd.S_slice HO306.out
  (first | subst eo66 | (injection eo66 with f1_ f2_ f3_; have f4_ := f1_.symm; have f5_ := f3_.symm; clear f1_ f2_ f3_; subst f4_; subst f5_))
  refine norm_ (a' := ?_) ?_ ?_
  rotate_left
  ·simp only [putAll, Act.put, List.setIfInBounds_toArray, List.set_cons_zero, List.set_cons_succ]
   rfl
  refine ot_ (i := 6) (N := none) #[T, T, T, T, T, T, T, F] rfl HT_.out (fun K hK => ?_)
  have hs65 : w64.cell? ⟨gb308, 0, none⟩ = some (.int .i64 0) := (bc_ BK308.out 0).trans rfl
  have hfs65 := bf_ BK308.out 0
  have hns65_0 := NB301_308.out
  have hns65_1 := NB302_308.out
  have hms65_0 := NB308_301.out
  have hms65_1 := NB308_302.out
  have hs67 : w64.cell? ⟨gb308, 1, none⟩ = some (.slice none 0 0) := (bc_ BK308.out 1).trans rfl
  have hfs67 := bf_ BK308.out 1
  have hns67_0 := NB301_308.out
  have hns67_1 := NB302_308.out
  have hms67_0 := NB308_301.out
  have hms67_1 := NB308_302.out
  refine skip_ (w1 := ?_) (by rfl) rfl ?_ ?_
  rotate_left
  ·go_simp
   rfl
  refine hK.out _ _ ⟨((cell_far (p := ⟨gb308, _, none⟩) NB301_308.out _).trans (((cell_far (p := ⟨gb308, _, none⟩) NB301_308.out _).trans (hHeld.1)))), ((cell_far (p := ⟨gb308, _, none⟩) NB301_308.out _).trans (((cell_far (p := ⟨gb308, _, none⟩) NB301_308.out _).trans (hHeld.2))))⟩ (fun hHeld => ?_)
  clear hK K
  refine pr_ (i := 7) (N := some 7) #[T, T, T, T, T, T, T, T] rfl HT_.out ?_
  refine done_ (done_of HT_.out (by kernel_rfl)) ?_
  have hnb68 := NB308_301.out
  have hnc68 := NB301_308.out
  have hnb69 := NB308_302.out
  have hnc69 := NB302_308.out
  obtain ⟨hcz70_0, hcz70_1, hfz70_0, hfz70_1⟩ := b2 BK308.out
  have hnb71 := NB302_301.out
  have hnc71 := NB301_302.out
  obtain ⟨hcz72_0, hcz72_1, hfz72_0, hfz72_1⟩ := b2 BK302.out
  try go_wp2
  refine bodyPost_ret (results_ct rfl _ _ gb302 31 #[.int .i64 t303, .slice Ao66 t304.length co66] (0, 0) _ rfl (by (repeat apply bX); refine bp_ (cs := #[.int .i64 t303, .slice none 0 0]) ?_ 1 _ rfl; (repeat apply bX); refine bp_ (cs := #[.int .i64 0, .slice none 0 0]) ?_ 0 _ rfl; (repeat apply bX); refine blk_far ?_ NB302_308.out _; (repeat apply bX); refine blk_far ?_ NB302_308.out _; (repeat apply bX); exact BK302.out) Try.underlying31 rfl (by kernel_rfl)) rfl ?_
  exact ⟨_, by first | rfl | (simp [errW_none, errW_some] <;> rfl) | (simp [*, errW_none, errW_some] <;> rfl), by (with_reducible repeat (first | apply Kd.S_alloc | apply Kd.S_drewN | apply Kd.S_drew)); exact Kd.S_mono (Kd.S_far (p := ⟨gb302, 1, none⟩) (Kd.S_far (p := ⟨gb302, 0, none⟩) (Kd.S_far (p := ⟨gb308, 1, none⟩) (Kd.S_far (p := ⟨gb308, 0, none⟩) (Kd.S_types (Kd.S_types HO306.out BK308.out (by decide)) BK302.out (by decide)) (fun _ hk => hk.1.2) (.int .i64 t303)) (fun _ hk => hk.1.2) (.slice Ao66 t304.length co66)) (fun _ hk => hk.2) (.int .i64 t303)) (fun _ hk => hk.2) (.slice Ao66 t304.length co66)) (fun _ hk => trivial), by repeat (first | (with_reducible first | exact HB.out | apply ba_ | apply bd_ | apply be_ | refine bs_ ?_ GE301.out | refine bs_ ?_ GE302.out | refine bs_ ?_ GE308.out) | exact HB.out)⟩
 rw [if_pos c5] at H
 have c5b0 : (t307 == 0) = true := beq_iff_eq.mpr c5
 have c5b1 : (t307 != 0) = false := bne_eq_false_iff_eq.mpr c5
 clear c5
 by_cases c6 : (l0_1.length : Int) = 1000
 ·rw [if_pos c6] at H
  have c6b0 : ((l0_1.length : Int) == 1000) = true := beq_iff_eq.mpr c6
  have c6b1 : ((l0_1.length : Int) != 1000) = false := bne_eq_false_iff_eq.mpr c6
  clear c6
  simp only [Option.some.injEq, Prod.mk.injEq] at H
  obtain ⟨rfl, rfl, rfl⟩ := H
  go_enter Try.func39, Try.ntmps39
  try go_wp2_with (first | ((with_reducible refine gd_ (N := 2) rfl ?_); refine by_ 2 (cs := #[.int .i64 a0_0, .slice A0_1 l0_1.length c0_1]) (t := 31) ?_; intro gb301 hg w7 hbox hb; have n0_ := A_.mk (bt_ (beY HB.out) hb); have n1_ := A_.mk (hbox); have n2_ := A_.mk ((by rw [hg]; exact (bz_ (beY HB.out)) : w.heap.size ≤ gb301)); have n3_ := A_.mk ((by rw [hg]; exact (bz_ (beY HB.out)) : w.heap.size ≤ gb301)); clear HB; have HB := n0_; have BK301 := n1_; have GW301 := n2_; have GE301 := n3_; clear n0_ n1_ n2_ n3_ hb hbox hg) | ((with_reducible refine gd_ (N := 4) rfl ?_); refine by_ 4 (cs := #[.int .i64 0, .slice none 0 0]) (t := 31) ?_; intro gb302 hg w8 hbox hb; have n0_ := A_.mk (bb_ (bY BK301.out) hb); have n1_ := A_.mk (bt_ (by repeat (first | (with_reducible first | exact HB.out | apply ba_ | apply bd_ | apply be_ | refine bs_ ?_ GE301.out) | exact HB.out)) hb); have n2_ := A_.mk (hbox); have n3_ := A_.mk ((by rw [hg]; exact (bz_ (by repeat (first | (with_reducible first | exact HB.out | apply ba_ | apply bd_ | apply be_ | refine bs_ ?_ GE301.out) | exact HB.out))) : w.heap.size ≤ gb302)); have n4_ := A_.mk ((by rw [hg]; exact (bz_ (by repeat (first | (with_reducible first | exact HB.out | apply ba_ | apply bd_ | apply be_ | refine bs_ ?_ GE301.out) | exact HB.out))) : w.heap.size ≤ gb302)); have n5_ := A_.mk ((by rw [hg]; exact Nat.ne_of_lt (blk_lt (bY BK301.out)) : gb301 ≠ gb302)); have n6_ := A_.mk ((by rw [hg]; exact Nat.ne_of_gt (blk_lt (bY BK301.out)) : gb302 ≠ gb301)); clear BK301 HB; have BK301 := n0_; have HB := n1_; have BK302 := n2_; have GW302 := n3_; have GE302 := n4_; have NB301_302 := n5_; have NB302_301 := n6_; clear n0_ n1_ n2_ n3_ n4_ n5_ n6_ hb hbox hg))
  have n0_ := A_.mk (bw_ BK301.out)
  have n1_ := A_.mk (bw_ BK302.out)
  have n2_ := A_.mk (be_ HB.out)
  clear BK301 BK302 HB
  have BK301 := n0_
  have BK302 := n1_
  have HB := n2_
  clear n0_ n1_ n2_
  refine start_ (n := 8) (S := fun w' => w'.cell? ⟨gb301, 0, none⟩ = some (.int .i64 a0_0) ∧ w'.cell? ⟨gb301, 1, none⟩ = some (.slice A0_1 l0_1.length c0_1)) (ds := []) #[F, F, F, F, F, F, F, F] (by kernel_rfl) rfl rfl ⟨(bc_ BK301.out 0).trans rfl, (bc_ BK301.out 1).trans rfl⟩ (fun hHeld => ?_); refine with_tabW impl_TakeFrame.tab1 impl_TakeFrame.bits1 (fun HT_ HW_ => ?_)
  generalize w8.drew = w9 at BK301 BK302 HB hHeld ⊢
  refine pr_ (i := 3) (N := some 13) #[F, F, F, T, F, F, F, F] rfl HT_.out ?_
  refine tk_ (i := 0) (N := some 10) #[T, F, F, T, F, F, F, F] rfl HT_.out HW_.out hHeld ?_
  refine tk_ (i := 2) (N := some 12) #[T, F, T, T, F, F, F, F] rfl HT_.out HW_.out hHeld ?_
  refine join_ (σ := Value × Nat) 2 #[T, T, T, T, T, T, F, F] (fun s_ => [(11, .agg #[.int .i64 t303, s_.1]), (14, .int .i64 t307), (6, .pointer (some ⟨s_.2, 0, none⟩))]) (fun s_ w' => (w'.cell? ⟨gb301, 0, none⟩ = some (.int .i64 a0_0) ∧ w'.cell? ⟨gb301, 1, none⟩ = some (.slice A0_1 l0_1.length c0_1)) ∧ (Kd.S (Kd.slice 3 (Kd.int .i64)) 32 w' w.heap.size (fun _ => True) s_.1 t304) ∧ (w'.heap[gb301]? = some (.cells #[.int .i64 a0_0, .slice A0_1 l0_1.length c0_1] 31 (0, 0))) ∧ (w'.heap[gb302]? = some (.cells #[.int .i64 0, .slice none 0 0] 31 (0, 0))) ∧ (w'.heap[s_.2]? = some (.cells #[.int .i64 0, .slice none 0 0] 31 (0, 0))) ∧ (w.heap.size ≤ s_.2) ∧ (w.heap.size ≤ s_.2) ∧ (gb301 ≠ s_.2) ∧ (s_.2 ≠ gb301) ∧ (gb302 ≠ s_.2) ∧ (s_.2 ≠ gb302) ∧ (Below w.heap.size w w')) ?_ ?_
  rotate_left
  ·intro hCont
   refine two_ (i := 1) (j := 5) (Ni := some 11) (Nj := some 6) #[T, T, T, T, F, F, F, F] #[T, F, T, T, F, T, F, F] rfl rfl rfl rfl (two_of HT_.out (by kernel_rfl)) (by decide) (by decide) (fun K hK => ?_) (fun K hK => ?_)
   ·skip
    refine gz_ Try.func22 #[.agg #[.int .i64 a0_0, .slice A0_1 l0_1.length c0_1]] ?_
    with_reducible refine (impl_copyReceiver.calls k a0_0 _ _ l0_1 t303 t304 _ ?side1 ?side2 A3.out).mono ?_
    (case side1 => exact cY ((Kd.C_below HR0_1.out HB.out)))
    (case side2 => exact HC0_1.out)
    rintro e w10 ⟨v305, rfl, ho0, hb⟩
    refine ⟨_, rfl, ?_⟩
    have n0_ := A_.mk (Kd.S_lower ho0 (bz_ (by repeat (first | (with_reducible first | exact HB.out | apply ba_ | apply bd_ | apply be_ | refine bs_ ?_ GE301.out | refine bs_ ?_ GE302.out) | exact HB.out))))
    have n1_ := A_.mk (bb_ (bY BK301.out) hb)
    have n2_ := A_.mk (bb_ (bY BK302.out) hb)
    have n3_ := A_.mk (bt_ (by repeat (first | (with_reducible first | exact HB.out | apply ba_ | apply bd_ | apply be_ | refine bs_ ?_ GE301.out | refine bs_ ?_ GE302.out) | exact HB.out)) hb)
    clear BK301 BK302 HB
    have HO306 := n0_
    have BK301 := n1_
    have BK302 := n2_
    have HB := n3_
    clear n0_ n1_ n2_ n3_
    refine hK.out _ _ ⟨(bc_ BK301.out 0).trans rfl, (bc_ BK301.out 1).trans rfl⟩ (fun hHeld => ?_)
    clear hK K
    refine nm_ ?_
    refine two_ (i := 4) (j := 5) (Ni := some 14) (Nj := some 6) #[T, T, T, T, T, F, F, F] #[T, T, T, T, F, T, F, F] rfl rfl rfl rfl (two_of HT_.out (by kernel_rfl)) (by decide) (by decide) (fun K hK => ?_) (fun K hK => ?_)
    ·skip
     refine gz_ Try.func54 #[.agg #[.int .i64 a0_0, .slice A0_1 l0_1.length c0_1], .slice A1 l1.length c1] ?_
     with_reducible refine (impl_Judge.calls k a0_0 _ _ l0_1 _ _ l1 t307 _ ?side1 ?side2 ?side3 ?side4 A4.out).mono ?_
     (case side1 => exact cY ((Kd.C_below HR0_1.out HB.out)))
     (case side2 => exact HC0_1.out)
     (case side3 => exact cY ((Kd.C_below HR1.out HB.out)))
     (case side4 => exact HC1.out)
     rintro e w11 ⟨rfl, hb⟩
     refine ⟨_, rfl, ?_⟩
     have n0_ := A_.mk (Kd.S_below (by (with_reducible repeat (first | apply Kd.S_alloc | apply Kd.S_drewN | apply Kd.S_drew)); exact HO306.out) hb)
     have n1_ := A_.mk (bb_ (bY BK301.out) hb)
     have n2_ := A_.mk (bb_ (bY BK302.out) hb)
     have n3_ := A_.mk (bt_ (by repeat (first | (with_reducible first | exact HB.out | apply ba_ | apply bd_ | apply be_ | refine bs_ ?_ GE301.out | refine bs_ ?_ GE302.out) | exact HB.out)) hb)
     clear HO306 BK301 BK302 HB
     have HO306 := n0_
     have BK301 := n1_
     have BK302 := n2_
     have HB := n3_
     clear n0_ n1_ n2_ n3_
     refine hK.out _ _ ⟨(bc_ BK301.out 0).trans rfl, (bc_ BK301.out 1).trans rfl⟩ (fun hHeld => ?_)
     clear hK K
     refine nm_ ?_
     refine ot_ (i := 5) (N := some 6) #[T, T, T, T, T, T, F, F] rfl HT_.out (fun K hK => ?_)
     refine box_step ?hg (N := 6) ?hd (cs := #[.int .i64 0, .slice none 0 0]) (t := 31) ?hr ?_; (case hd => rfl); (case hg => rfl); (case hr => first | (go_simp; done) | (go_simp; rfl))
     intro gb308 hg w12 hbox hb
     have n0_ := A_.mk (Kd.S_below (by (with_reducible repeat (first | apply Kd.S_alloc | apply Kd.S_drewN | apply Kd.S_drew)); exact HO306.out) hb)
     have n1_ := A_.mk (bb_ (bY BK301.out) hb)
     have n2_ := A_.mk (bb_ (bY BK302.out) hb)
     have n3_ := A_.mk (bt_ (by repeat (first | (with_reducible first | exact HB.out | apply ba_ | apply bd_ | apply be_ | refine bs_ ?_ GE301.out | refine bs_ ?_ GE302.out) | exact HB.out)) hb)
     have n4_ := A_.mk (hbox)
     have n5_ := A_.mk ((by rw [hg]; exact (bz_ (by repeat (first | (with_reducible first | exact HB.out | apply ba_ | apply bd_ | apply be_ | refine bs_ ?_ GE301.out | refine bs_ ?_ GE302.out) | exact HB.out))) : w.heap.size ≤ gb308))
     have n6_ := A_.mk ((by rw [hg]; exact (bz_ (by repeat (first | (with_reducible first | exact HB.out | apply ba_ | apply bd_ | apply be_ | refine bs_ ?_ GE301.out | refine bs_ ?_ GE302.out) | exact HB.out))) : w.heap.size ≤ gb308))
     have n7_ := A_.mk ((by rw [hg]; exact Nat.ne_of_lt (blk_lt (bY BK301.out)) : gb301 ≠ gb308))
     have n8_ := A_.mk ((by rw [hg]; exact Nat.ne_of_gt (blk_lt (bY BK301.out)) : gb308 ≠ gb301))
     have n9_ := A_.mk ((by rw [hg]; exact Nat.ne_of_lt (blk_lt (bY BK302.out)) : gb302 ≠ gb308))
     have n10_ := A_.mk ((by rw [hg]; exact Nat.ne_of_gt (blk_lt (bY BK302.out)) : gb308 ≠ gb302))
     clear HO306 BK301 BK302 HB
     have HO306 := n0_
     have BK301 := n1_
     have BK302 := n2_
     have HB := n3_
     have BK308 := n4_
     have GW308 := n5_
     have GE308 := n6_
     have NB301_308 := n7_
     have NB308_301 := n8_
     have NB302_308 := n9_
     have NB308_302 := n10_
     clear n0_ n1_ n2_ n3_ n4_ n5_ n6_ n7_ n8_ n9_ n10_ hb hbox hg
     refine hK.out _ _ ⟨(bc_ BK301.out 0).trans rfl, (bc_ BK301.out 1).trans rfl⟩ (fun hHeld => ?_)
     clear hK K
     refine nm_ ?_
     exact norm_ (by simp only [putAll, Act.put, List.setIfInBounds_toArray, List.set_cons_zero, List.set_cons_succ]) (hCont (v305, gb308) _ ⟨hHeld, (by (with_reducible repeat (first | apply Kd.S_alloc | apply Kd.S_drewN | apply Kd.S_drew)); exact HO306.out), (bY BK301.out), (bY BK302.out), (bY BK308.out), GW308.out, GE308.out, NB301_308.out, NB308_301.out, NB302_308.out, NB308_302.out, (by repeat (first | (with_reducible first | exact HB.out | apply ba_ | apply bd_ | apply be_ | refine bs_ ?_ GE301.out | refine bs_ ?_ GE302.out | refine bs_ ?_ GE308.out) | exact HB.out))⟩)
    ·skip
     refine box_step ?hg (N := 6) ?hd (cs := #[.int .i64 0, .slice none 0 0]) (t := 31) ?hr ?_; (case hd => rfl); (case hg => rfl); (case hr => first | (go_simp; done) | (go_simp; rfl))
     intro gb308 hg w11 hbox hb
     have n0_ := A_.mk (Kd.S_below (by (with_reducible repeat (first | apply Kd.S_alloc | apply Kd.S_drewN | apply Kd.S_drew)); exact HO306.out) hb)
     have n1_ := A_.mk (bb_ (bY BK301.out) hb)
     have n2_ := A_.mk (bb_ (bY BK302.out) hb)
     have n3_ := A_.mk (bt_ (by repeat (first | (with_reducible first | exact HB.out | apply ba_ | apply bd_ | apply be_ | refine bs_ ?_ GE301.out | refine bs_ ?_ GE302.out) | exact HB.out)) hb)
     have n4_ := A_.mk (hbox)
     have n5_ := A_.mk ((by rw [hg]; exact (bz_ (by repeat (first | (with_reducible first | exact HB.out | apply ba_ | apply bd_ | apply be_ | refine bs_ ?_ GE301.out | refine bs_ ?_ GE302.out) | exact HB.out))) : w.heap.size ≤ gb308))
     have n6_ := A_.mk ((by rw [hg]; exact (bz_ (by repeat (first | (with_reducible first | exact HB.out | apply ba_ | apply bd_ | apply be_ | refine bs_ ?_ GE301.out | refine bs_ ?_ GE302.out) | exact HB.out))) : w.heap.size ≤ gb308))
     have n7_ := A_.mk ((by rw [hg]; exact Nat.ne_of_lt (blk_lt (bY BK301.out)) : gb301 ≠ gb308))
     have n8_ := A_.mk ((by rw [hg]; exact Nat.ne_of_gt (blk_lt (bY BK301.out)) : gb308 ≠ gb301))
     have n9_ := A_.mk ((by rw [hg]; exact Nat.ne_of_lt (blk_lt (bY BK302.out)) : gb302 ≠ gb308))
     have n10_ := A_.mk ((by rw [hg]; exact Nat.ne_of_gt (blk_lt (bY BK302.out)) : gb308 ≠ gb302))
     clear HO306 BK301 BK302 HB
     have HO306 := n0_
     have BK301 := n1_
     have BK302 := n2_
     have HB := n3_
     have BK308 := n4_
     have GW308 := n5_
     have GE308 := n6_
     have NB301_308 := n7_
     have NB308_301 := n8_
     have NB302_308 := n9_
     have NB308_302 := n10_
     clear n0_ n1_ n2_ n3_ n4_ n5_ n6_ n7_ n8_ n9_ n10_ hb hbox hg
     refine hK.out _ _ ⟨(bc_ BK301.out 0).trans rfl, (bc_ BK301.out 1).trans rfl⟩ (fun hHeld => ?_)
     clear hK K
     refine nm_ ?_
     refine ot_ (i := 4) (N := some 14) #[T, T, T, T, T, T, F, F] rfl HT_.out (fun K hK => ?_)
     refine gz_ Try.func54 #[.agg #[.int .i64 a0_0, .slice A0_1 l0_1.length c0_1], .slice A1 l1.length c1] ?_
     with_reducible refine (impl_Judge.calls k a0_0 _ _ l0_1 _ _ l1 t307 _ ?side1 ?side2 ?side3 ?side4 A4.out).mono ?_
     (case side1 => exact cY ((Kd.C_below HR0_1.out HB.out)))
     (case side2 => exact HC0_1.out)
     (case side3 => exact cY ((Kd.C_below HR1.out HB.out)))
     (case side4 => exact HC1.out)
     rintro e w12 ⟨rfl, hb⟩
     refine ⟨_, rfl, ?_⟩
     have n0_ := A_.mk (Kd.S_below (by (with_reducible repeat (first | apply Kd.S_alloc | apply Kd.S_drewN | apply Kd.S_drew)); exact HO306.out) hb)
     have n1_ := A_.mk (bb_ (bY BK301.out) hb)
     have n2_ := A_.mk (bb_ (bY BK302.out) hb)
     have n3_ := A_.mk (bb_ (bY BK308.out) hb)
     have n4_ := A_.mk (bt_ (by repeat (first | (with_reducible first | exact HB.out | apply ba_ | apply bd_ | apply be_ | refine bs_ ?_ GE301.out | refine bs_ ?_ GE302.out | refine bs_ ?_ GE308.out) | exact HB.out)) hb)
     clear HO306 BK301 BK302 BK308 HB
     have HO306 := n0_
     have BK301 := n1_
     have BK302 := n2_
     have BK308 := n3_
     have HB := n4_
     clear n0_ n1_ n2_ n3_ n4_
     refine hK.out _ _ ⟨(bc_ BK301.out 0).trans rfl, (bc_ BK301.out 1).trans rfl⟩ (fun hHeld => ?_)
     clear hK K
     refine nm_ ?_
     exact norm_ (by simp only [putAll, Act.put, List.setIfInBounds_toArray, List.set_cons_zero, List.set_cons_succ]) (hCont (v305, gb308) _ ⟨hHeld, (by (with_reducible repeat (first | apply Kd.S_alloc | apply Kd.S_drewN | apply Kd.S_drew)); exact HO306.out), (bY BK301.out), (bY BK302.out), (bY BK308.out), GW308.out, GE308.out, NB301_308.out, NB308_301.out, NB302_308.out, NB308_302.out, (by repeat (first | (with_reducible first | exact HB.out | apply ba_ | apply bd_ | apply be_ | refine bs_ ?_ GE301.out | refine bs_ ?_ GE302.out | refine bs_ ?_ GE308.out) | exact HB.out))⟩)
   ·skip
    refine box_step ?hg (N := 6) ?hd (cs := #[.int .i64 0, .slice none 0 0]) (t := 31) ?hr ?_; (case hd => rfl); (case hg => rfl); (case hr => first | (go_simp; done) | (go_simp; rfl))
    intro gb308 hg w10 hbox hb
    have n0_ := A_.mk (bb_ (bY BK301.out) hb)
    have n1_ := A_.mk (bb_ (bY BK302.out) hb)
    have n2_ := A_.mk (bt_ (by repeat (first | (with_reducible first | exact HB.out | apply ba_ | apply bd_ | apply be_ | refine bs_ ?_ GE301.out | refine bs_ ?_ GE302.out) | exact HB.out)) hb)
    have n3_ := A_.mk (hbox)
    have n4_ := A_.mk ((by rw [hg]; exact (bz_ (by repeat (first | (with_reducible first | exact HB.out | apply ba_ | apply bd_ | apply be_ | refine bs_ ?_ GE301.out | refine bs_ ?_ GE302.out) | exact HB.out))) : w.heap.size ≤ gb308))
    have n5_ := A_.mk ((by rw [hg]; exact (bz_ (by repeat (first | (with_reducible first | exact HB.out | apply ba_ | apply bd_ | apply be_ | refine bs_ ?_ GE301.out | refine bs_ ?_ GE302.out) | exact HB.out))) : w.heap.size ≤ gb308))
    have n6_ := A_.mk ((by rw [hg]; exact Nat.ne_of_lt (blk_lt (bY BK301.out)) : gb301 ≠ gb308))
    have n7_ := A_.mk ((by rw [hg]; exact Nat.ne_of_gt (blk_lt (bY BK301.out)) : gb308 ≠ gb301))
    have n8_ := A_.mk ((by rw [hg]; exact Nat.ne_of_lt (blk_lt (bY BK302.out)) : gb302 ≠ gb308))
    have n9_ := A_.mk ((by rw [hg]; exact Nat.ne_of_gt (blk_lt (bY BK302.out)) : gb308 ≠ gb302))
    clear BK301 BK302 HB
    have BK301 := n0_
    have BK302 := n1_
    have HB := n2_
    have BK308 := n3_
    have GW308 := n4_
    have GE308 := n5_
    have NB301_308 := n6_
    have NB308_301 := n7_
    have NB302_308 := n8_
    have NB308_302 := n9_
    clear n0_ n1_ n2_ n3_ n4_ n5_ n6_ n7_ n8_ n9_ hb hbox hg
    refine hK.out _ _ ⟨(bc_ BK301.out 0).trans rfl, (bc_ BK301.out 1).trans rfl⟩ (fun hHeld => ?_)
    clear hK K
    refine nm_ ?_
    refine ot_ (i := 1) (N := some 11) #[T, T, T, T, F, T, F, F] rfl HT_.out (fun K hK => ?_)
    refine gz_ Try.func22 #[.agg #[.int .i64 a0_0, .slice A0_1 l0_1.length c0_1]] ?_
    with_reducible refine (impl_copyReceiver.calls k a0_0 _ _ l0_1 t303 t304 _ ?side1 ?side2 A3.out).mono ?_
    (case side1 => exact cY ((Kd.C_below HR0_1.out HB.out)))
    (case side2 => exact HC0_1.out)
    rintro e w11 ⟨v305, rfl, ho0, hb⟩
    refine ⟨_, rfl, ?_⟩
    have n0_ := A_.mk (Kd.S_lower ho0 (bz_ (by repeat (first | (with_reducible first | exact HB.out | apply ba_ | apply bd_ | apply be_ | refine bs_ ?_ GE301.out | refine bs_ ?_ GE302.out | refine bs_ ?_ GE308.out) | exact HB.out))))
    have n1_ := A_.mk (bb_ (bY BK301.out) hb)
    have n2_ := A_.mk (bb_ (bY BK302.out) hb)
    have n3_ := A_.mk (bb_ (bY BK308.out) hb)
    have n4_ := A_.mk (bt_ (by repeat (first | (with_reducible first | exact HB.out | apply ba_ | apply bd_ | apply be_ | refine bs_ ?_ GE301.out | refine bs_ ?_ GE302.out | refine bs_ ?_ GE308.out) | exact HB.out)) hb)
    clear BK301 BK302 BK308 HB
    have HO306 := n0_
    have BK301 := n1_
    have BK302 := n2_
    have BK308 := n3_
    have HB := n4_
    clear n0_ n1_ n2_ n3_ n4_
    refine hK.out _ _ ⟨(bc_ BK301.out 0).trans rfl, (bc_ BK301.out 1).trans rfl⟩ (fun hHeld => ?_)
    clear hK K
    refine nm_ ?_
    refine ot_ (i := 4) (N := some 14) #[T, T, T, T, T, T, F, F] rfl HT_.out (fun K hK => ?_)
    refine gz_ Try.func54 #[.agg #[.int .i64 a0_0, .slice A0_1 l0_1.length c0_1], .slice A1 l1.length c1] ?_
    with_reducible refine (impl_Judge.calls k a0_0 _ _ l0_1 _ _ l1 t307 _ ?side1 ?side2 ?side3 ?side4 A4.out).mono ?_
    (case side1 => exact cY ((Kd.C_below HR0_1.out HB.out)))
    (case side2 => exact HC0_1.out)
    (case side3 => exact cY ((Kd.C_below HR1.out HB.out)))
    (case side4 => exact HC1.out)
    rintro e w12 ⟨rfl, hb⟩
    refine ⟨_, rfl, ?_⟩
    have n0_ := A_.mk (Kd.S_below (by (with_reducible repeat (first | apply Kd.S_alloc | apply Kd.S_drewN | apply Kd.S_drew)); exact HO306.out) hb)
    have n1_ := A_.mk (bb_ (bY BK301.out) hb)
    have n2_ := A_.mk (bb_ (bY BK302.out) hb)
    have n3_ := A_.mk (bb_ (bY BK308.out) hb)
    have n4_ := A_.mk (bt_ (by repeat (first | (with_reducible first | exact HB.out | apply ba_ | apply bd_ | apply be_ | refine bs_ ?_ GE301.out | refine bs_ ?_ GE302.out | refine bs_ ?_ GE308.out) | exact HB.out)) hb)
    clear HO306 BK301 BK302 BK308 HB
    have HO306 := n0_
    have BK301 := n1_
    have BK302 := n2_
    have BK308 := n3_
    have HB := n4_
    clear n0_ n1_ n2_ n3_ n4_
    refine hK.out _ _ ⟨(bc_ BK301.out 0).trans rfl, (bc_ BK301.out 1).trans rfl⟩ (fun hHeld => ?_)
    clear hK K
    refine nm_ ?_
    exact norm_ (by simp only [putAll, Act.put, List.setIfInBounds_toArray, List.set_cons_zero, List.set_cons_succ]) (hCont (v305, gb308) _ ⟨hHeld, (by (with_reducible repeat (first | apply Kd.S_alloc | apply Kd.S_drewN | apply Kd.S_drew)); exact HO306.out), (bY BK301.out), (bY BK302.out), (bY BK308.out), GW308.out, GE308.out, NB301_308.out, NB308_301.out, NB302_308.out, NB308_302.out, (by repeat (first | (with_reducible first | exact HB.out | apply ba_ | apply bd_ | apply be_ | refine bs_ ?_ GE301.out | refine bs_ ?_ GE302.out | refine bs_ ?_ GE308.out) | exact HB.out))⟩)
  rintro ⟨v305, gb308⟩ w13 ⟨hS_, h0_, h1_, h2_, h3_, h4_, h5_, h6_, h7_, h8_, h9_, h10_⟩
  have n0_ : A_ (Kd.S (Kd.slice 3 (Kd.int .i64)) 32 w13 w.heap.size (fun _ => True) v305 t304) := ⟨h0_⟩
  have n1_ : A_ (w13.heap[gb301]? = some (.cells #[.int .i64 a0_0, .slice A0_1 l0_1.length c0_1] 31 (0, 0))) := ⟨h1_⟩
  have n2_ : A_ (w13.heap[gb302]? = some (.cells #[.int .i64 0, .slice none 0 0] 31 (0, 0))) := ⟨h2_⟩
  have n3_ : A_ (w13.heap[gb308]? = some (.cells #[.int .i64 0, .slice none 0 0] 31 (0, 0))) := ⟨h3_⟩
  have n4_ : A_ (w.heap.size ≤ gb308) := ⟨h4_⟩
  have n5_ : A_ (w.heap.size ≤ gb308) := ⟨h5_⟩
  have n6_ : A_ (gb301 ≠ gb308) := ⟨h6_⟩
  have n7_ : A_ (gb308 ≠ gb301) := ⟨h7_⟩
  have n8_ : A_ (gb302 ≠ gb308) := ⟨h8_⟩
  have n9_ : A_ (gb308 ≠ gb302) := ⟨h9_⟩
  have n10_ : A_ (Below w.heap.size w w13) := ⟨h10_⟩
  clear BK301 BK302 HB h0_ h1_ h2_ h3_ h4_ h5_ h6_ h7_ h8_ h9_ h10_
  have HO306 := n0_
  have BK301 := n1_
  have BK302 := n2_
  have BK308 := n3_
  have GW308 := n4_
  have GE308 := n5_
  have NB301_308 := n6_
  have NB308_301 := n7_
  have NB302_308 := n8_
  have NB308_302 := n9_
  have HB := n10_
  clear n0_ n1_ n2_ n3_ n4_ n5_ n6_ n7_ n8_ n9_ n10_
  have hHeld : w13.cell? ⟨gb301, 0, none⟩ = some (.int .i64 a0_0) ∧ w13.cell? ⟨gb301, 1, none⟩ = some (.slice A0_1 l0_1.length c0_1) := hS_
  obtain ⟨Ao15, co15, eo15⟩ := Kd.S_slice HO306.out
  (first | subst eo15 | (injection eo15 with f1_ f2_ f3_; have f4_ := f1_.symm; have f5_ := f3_.symm; clear f1_ f2_ f3_; subst f4_; subst f5_))
  refine norm_ (a' := ?_) ?_ ?_
  rotate_left
  ·simp only [putAll, Act.put, List.setIfInBounds_toArray, List.set_cons_zero, List.set_cons_succ]
   rfl
  refine ot_ (i := 6) (N := none) #[T, T, T, T, T, T, T, F] rfl HT_.out (fun K hK => ?_)
  have hs14 : w13.cell? ⟨gb308, 0, none⟩ = some (.int .i64 0) := (bc_ BK308.out 0).trans rfl
  have hfs14 := bf_ BK308.out 0
  have hns14_0 := NB301_308.out
  have hns14_1 := NB302_308.out
  have hms14_0 := NB308_301.out
  have hms14_1 := NB308_302.out
  have hs16 : w13.cell? ⟨gb308, 1, none⟩ = some (.slice none 0 0) := (bc_ BK308.out 1).trans rfl
  have hfs16 := bf_ BK308.out 1
  have hns16_0 := NB301_308.out
  have hns16_1 := NB302_308.out
  have hms16_0 := NB308_301.out
  have hms16_1 := NB308_302.out
  refine skip_ (w1 := ?_) (by rfl) rfl ?_ ?_
  rotate_left
  ·go_simp
   rfl
  refine hK.out _ _ ⟨((cell_far (p := ⟨gb308, _, none⟩) NB301_308.out _).trans (((cell_far (p := ⟨gb308, _, none⟩) NB301_308.out _).trans (hHeld.1)))), ((cell_far (p := ⟨gb308, _, none⟩) NB301_308.out _).trans (((cell_far (p := ⟨gb308, _, none⟩) NB301_308.out _).trans (hHeld.2))))⟩ (fun hHeld => ?_)
  clear hK K
  refine pr_ (i := 7) (N := some 7) #[T, T, T, T, T, T, T, T] rfl HT_.out ?_
  refine done_ (done_of HT_.out (by kernel_rfl)) ?_
  have hnb17 := NB301_302.out
  have hnc17 := NB302_301.out
  have hnb18 := NB301_308.out
  have hnc18 := NB308_301.out
  obtain ⟨hcz19_0, hcz19_1, hfz19_0, hfz19_1⟩ := b2 BK301.out
  have hnb20 := NB308_302.out
  have hnc20 := NB302_308.out
  obtain ⟨hcz21_0, hcz21_1, hfz21_0, hfz21_1⟩ := b2 BK308.out
  obtain ⟨hcz22_0, hcz22_1, hfz22_0, hfz22_1⟩ := b2 BK302.out
  try go_wp2
  refine bodyPost_ret (results_ct rfl _ _ gb302 31 #[.int .i64 t303, .slice Ao15 t304.length co15] (0, 0) _ rfl (by (repeat apply bX); refine bp_ (cs := #[.int .i64 t303, .slice none 0 0]) ?_ 1 _ rfl; (repeat apply bX); refine bp_ (cs := #[.int .i64 0, .slice none 0 0]) ?_ 0 _ rfl; (repeat apply bX); refine blk_far ?_ NB302_308.out _; (repeat apply bX); refine blk_far ?_ NB302_308.out _; (repeat apply bX); exact BK302.out) Try.underlying31 rfl (by kernel_rfl)) rfl ?_
  exact ⟨_, by first | rfl | (simp [errW_none, errW_some] <;> rfl) | (simp [*, errW_none, errW_some] <;> rfl), by (with_reducible repeat (first | apply Kd.S_alloc | apply Kd.S_drewN | apply Kd.S_drew)); exact Kd.S_mono (Kd.S_far (p := ⟨gb302, 1, none⟩) (Kd.S_far (p := ⟨gb302, 0, none⟩) (Kd.S_far (p := ⟨gb308, 1, none⟩) (Kd.S_far (p := ⟨gb308, 0, none⟩) (Kd.S_types (Kd.S_types HO306.out BK308.out (by decide)) BK302.out (by decide)) (fun _ hk => hk.1.2) (.int .i64 t303)) (fun _ hk => hk.1.2) (.slice Ao15 t304.length co15)) (fun _ hk => hk.2) (.int .i64 t303)) (fun _ hk => hk.2) (.slice Ao15 t304.length co15)) (fun _ hk => trivial), by repeat (first | (with_reducible first | exact HB.out | apply ba_ | apply bd_ | apply be_ | refine bs_ ?_ GE301.out | refine bs_ ?_ GE302.out | refine bs_ ?_ GE308.out) | exact HB.out)⟩
 rw [if_neg c6] at H
 have c6b0 : ((l0_1.length : Int) == 1000) = false := beq_eq_false_iff_ne.mpr c6
 have c6b1 : ((l0_1.length : Int) != 1000) = true := bne_iff_ne.mpr c6
 replace H := ob_ H
 obtain ⟨⟨t309, t310, t313⟩, A230, H⟩ := H
 replace H : ((slices_Clone_int_int.f t310).bind fun t315 => (if t304.length < 5864062014805 then ((impl_NextSeq.f a0_0).bind fun t321 => (some (t321, (t304 ++ [t315]), 0))) else (none))) = some (r1, r2, r3) := H
 have A23 := A_.mk A230
 clear A230
 replace H := ob_ H
 obtain ⟨t315, A240, H⟩ := H
 have A24 := A_.mk A240
 clear A240
 by_cases c25 : t304.length < 5864062014805
 rotate_left
 ·rw [if_neg c25] at H
  exact absurd H (by simp)
 rw [if_pos c25] at H
 have LMc25 := A_.mk c25
 clear c25
 obtain ⟨y318, hy318⟩ : ∃ y_ : List (List Int), y_ = (t304 ++ [t315]) := ⟨_, rfl⟩
 replace H : ((impl_NextSeq.f a0_0).bind fun t321 => (some (t321, y318, 0))) = some (r1, r2, r3) := by first | (rw [hy318]; with_reducible exact H) | (have H2_ := (Option.bind_some _ _).symm.trans H; rw [hy318]; with_reducible exact H2_) | (have H2_ := (Option.bind_some _ _).symm.trans H; with_reducible exact H2_) | with_reducible exact H | (rw [hy318]; exact H) | exact H
 have Ny318 := A_.mk hy318
 clear hy318
 replace H := ob_ H
 obtain ⟨t321, A260, H⟩ := H
 have A26 := A_.mk A260
 clear A260
 simp only [Option.some.injEq, Prod.mk.injEq] at H
 obtain ⟨rfl, rfl, rfl⟩ := H
 go_enter Try.func39, Try.ntmps39
 try go_wp2_with (first | ((with_reducible refine gd_ (N := 2) rfl ?_); refine by_ 2 (cs := #[.int .i64 a0_0, .slice A0_1 l0_1.length c0_1]) (t := 31) ?_; intro gb301 hg w27 hbox hb; have n0_ := A_.mk (bt_ (beY HB.out) hb); have n1_ := A_.mk (hbox); have n2_ := A_.mk ((by rw [hg]; exact (bz_ (beY HB.out)) : w.heap.size ≤ gb301)); have n3_ := A_.mk ((by rw [hg]; exact (bz_ (beY HB.out)) : w.heap.size ≤ gb301)); clear HB; have HB := n0_; have BK301 := n1_; have GW301 := n2_; have GE301 := n3_; clear n0_ n1_ n2_ n3_ hb hbox hg) | ((with_reducible refine gd_ (N := 4) rfl ?_); refine by_ 4 (cs := #[.int .i64 0, .slice none 0 0]) (t := 31) ?_; intro gb302 hg w28 hbox hb; have n0_ := A_.mk (bb_ (bY BK301.out) hb); have n1_ := A_.mk (bt_ (by repeat (first | (with_reducible first | exact HB.out | apply ba_ | apply bd_ | apply be_ | refine bs_ ?_ GE301.out) | exact HB.out)) hb); have n2_ := A_.mk (hbox); have n3_ := A_.mk ((by rw [hg]; exact (bz_ (by repeat (first | (with_reducible first | exact HB.out | apply ba_ | apply bd_ | apply be_ | refine bs_ ?_ GE301.out) | exact HB.out))) : w.heap.size ≤ gb302)); have n4_ := A_.mk ((by rw [hg]; exact (bz_ (by repeat (first | (with_reducible first | exact HB.out | apply ba_ | apply bd_ | apply be_ | refine bs_ ?_ GE301.out) | exact HB.out))) : w.heap.size ≤ gb302)); have n5_ := A_.mk ((by rw [hg]; exact Nat.ne_of_lt (blk_lt (bY BK301.out)) : gb301 ≠ gb302)); have n6_ := A_.mk ((by rw [hg]; exact Nat.ne_of_gt (blk_lt (bY BK301.out)) : gb302 ≠ gb301)); clear BK301 HB; have BK301 := n0_; have HB := n1_; have BK302 := n2_; have GW302 := n3_; have GE302 := n4_; have NB301_302 := n5_; have NB302_301 := n6_; clear n0_ n1_ n2_ n3_ n4_ n5_ n6_ hb hbox hg))
 have n0_ := A_.mk (bw_ BK301.out)
 have n1_ := A_.mk (bw_ BK302.out)
 have n2_ := A_.mk (be_ HB.out)
 clear BK301 BK302 HB
 have BK301 := n0_
 have BK302 := n1_
 have HB := n2_
 clear n0_ n1_ n2_
 refine start_ (n := 8) (S := fun w' => w'.cell? ⟨gb301, 0, none⟩ = some (.int .i64 a0_0) ∧ w'.cell? ⟨gb301, 1, none⟩ = some (.slice A0_1 l0_1.length c0_1)) (ds := []) #[F, F, F, F, F, F, F, F] (by kernel_rfl) rfl rfl ⟨(bc_ BK301.out 0).trans rfl, (bc_ BK301.out 1).trans rfl⟩ (fun hHeld => ?_); refine with_tabW impl_TakeFrame.tab1 impl_TakeFrame.bits1 (fun HT_ HW_ => ?_)
 generalize w28.drew = w29 at BK301 BK302 HB hHeld ⊢
 refine pr_ (i := 3) (N := some 13) #[F, F, F, T, F, F, F, F] rfl HT_.out ?_
 refine tk_ (i := 0) (N := some 10) #[T, F, F, T, F, F, F, F] rfl HT_.out HW_.out hHeld ?_
 refine tk_ (i := 2) (N := some 12) #[T, F, T, T, F, F, F, F] rfl HT_.out HW_.out hHeld ?_
 refine join_ (σ := Value × Nat) 2 #[T, T, T, T, T, T, F, F] (fun s_ => [(11, .agg #[.int .i64 t303, s_.1]), (14, .int .i64 t307), (6, .pointer (some ⟨s_.2, 0, none⟩))]) (fun s_ w' => (w'.cell? ⟨gb301, 0, none⟩ = some (.int .i64 a0_0) ∧ w'.cell? ⟨gb301, 1, none⟩ = some (.slice A0_1 l0_1.length c0_1)) ∧ (Kd.S (Kd.slice 3 (Kd.int .i64)) 32 w' w.heap.size (fun _ => True) s_.1 t304) ∧ (w'.heap[gb301]? = some (.cells #[.int .i64 a0_0, .slice A0_1 l0_1.length c0_1] 31 (0, 0))) ∧ (w'.heap[gb302]? = some (.cells #[.int .i64 0, .slice none 0 0] 31 (0, 0))) ∧ (w'.heap[s_.2]? = some (.cells #[.int .i64 0, .slice none 0 0] 31 (0, 0))) ∧ (w.heap.size ≤ s_.2) ∧ (w.heap.size ≤ s_.2) ∧ (gb301 ≠ s_.2) ∧ (s_.2 ≠ gb301) ∧ (gb302 ≠ s_.2) ∧ (s_.2 ≠ gb302) ∧ (Below w.heap.size w w')) ?_ ?_
 rotate_left
 ·intro hCont
  refine two_ (i := 1) (j := 5) (Ni := some 11) (Nj := some 6) #[T, T, T, T, F, F, F, F] #[T, F, T, T, F, T, F, F] rfl rfl rfl rfl (two_of HT_.out (by kernel_rfl)) (by decide) (by decide) (fun K hK => ?_) (fun K hK => ?_)
  ·skip
   refine gz_ Try.func22 #[.agg #[.int .i64 a0_0, .slice A0_1 l0_1.length c0_1]] ?_
   with_reducible refine (impl_copyReceiver.calls k a0_0 _ _ l0_1 t303 t304 _ ?side1 ?side2 A3.out).mono ?_
   (case side1 => exact cY ((Kd.C_below HR0_1.out HB.out)))
   (case side2 => exact HC0_1.out)
   rintro e w30 ⟨v305, rfl, ho0, hb⟩
   refine ⟨_, rfl, ?_⟩
   have n0_ := A_.mk (Kd.S_lower ho0 (bz_ (by repeat (first | (with_reducible first | exact HB.out | apply ba_ | apply bd_ | apply be_ | refine bs_ ?_ GE301.out | refine bs_ ?_ GE302.out) | exact HB.out))))
   have n1_ := A_.mk (bb_ (bY BK301.out) hb)
   have n2_ := A_.mk (bb_ (bY BK302.out) hb)
   have n3_ := A_.mk (bt_ (by repeat (first | (with_reducible first | exact HB.out | apply ba_ | apply bd_ | apply be_ | refine bs_ ?_ GE301.out | refine bs_ ?_ GE302.out) | exact HB.out)) hb)
   clear BK301 BK302 HB
   have HO306 := n0_
   have BK301 := n1_
   have BK302 := n2_
   have HB := n3_
   clear n0_ n1_ n2_ n3_
   refine hK.out _ _ ⟨(bc_ BK301.out 0).trans rfl, (bc_ BK301.out 1).trans rfl⟩ (fun hHeld => ?_)
   clear hK K
   refine nm_ ?_
   refine two_ (i := 4) (j := 5) (Ni := some 14) (Nj := some 6) #[T, T, T, T, T, F, F, F] #[T, T, T, T, F, T, F, F] rfl rfl rfl rfl (two_of HT_.out (by kernel_rfl)) (by decide) (by decide) (fun K hK => ?_) (fun K hK => ?_)
   ·skip
    refine gz_ Try.func54 #[.agg #[.int .i64 a0_0, .slice A0_1 l0_1.length c0_1], .slice A1 l1.length c1] ?_
    with_reducible refine (impl_Judge.calls k a0_0 _ _ l0_1 _ _ l1 t307 _ ?side1 ?side2 ?side3 ?side4 A4.out).mono ?_
    (case side1 => exact cY ((Kd.C_below HR0_1.out HB.out)))
    (case side2 => exact HC0_1.out)
    (case side3 => exact cY ((Kd.C_below HR1.out HB.out)))
    (case side4 => exact HC1.out)
    rintro e w31 ⟨rfl, hb⟩
    refine ⟨_, rfl, ?_⟩
    have n0_ := A_.mk (Kd.S_below (by (with_reducible repeat (first | apply Kd.S_alloc | apply Kd.S_drewN | apply Kd.S_drew)); exact HO306.out) hb)
    have n1_ := A_.mk (bb_ (bY BK301.out) hb)
    have n2_ := A_.mk (bb_ (bY BK302.out) hb)
    have n3_ := A_.mk (bt_ (by repeat (first | (with_reducible first | exact HB.out | apply ba_ | apply bd_ | apply be_ | refine bs_ ?_ GE301.out | refine bs_ ?_ GE302.out) | exact HB.out)) hb)
    clear HO306 BK301 BK302 HB
    have HO306 := n0_
    have BK301 := n1_
    have BK302 := n2_
    have HB := n3_
    clear n0_ n1_ n2_ n3_
    refine hK.out _ _ ⟨(bc_ BK301.out 0).trans rfl, (bc_ BK301.out 1).trans rfl⟩ (fun hHeld => ?_)
    clear hK K
    refine nm_ ?_
    refine ot_ (i := 5) (N := some 6) #[T, T, T, T, T, T, F, F] rfl HT_.out (fun K hK => ?_)
    refine box_step ?hg (N := 6) ?hd (cs := #[.int .i64 0, .slice none 0 0]) (t := 31) ?hr ?_; (case hd => rfl); (case hg => rfl); (case hr => first | (go_simp; done) | (go_simp; rfl))
    intro gb308 hg w32 hbox hb
    have n0_ := A_.mk (Kd.S_below (by (with_reducible repeat (first | apply Kd.S_alloc | apply Kd.S_drewN | apply Kd.S_drew)); exact HO306.out) hb)
    have n1_ := A_.mk (bb_ (bY BK301.out) hb)
    have n2_ := A_.mk (bb_ (bY BK302.out) hb)
    have n3_ := A_.mk (bt_ (by repeat (first | (with_reducible first | exact HB.out | apply ba_ | apply bd_ | apply be_ | refine bs_ ?_ GE301.out | refine bs_ ?_ GE302.out) | exact HB.out)) hb)
    have n4_ := A_.mk (hbox)
    have n5_ := A_.mk ((by rw [hg]; exact (bz_ (by repeat (first | (with_reducible first | exact HB.out | apply ba_ | apply bd_ | apply be_ | refine bs_ ?_ GE301.out | refine bs_ ?_ GE302.out) | exact HB.out))) : w.heap.size ≤ gb308))
    have n6_ := A_.mk ((by rw [hg]; exact (bz_ (by repeat (first | (with_reducible first | exact HB.out | apply ba_ | apply bd_ | apply be_ | refine bs_ ?_ GE301.out | refine bs_ ?_ GE302.out) | exact HB.out))) : w.heap.size ≤ gb308))
    have n7_ := A_.mk ((by rw [hg]; exact Nat.ne_of_lt (blk_lt (bY BK301.out)) : gb301 ≠ gb308))
    have n8_ := A_.mk ((by rw [hg]; exact Nat.ne_of_gt (blk_lt (bY BK301.out)) : gb308 ≠ gb301))
    have n9_ := A_.mk ((by rw [hg]; exact Nat.ne_of_lt (blk_lt (bY BK302.out)) : gb302 ≠ gb308))
    have n10_ := A_.mk ((by rw [hg]; exact Nat.ne_of_gt (blk_lt (bY BK302.out)) : gb308 ≠ gb302))
    clear HO306 BK301 BK302 HB
    have HO306 := n0_
    have BK301 := n1_
    have BK302 := n2_
    have HB := n3_
    have BK308 := n4_
    have GW308 := n5_
    have GE308 := n6_
    have NB301_308 := n7_
    have NB308_301 := n8_
    have NB302_308 := n9_
    have NB308_302 := n10_
    clear n0_ n1_ n2_ n3_ n4_ n5_ n6_ n7_ n8_ n9_ n10_ hb hbox hg
    refine hK.out _ _ ⟨(bc_ BK301.out 0).trans rfl, (bc_ BK301.out 1).trans rfl⟩ (fun hHeld => ?_)
    clear hK K
    refine nm_ ?_
    exact norm_ (by simp only [putAll, Act.put, List.setIfInBounds_toArray, List.set_cons_zero, List.set_cons_succ]) (hCont (v305, gb308) _ ⟨hHeld, (by (with_reducible repeat (first | apply Kd.S_alloc | apply Kd.S_drewN | apply Kd.S_drew)); exact HO306.out), (bY BK301.out), (bY BK302.out), (bY BK308.out), GW308.out, GE308.out, NB301_308.out, NB308_301.out, NB302_308.out, NB308_302.out, (by repeat (first | (with_reducible first | exact HB.out | apply ba_ | apply bd_ | apply be_ | refine bs_ ?_ GE301.out | refine bs_ ?_ GE302.out | refine bs_ ?_ GE308.out) | exact HB.out))⟩)
   ·skip
    refine box_step ?hg (N := 6) ?hd (cs := #[.int .i64 0, .slice none 0 0]) (t := 31) ?hr ?_; (case hd => rfl); (case hg => rfl); (case hr => first | (go_simp; done) | (go_simp; rfl))
    intro gb308 hg w31 hbox hb
    have n0_ := A_.mk (Kd.S_below (by (with_reducible repeat (first | apply Kd.S_alloc | apply Kd.S_drewN | apply Kd.S_drew)); exact HO306.out) hb)
    have n1_ := A_.mk (bb_ (bY BK301.out) hb)
    have n2_ := A_.mk (bb_ (bY BK302.out) hb)
    have n3_ := A_.mk (bt_ (by repeat (first | (with_reducible first | exact HB.out | apply ba_ | apply bd_ | apply be_ | refine bs_ ?_ GE301.out | refine bs_ ?_ GE302.out) | exact HB.out)) hb)
    have n4_ := A_.mk (hbox)
    have n5_ := A_.mk ((by rw [hg]; exact (bz_ (by repeat (first | (with_reducible first | exact HB.out | apply ba_ | apply bd_ | apply be_ | refine bs_ ?_ GE301.out | refine bs_ ?_ GE302.out) | exact HB.out))) : w.heap.size ≤ gb308))
    have n6_ := A_.mk ((by rw [hg]; exact (bz_ (by repeat (first | (with_reducible first | exact HB.out | apply ba_ | apply bd_ | apply be_ | refine bs_ ?_ GE301.out | refine bs_ ?_ GE302.out) | exact HB.out))) : w.heap.size ≤ gb308))
    have n7_ := A_.mk ((by rw [hg]; exact Nat.ne_of_lt (blk_lt (bY BK301.out)) : gb301 ≠ gb308))
    have n8_ := A_.mk ((by rw [hg]; exact Nat.ne_of_gt (blk_lt (bY BK301.out)) : gb308 ≠ gb301))
    have n9_ := A_.mk ((by rw [hg]; exact Nat.ne_of_lt (blk_lt (bY BK302.out)) : gb302 ≠ gb308))
    have n10_ := A_.mk ((by rw [hg]; exact Nat.ne_of_gt (blk_lt (bY BK302.out)) : gb308 ≠ gb302))
    clear HO306 BK301 BK302 HB
    have HO306 := n0_
    have BK301 := n1_
    have BK302 := n2_
    have HB := n3_
    have BK308 := n4_
    have GW308 := n5_
    have GE308 := n6_
    have NB301_308 := n7_
    have NB308_301 := n8_
    have NB302_308 := n9_
    have NB308_302 := n10_
    clear n0_ n1_ n2_ n3_ n4_ n5_ n6_ n7_ n8_ n9_ n10_ hb hbox hg
    refine hK.out _ _ ⟨(bc_ BK301.out 0).trans rfl, (bc_ BK301.out 1).trans rfl⟩ (fun hHeld => ?_)
    clear hK K
    refine nm_ ?_
    refine ot_ (i := 4) (N := some 14) #[T, T, T, T, T, T, F, F] rfl HT_.out (fun K hK => ?_)
    refine gz_ Try.func54 #[.agg #[.int .i64 a0_0, .slice A0_1 l0_1.length c0_1], .slice A1 l1.length c1] ?_
    with_reducible refine (impl_Judge.calls k a0_0 _ _ l0_1 _ _ l1 t307 _ ?side1 ?side2 ?side3 ?side4 A4.out).mono ?_
    (case side1 => exact cY ((Kd.C_below HR0_1.out HB.out)))
    (case side2 => exact HC0_1.out)
    (case side3 => exact cY ((Kd.C_below HR1.out HB.out)))
    (case side4 => exact HC1.out)
    rintro e w32 ⟨rfl, hb⟩
    refine ⟨_, rfl, ?_⟩
    have n0_ := A_.mk (Kd.S_below (by (with_reducible repeat (first | apply Kd.S_alloc | apply Kd.S_drewN | apply Kd.S_drew)); exact HO306.out) hb)
    have n1_ := A_.mk (bb_ (bY BK301.out) hb)
    have n2_ := A_.mk (bb_ (bY BK302.out) hb)
    have n3_ := A_.mk (bb_ (bY BK308.out) hb)
    have n4_ := A_.mk (bt_ (by repeat (first | (with_reducible first | exact HB.out | apply ba_ | apply bd_ | apply be_ | refine bs_ ?_ GE301.out | refine bs_ ?_ GE302.out | refine bs_ ?_ GE308.out) | exact HB.out)) hb)
    clear HO306 BK301 BK302 BK308 HB
    have HO306 := n0_
    have BK301 := n1_
    have BK302 := n2_
    have BK308 := n3_
    have HB := n4_
    clear n0_ n1_ n2_ n3_ n4_
    refine hK.out _ _ ⟨(bc_ BK301.out 0).trans rfl, (bc_ BK301.out 1).trans rfl⟩ (fun hHeld => ?_)
    clear hK K
    refine nm_ ?_
    exact norm_ (by simp only [putAll, Act.put, List.setIfInBounds_toArray, List.set_cons_zero, List.set_cons_succ]) (hCont (v305, gb308) _ ⟨hHeld, (by (with_reducible repeat (first | apply Kd.S_alloc | apply Kd.S_drewN | apply Kd.S_drew)); exact HO306.out), (bY BK301.out), (bY BK302.out), (bY BK308.out), GW308.out, GE308.out, NB301_308.out, NB308_301.out, NB302_308.out, NB308_302.out, (by repeat (first | (with_reducible first | exact HB.out | apply ba_ | apply bd_ | apply be_ | refine bs_ ?_ GE301.out | refine bs_ ?_ GE302.out | refine bs_ ?_ GE308.out) | exact HB.out))⟩)
  ·skip
   refine box_step ?hg (N := 6) ?hd (cs := #[.int .i64 0, .slice none 0 0]) (t := 31) ?hr ?_; (case hd => rfl); (case hg => rfl); (case hr => first | (go_simp; done) | (go_simp; rfl))
   intro gb308 hg w30 hbox hb
   have n0_ := A_.mk (bb_ (bY BK301.out) hb)
   have n1_ := A_.mk (bb_ (bY BK302.out) hb)
   have n2_ := A_.mk (bt_ (by repeat (first | (with_reducible first | exact HB.out | apply ba_ | apply bd_ | apply be_ | refine bs_ ?_ GE301.out | refine bs_ ?_ GE302.out) | exact HB.out)) hb)
   have n3_ := A_.mk (hbox)
   have n4_ := A_.mk ((by rw [hg]; exact (bz_ (by repeat (first | (with_reducible first | exact HB.out | apply ba_ | apply bd_ | apply be_ | refine bs_ ?_ GE301.out | refine bs_ ?_ GE302.out) | exact HB.out))) : w.heap.size ≤ gb308))
   have n5_ := A_.mk ((by rw [hg]; exact (bz_ (by repeat (first | (with_reducible first | exact HB.out | apply ba_ | apply bd_ | apply be_ | refine bs_ ?_ GE301.out | refine bs_ ?_ GE302.out) | exact HB.out))) : w.heap.size ≤ gb308))
   have n6_ := A_.mk ((by rw [hg]; exact Nat.ne_of_lt (blk_lt (bY BK301.out)) : gb301 ≠ gb308))
   have n7_ := A_.mk ((by rw [hg]; exact Nat.ne_of_gt (blk_lt (bY BK301.out)) : gb308 ≠ gb301))
   have n8_ := A_.mk ((by rw [hg]; exact Nat.ne_of_lt (blk_lt (bY BK302.out)) : gb302 ≠ gb308))
   have n9_ := A_.mk ((by rw [hg]; exact Nat.ne_of_gt (blk_lt (bY BK302.out)) : gb308 ≠ gb302))
   clear BK301 BK302 HB
   have BK301 := n0_
   have BK302 := n1_
   have HB := n2_
   have BK308 := n3_
   have GW308 := n4_
   have GE308 := n5_
   have NB301_308 := n6_
   have NB308_301 := n7_
   have NB302_308 := n8_
   have NB308_302 := n9_
   clear n0_ n1_ n2_ n3_ n4_ n5_ n6_ n7_ n8_ n9_ hb hbox hg
   refine hK.out _ _ ⟨(bc_ BK301.out 0).trans rfl, (bc_ BK301.out 1).trans rfl⟩ (fun hHeld => ?_)
   clear hK K
   refine nm_ ?_
   refine ot_ (i := 1) (N := some 11) #[T, T, T, T, F, T, F, F] rfl HT_.out (fun K hK => ?_)
   refine gz_ Try.func22 #[.agg #[.int .i64 a0_0, .slice A0_1 l0_1.length c0_1]] ?_
   with_reducible refine (impl_copyReceiver.calls k a0_0 _ _ l0_1 t303 t304 _ ?side1 ?side2 A3.out).mono ?_
   (case side1 => exact cY ((Kd.C_below HR0_1.out HB.out)))
   (case side2 => exact HC0_1.out)
   rintro e w31 ⟨v305, rfl, ho0, hb⟩
   refine ⟨_, rfl, ?_⟩
   have n0_ := A_.mk (Kd.S_lower ho0 (bz_ (by repeat (first | (with_reducible first | exact HB.out | apply ba_ | apply bd_ | apply be_ | refine bs_ ?_ GE301.out | refine bs_ ?_ GE302.out | refine bs_ ?_ GE308.out) | exact HB.out))))
   have n1_ := A_.mk (bb_ (bY BK301.out) hb)
   have n2_ := A_.mk (bb_ (bY BK302.out) hb)
   have n3_ := A_.mk (bb_ (bY BK308.out) hb)
   have n4_ := A_.mk (bt_ (by repeat (first | (with_reducible first | exact HB.out | apply ba_ | apply bd_ | apply be_ | refine bs_ ?_ GE301.out | refine bs_ ?_ GE302.out | refine bs_ ?_ GE308.out) | exact HB.out)) hb)
   clear BK301 BK302 BK308 HB
   have HO306 := n0_
   have BK301 := n1_
   have BK302 := n2_
   have BK308 := n3_
   have HB := n4_
   clear n0_ n1_ n2_ n3_ n4_
   refine hK.out _ _ ⟨(bc_ BK301.out 0).trans rfl, (bc_ BK301.out 1).trans rfl⟩ (fun hHeld => ?_)
   clear hK K
   refine nm_ ?_
   refine ot_ (i := 4) (N := some 14) #[T, T, T, T, T, T, F, F] rfl HT_.out (fun K hK => ?_)
   refine gz_ Try.func54 #[.agg #[.int .i64 a0_0, .slice A0_1 l0_1.length c0_1], .slice A1 l1.length c1] ?_
   with_reducible refine (impl_Judge.calls k a0_0 _ _ l0_1 _ _ l1 t307 _ ?side1 ?side2 ?side3 ?side4 A4.out).mono ?_
   (case side1 => exact cY ((Kd.C_below HR0_1.out HB.out)))
   (case side2 => exact HC0_1.out)
   (case side3 => exact cY ((Kd.C_below HR1.out HB.out)))
   (case side4 => exact HC1.out)
   rintro e w32 ⟨rfl, hb⟩
   refine ⟨_, rfl, ?_⟩
   have n0_ := A_.mk (Kd.S_below (by (with_reducible repeat (first | apply Kd.S_alloc | apply Kd.S_drewN | apply Kd.S_drew)); exact HO306.out) hb)
   have n1_ := A_.mk (bb_ (bY BK301.out) hb)
   have n2_ := A_.mk (bb_ (bY BK302.out) hb)
   have n3_ := A_.mk (bb_ (bY BK308.out) hb)
   have n4_ := A_.mk (bt_ (by repeat (first | (with_reducible first | exact HB.out | apply ba_ | apply bd_ | apply be_ | refine bs_ ?_ GE301.out | refine bs_ ?_ GE302.out | refine bs_ ?_ GE308.out) | exact HB.out)) hb)
   clear HO306 BK301 BK302 BK308 HB
   have HO306 := n0_
   have BK301 := n1_
   have BK302 := n2_
   have BK308 := n3_
   have HB := n4_
   clear n0_ n1_ n2_ n3_ n4_
   refine hK.out _ _ ⟨(bc_ BK301.out 0).trans rfl, (bc_ BK301.out 1).trans rfl⟩ (fun hHeld => ?_)
   clear hK K
   refine nm_ ?_
   exact norm_ (by simp only [putAll, Act.put, List.setIfInBounds_toArray, List.set_cons_zero, List.set_cons_succ]) (hCont (v305, gb308) _ ⟨hHeld, (by (with_reducible repeat (first | apply Kd.S_alloc | apply Kd.S_drewN | apply Kd.S_drew)); exact HO306.out), (bY BK301.out), (bY BK302.out), (bY BK308.out), GW308.out, GE308.out, NB301_308.out, NB308_301.out, NB302_308.out, NB308_302.out, (by repeat (first | (with_reducible first | exact HB.out | apply ba_ | apply bd_ | apply be_ | refine bs_ ?_ GE301.out | refine bs_ ?_ GE302.out | refine bs_ ?_ GE308.out) | exact HB.out))⟩)
 rintro ⟨v305, gb308⟩ w33 ⟨hS_, h0_, h1_, h2_, h3_, h4_, h5_, h6_, h7_, h8_, h9_, h10_⟩
 have n0_ : A_ (Kd.S (Kd.slice 3 (Kd.int .i64)) 32 w33 w.heap.size (fun _ => True) v305 t304) := ⟨h0_⟩
 have n1_ : A_ (w33.heap[gb301]? = some (.cells #[.int .i64 a0_0, .slice A0_1 l0_1.length c0_1] 31 (0, 0))) := ⟨h1_⟩
 have n2_ : A_ (w33.heap[gb302]? = some (.cells #[.int .i64 0, .slice none 0 0] 31 (0, 0))) := ⟨h2_⟩
 have n3_ : A_ (w33.heap[gb308]? = some (.cells #[.int .i64 0, .slice none 0 0] 31 (0, 0))) := ⟨h3_⟩
 have n4_ : A_ (w.heap.size ≤ gb308) := ⟨h4_⟩
 have n5_ : A_ (w.heap.size ≤ gb308) := ⟨h5_⟩
 have n6_ : A_ (gb301 ≠ gb308) := ⟨h6_⟩
 have n7_ : A_ (gb308 ≠ gb301) := ⟨h7_⟩
 have n8_ : A_ (gb302 ≠ gb308) := ⟨h8_⟩
 have n9_ : A_ (gb308 ≠ gb302) := ⟨h9_⟩
 have n10_ : A_ (Below w.heap.size w w33) := ⟨h10_⟩
 clear BK301 BK302 HB h0_ h1_ h2_ h3_ h4_ h5_ h6_ h7_ h8_ h9_ h10_
 have HO306 := n0_
 have BK301 := n1_
 have BK302 := n2_
 have BK308 := n3_
 have GW308 := n4_
 have GE308 := n5_
 have NB301_308 := n6_
 have NB308_301 := n7_
 have NB302_308 := n8_
 have NB308_302 := n9_
 have HB := n10_
 clear n0_ n1_ n2_ n3_ n4_ n5_ n6_ n7_ n8_ n9_ n10_
 have hHeld : w33.cell? ⟨gb301, 0, none⟩ = some (.int .i64 a0_0) ∧ w33.cell? ⟨gb301, 1, none⟩ = some (.slice A0_1 l0_1.length c0_1) := hS_
 obtain ⟨Ao35, co35, eo35⟩ := Kd.S_slice HO306.out
 (first | subst eo35 | (injection eo35 with f1_ f2_ f3_; have f4_ := f1_.symm; have f5_ := f3_.symm; clear f1_ f2_ f3_; subst f4_; subst f5_))
 refine norm_ (a' := ?_) ?_ ?_
 rotate_left
 ·simp only [putAll, Act.put, List.setIfInBounds_toArray, List.set_cons_zero, List.set_cons_succ]
  rfl
 refine ot_ (i := 6) (N := none) #[T, T, T, T, T, T, T, F] rfl HT_.out (fun K hK => ?_)
 have hs34 : w33.cell? ⟨gb308, 0, none⟩ = some (.int .i64 0) := (bc_ BK308.out 0).trans rfl
 have hfs34 := bf_ BK308.out 0
 have hns34_0 := NB301_308.out
 have hns34_1 := NB302_308.out
 have hms34_0 := NB308_301.out
 have hms34_1 := NB308_302.out
 have hs36 : w33.cell? ⟨gb308, 1, none⟩ = some (.slice none 0 0) := (bc_ BK308.out 1).trans rfl
 have hfs36 := bf_ BK308.out 1
 have hns36_0 := NB301_308.out
 have hns36_1 := NB302_308.out
 have hms36_0 := NB308_301.out
 have hms36_1 := NB308_302.out
 refine skip_ (w1 := ?_) (by rfl) rfl ?_ ?_
 rotate_left
 ·go_simp
  rfl
 refine hK.out _ _ ⟨((cell_far (p := ⟨gb308, _, none⟩) NB301_308.out _).trans (((cell_far (p := ⟨gb308, _, none⟩) NB301_308.out _).trans (hHeld.1)))), ((cell_far (p := ⟨gb308, _, none⟩) NB301_308.out _).trans (((cell_far (p := ⟨gb308, _, none⟩) NB301_308.out _).trans (hHeld.2))))⟩ (fun hHeld => ?_)
 clear hK K
 refine pr_ (i := 7) (N := some 7) #[T, T, T, T, T, T, T, T] rfl HT_.out ?_
 refine done_ (done_of HT_.out (by kernel_rfl)) ?_
 have hnb37 := NB301_302.out
 have hnc37 := NB302_301.out
 have hnb38 := NB301_308.out
 have hnc38 := NB308_301.out
 obtain ⟨hcz39_0, hcz39_1, hfz39_0, hfz39_1⟩ := b2 BK301.out
 try go_wp2_with (first | ((with_reducible refine gc_ (f := 55) rfl ?_); refine gl_ (some 26) Try.func55 #[.slice A1 l1.length c1] ?_; (with_reducible refine (impl_TakeWire.calls k _ _ l1 t309 t310 t313 _ ?side1 ?side2 A23.out).mono ?_); (case side1 => exact Kd.C_below HR1.out (by repeat (first | (with_reducible first | exact HB.out | apply ba_ | apply bd_ | apply be_ | refine bs_ ?_ GE301.out | refine bs_ ?_ GE302.out | refine bs_ ?_ GE308.out) | exact HB.out))); (case side2 => exact HC1.out); rintro e w40 ⟨v311, rfl, ho0, hb⟩; refine ⟨_, rfl, ?_⟩; have n0_ := A_.mk (Kd.S_elder' (by (with_reducible repeat (first | apply Kd.S_alloc | apply Kd.S_drewN | apply Kd.S_drew)); exact (Kd.S_mono (Kd.S_far (p := ⟨gb308, 1, none⟩) (Kd.S_far (p := ⟨gb308, 0, none⟩) (Kd.S_types HO306.out BK308.out (by decide)) (fun _ hk => hk.2) (.int .i64 t303)) (fun _ hk => hk.2) (.slice Ao35 t304.length co35)) (fun _ h_ => h_.1))) (Kd.Q_base ho0) hb); have n1_ := A_.mk (Kd.Q_lower ho0 (bz_ (by repeat (first | (with_reducible first | exact HB.out | apply ba_ | apply bd_ | apply be_ | refine bs_ ?_ GE301.out | refine bs_ ?_ GE302.out | refine bs_ ?_ GE308.out) | exact HB.out)))); have n2_ := A_.mk (bb_ (g := gb301) (o := .cells #[.int .i64 a0_0, .slice A0_1 l0_1.length c0_1] 31 (0, 0)) (by (repeat apply bX); refine blk_far ?_ NB301_308.out _; (repeat apply bX); refine blk_far ?_ NB301_308.out _; (repeat apply bX); exact BK301.out) hb); have n3_ := A_.mk (bb_ (g := gb302) (o := .cells #[.int .i64 0, .slice none 0 0] 31 (0, 0)) (by (repeat apply bX); refine blk_far ?_ NB302_308.out _; (repeat apply bX); refine blk_far ?_ NB302_308.out _; (repeat apply bX); exact BK302.out) hb); have n4_ := A_.mk (bb_ (g := gb308) (o := .cells #[.int .i64 t303, .slice Ao35 t304.length co35] 31 (0, 0)) (by (repeat apply bX); refine bp_ (cs := #[.int .i64 t303, .slice none 0 0]) ?_ 1 _ rfl; (repeat apply bX); refine bp_ (cs := #[.int .i64 0, .slice none 0 0]) ?_ 0 _ rfl; (repeat apply bX); exact BK308.out) hb); have n5_ := A_.mk (bt_ (by repeat (first | (with_reducible first | exact HB.out | apply ba_ | apply bd_ | apply be_ | refine bs_ ?_ GE301.out | refine bs_ ?_ GE302.out | refine bs_ ?_ GE308.out) | exact HB.out)) hb); clear HO306 BK301 BK302 BK308 HB; have HO306 := n0_; have HO312 := n1_; have BK301 := n2_; have BK302 := n3_; have BK308 := n4_; have HB := n5_; clear n0_ n1_ n2_ n3_ n4_ n5_; (try clear hb); (try clear hb2); (try clear hk); (try clear hi); (try clear ho0)) | ((with_reducible refine gd_ (N := 8) rfl ?_); refine by_ 8 (cs := #[.int .i64 0, .slice none 0 0]) (t := 68) ?_; intro gb314 hg w41 hbox hb; have n0_ := A_.mk (Kd.S_below (by (with_reducible repeat (first | apply Kd.S_alloc | apply Kd.S_drewN | apply Kd.S_drew)); exact HO306.out) hb); have n1_ := A_.mk (Kd.Q_below (by (with_reducible repeat (first | apply Kd.Q_alloc | apply Kd.Q_drewN | apply Kd.Q_drew)); exact HO312.out) hb); have n2_ := A_.mk (bb_ (bY BK301.out) hb); have n3_ := A_.mk (bb_ (bY BK302.out) hb); have n4_ := A_.mk (bb_ (bY BK308.out) hb); have n5_ := A_.mk (bt_ (by repeat (first | (with_reducible first | exact HB.out | apply ba_ | apply bd_ | apply be_ | refine bs_ ?_ GE301.out | refine bs_ ?_ GE302.out | refine bs_ ?_ GE308.out) | exact HB.out)) hb); have n6_ := A_.mk (hbox); have n7_ := A_.mk ((by rw [hg]; exact (bz_ (by repeat (first | (with_reducible first | exact HB.out | apply ba_ | apply bd_ | apply be_ | refine bs_ ?_ GE301.out | refine bs_ ?_ GE302.out | refine bs_ ?_ GE308.out) | exact HB.out))) : w.heap.size ≤ gb314)); have n8_ := A_.mk ((by rw [hg]; exact (bz_ (by repeat (first | (with_reducible first | exact HB.out | apply ba_ | apply bd_ | apply be_ | refine bs_ ?_ GE301.out | refine bs_ ?_ GE302.out | refine bs_ ?_ GE308.out) | exact HB.out))) : w.heap.size ≤ gb314)); have n9_ := A_.mk ((by rw [hg]; exact Nat.ne_of_lt (blk_lt (bY BK301.out)) : gb301 ≠ gb314)); have n10_ := A_.mk ((by rw [hg]; exact Nat.ne_of_gt (blk_lt (bY BK301.out)) : gb314 ≠ gb301)); have n11_ := A_.mk ((by rw [hg]; exact Nat.ne_of_lt (blk_lt (bY BK302.out)) : gb302 ≠ gb314)); have n12_ := A_.mk ((by rw [hg]; exact Nat.ne_of_gt (blk_lt (bY BK302.out)) : gb314 ≠ gb302)); have n13_ := A_.mk ((by rw [hg]; exact Nat.ne_of_lt (blk_lt (bY BK308.out)) : gb308 ≠ gb314)); have n14_ := A_.mk ((by rw [hg]; exact Nat.ne_of_gt (blk_lt (bY BK308.out)) : gb314 ≠ gb308)); clear HO306 HO312 BK301 BK302 BK308 HB; have HO306 := n0_; have HO312 := n1_; have BK301 := n2_; have BK302 := n3_; have BK308 := n4_; have HB := n5_; have BK314 := n6_; have GW314 := n7_; have GE314 := n8_; have NB301_314 := n9_; have NB314_301 := n10_; have NB302_314 := n11_; have NB314_302 := n12_; have NB308_314 := n13_; have NB314_308 := n14_; clear n0_ n1_ n2_ n3_ n4_ n5_ n6_ n7_ n8_ n9_ n10_ n11_ n12_ n13_ n14_ hb hbox hg; have hnb42 := NB314_301.out; have hnc42 := NB301_314.out; have hnb43 := NB314_302.out; have hnc43 := NB302_314.out; have hnb44 := NB314_308.out; have hnc44 := NB308_314.out; have hcz45_0 : w41.cell? ⟨gb314, 0, none⟩ = some (.int .i64 0) := (bc_ BK314.out 0).trans rfl; have hcz45_1 : w41.cell? ⟨gb314, 1, none⟩ = some (.slice none 0 0) := (bc_ BK314.out 1).trans rfl; have hfz45_0 := bf_ BK314.out 0; have hfz45_1 := bf_ BK314.out 1; obtain ⟨Ao46, co46, eo46, _⟩ := Kd.Q_slice HO312.out; subst eo46))
 have n0_ : A_ (Kd.S (Kd.slice 3 (Kd.int .i64)) 32 ((w41.setCell ⟨gb314, 0, none⟩ (.int .i64 t309)).setCell ⟨gb314, 1, none⟩ (.slice Ao46 t310.length co46)) w.heap.size (fun k_ => some k_ ≠ (.slice Ao46 t310.length co46 : Value).ownBlock) (.slice Ao35 t304.length co35) t304) := ⟨by (with_reducible repeat (first | apply Kd.S_alloc | apply Kd.S_drewN | apply Kd.S_drew)); exact Kd.S_mono (Kd.S_far (p := ⟨gb314, 1, none⟩) (Kd.S_far (p := ⟨gb314, 0, none⟩) (Kd.S_types HO306.out BK314.out (by decide)) (fun _ hk => hk.2) (.int .i64 t309)) (fun _ hk => hk.2) (.slice Ao46 t310.length co46)) (fun _ hk => hk.1.2)⟩
 have n1_ : A_ (Kd.Q (Kd.int .i64) 3 ((w41.setCell ⟨gb314, 0, none⟩ (.int .i64 t309)).setCell ⟨gb314, 1, none⟩ (.slice Ao46 t310.length co46)) w.heap.size (fun _ => True) (.slice Ao46 t310.length co46) t310) := ⟨by (with_reducible repeat (first | apply Kd.Q_alloc | apply Kd.Q_drewN | apply Kd.Q_drew)); exact Kd.Q_mono (Kd.Q_far (p := ⟨gb314, 1, none⟩) (Kd.Q_far (p := ⟨gb314, 0, none⟩) (Kd.Q_types HO312.out BK314.out (by decide)) (fun _ hk => hk.2) (.int .i64 t309)) (fun _ hk => hk.2) (.slice Ao46 t310.length co46)) (fun _ hk => trivial)⟩
 have n2_ : A_ (((w41.setCell ⟨gb314, 0, none⟩ (.int .i64 t309)).setCell ⟨gb314, 1, none⟩ (.slice Ao46 t310.length co46)).heap[gb301]? = some (.cells #[.int .i64 a0_0, .slice A0_1 l0_1.length c0_1] 31 (0, 0))) := ⟨by (repeat apply bX); refine blk_far ?_ NB301_314.out _; (repeat apply bX); refine blk_far ?_ NB301_314.out _; (repeat apply bX); exact BK301.out⟩
 have n3_ : A_ (((w41.setCell ⟨gb314, 0, none⟩ (.int .i64 t309)).setCell ⟨gb314, 1, none⟩ (.slice Ao46 t310.length co46)).heap[gb302]? = some (.cells #[.int .i64 0, .slice none 0 0] 31 (0, 0))) := ⟨by (repeat apply bX); refine blk_far ?_ NB302_314.out _; (repeat apply bX); refine blk_far ?_ NB302_314.out _; (repeat apply bX); exact BK302.out⟩
 have n4_ : A_ (((w41.setCell ⟨gb314, 0, none⟩ (.int .i64 t309)).setCell ⟨gb314, 1, none⟩ (.slice Ao46 t310.length co46)).heap[gb308]? = some (.cells #[.int .i64 t303, .slice Ao35 t304.length co35] 31 (0, 0))) := ⟨by (repeat apply bX); refine blk_far ?_ NB308_314.out _; (repeat apply bX); refine blk_far ?_ NB308_314.out _; (repeat apply bX); exact BK308.out⟩
 have n5_ : A_ (((w41.setCell ⟨gb314, 0, none⟩ (.int .i64 t309)).setCell ⟨gb314, 1, none⟩ (.slice Ao46 t310.length co46)).heap[gb314]? = some (.cells #[.int .i64 t309, .slice Ao46 t310.length co46] 68 (0, 0))) := ⟨by (repeat apply bX); refine bp_ (cs := #[.int .i64 t309, .slice none 0 0]) ?_ 1 _ rfl; (repeat apply bX); refine bp_ (cs := #[.int .i64 0, .slice none 0 0]) ?_ 0 _ rfl; (repeat apply bX); exact BK314.out⟩
 have n6_ : A_ (Below w.heap.size w ((w41.setCell ⟨gb314, 0, none⟩ (.int .i64 t309)).setCell ⟨gb314, 1, none⟩ (.slice Ao46 t310.length co46))) := ⟨by repeat (first | (with_reducible first | exact HB.out | apply ba_ | apply bd_ | apply be_ | refine bs_ ?_ GE301.out | refine bs_ ?_ GE302.out | refine bs_ ?_ GE308.out | refine bs_ ?_ GE314.out) | exact HB.out)⟩
 generalize ((w41.setCell ⟨gb314, 0, none⟩ (.int .i64 t309)).setCell ⟨gb314, 1, none⟩ (.slice Ao46 t310.length co46)) = w47 at n0_ n1_ n2_ n3_ n4_ n5_ n6_ ⊢
 have HO306 := n0_
 have HO312 := n1_
 have BK301 := n2_
 have BK302 := n3_
 have BK308 := n4_
 have BK314 := n5_
 have HB := n6_
 clear n0_ n1_ n2_ n3_ n4_ n5_ n6_
 have n0_ := A_.mk (Kd.S_drew HO306.out)
 have n1_ := A_.mk (Kd.Q_drew HO312.out)
 have n2_ := A_.mk (bw_ BK301.out)
 have n3_ := A_.mk (bw_ BK302.out)
 have n4_ := A_.mk (bw_ BK308.out)
 have n5_ := A_.mk (bw_ BK314.out)
 have n6_ := A_.mk (be_ HB.out)
 clear HO306 HO312 BK301 BK302 BK308 BK314 HB
 have HO306 := n0_
 have HO312 := n1_
 have BK301 := n2_
 have BK302 := n3_
 have BK308 := n4_
 have BK314 := n5_
 have HB := n6_
 clear n0_ n1_ n2_ n3_ n4_ n5_ n6_
 refine start_ (n := 9) (S := fun w' => w'.cell? ⟨gb308, 0, none⟩ = some (.int .i64 t303) ∧ w'.cell? ⟨gb308, 1, none⟩ = some (.slice Ao35 t304.length co35) ∧ w'.cell? ⟨gb314, 0, none⟩ = some (.int .i64 t309) ∧ w'.cell? ⟨gb314, 1, none⟩ = some (.slice Ao46 t310.length co46)) (ds := [8]) #[F, F, F, F, F, F, F, F, F] (by kernel_rfl) rfl rfl ⟨(bc_ BK308.out 0).trans rfl, (bc_ BK308.out 1).trans rfl, (bc_ BK314.out 0).trans rfl, (bc_ BK314.out 1).trans rfl⟩ (fun hHeld => ?_); refine with_tabW impl_TakeFrame.tab7 impl_TakeFrame.bits7 (fun HT_ HW_ => ?_)
 generalize w47.drew = w48 at HO306 HO312 BK301 BK302 BK308 BK314 HB hHeld ⊢
 refine pr_ (i := 0) (N := some 29) #[T, F, F, F, F, F, F, F, F] rfl HT_.out ?_
 refine pr_ (i := 2) (N := some 31) #[T, F, T, F, F, F, F, F, F] rfl HT_.out ?_
 refine tk_ (i := 1) (N := some 30) #[T, T, T, F, F, F, F, F, F] rfl HT_.out HW_.out hHeld ?_
 refine tk_ (i := 3) (N := some 32) #[T, T, T, T, F, F, F, F, F] rfl HT_.out HW_.out hHeld ?_
 refine ot_ (i := 4) (N := some 33) #[T, T, T, T, T, F, F, F, F] rfl HT_.out (fun K hK => ?_)
 refine gz_ Try.func24 #[.slice Ao46 t310.length co46] ?_
 with_reducible refine (slices_Clone_int_int.calls _ _ t310 t315 _ ?side1 ?side2 A24.out).mono ?_
 (case side1 => exact cY ((Kd.Q_reads' HO312.out).2.2))
 (case side2 => exact (Kd.Q_reads' HO312.out).2.1)
 rintro e w49 ⟨v316, rfl, ho0, hb⟩
 refine ⟨_, rfl, ?_⟩
 have n0_ := A_.mk (Kd.S_elder' (by (with_reducible repeat (first | apply Kd.S_alloc | apply Kd.S_drewN | apply Kd.S_drew)); exact HO306.out) (Kd.R_base ho0) hb)
 have n1_ := A_.mk (Kd.Q_elder' (by (with_reducible repeat (first | apply Kd.Q_alloc | apply Kd.Q_drewN | apply Kd.Q_drew)); exact HO312.out) (Kd.R_base ho0) hb)
 have n2_ := A_.mk (Kd.R_lower (Kd.R_new' ho0 (Kd.Q_lt (by (with_reducible repeat (first | apply Kd.Q_alloc | apply Kd.Q_drewN | apply Kd.Q_drew)); exact HO312.out))) (bz_ (by repeat (first | (with_reducible first | exact HB.out | apply ba_ | apply bd_ | apply be_ | refine bs_ ?_ GE301.out | refine bs_ ?_ GE302.out | refine bs_ ?_ GE308.out | refine bs_ ?_ GE314.out) | exact HB.out))))
 have n3_ := A_.mk (bb_ (bY BK301.out) hb)
 have n4_ := A_.mk (bb_ (bY BK302.out) hb)
 have n5_ := A_.mk (bb_ (bY BK308.out) hb)
 have n6_ := A_.mk (bb_ (bY BK314.out) hb)
 have n7_ := A_.mk (bt_ (by repeat (first | (with_reducible first | exact HB.out | apply ba_ | apply bd_ | apply be_ | refine bs_ ?_ GE301.out | refine bs_ ?_ GE302.out | refine bs_ ?_ GE308.out | refine bs_ ?_ GE314.out) | exact HB.out)) hb)
 clear HO306 HO312 BK301 BK302 BK308 BK314 HB
 have HO306 := n0_
 have HO312 := n1_
 have HO317 := n2_
 have BK301 := n3_
 have BK302 := n4_
 have BK308 := n5_
 have BK314 := n6_
 have HB := n7_
 clear n0_ n1_ n2_ n3_ n4_ n5_ n6_ n7_
 obtain ⟨Ao51, co51, eo51⟩ := Kd.R_slice HO317.out
 (first | subst eo51 | (injection eo51 with f1_ f2_ f3_; have f4_ := f1_.symm; have f5_ := f3_.symm; clear f1_ f2_ f3_; subst f4_; subst f5_))
 refine hK.out _ _ ⟨(bc_ BK308.out 0).trans rfl, (bc_ BK308.out 1).trans rfl, (bc_ BK314.out 0).trans rfl, (bc_ BK314.out 1).trans rfl⟩ (fun hHeld => ?_)
 clear hK K
 refine nm_ ?_
 refine ot_ (i := 5) (N := some 34) #[T, T, T, T, T, T, F, F, F] rfl HT_.out (fun K hK => ?_)
 refine value_ (w1 := ?_) (v := ?_) (by rfl) rfl ?_ ?_
 rotate_left 2
 ·go_simp
  constructor
  ·rfl
  ·rfl
 refine hK.out _ _ ⟨(bc_ (bl_ BK308.out _) 0).trans rfl, (bc_ (bl_ BK308.out _) 1).trans rfl, (bc_ (bl_ BK314.out _) 0).trans rfl, (bc_ (bl_ BK314.out _) 1).trans rfl⟩ (fun hHeld => ?_)
 clear hK K
 refine nm_ ?_
 refine ot_ (i := 6) (N := some 35) #[T, T, T, T, T, T, T, F, F] rfl HT_.out (fun K hK => ?_)
 refine Kd.S_append_step (Kd.slice 3 (Kd.int .i64)) (w0 := w) w.heap.size (by rfl) (.tmp 30) (.tmp 34) 29 32 (.slice none 0 0) 24 rfl Try.underlying29 info32 rfl (by decide) (by omega) (.slice Ao35 t304.length co35) t304 t315 [.slice Ao51 t315.length co51] (fun k_ => some k_ ≠ (.slice Ao46 t310.length co46 : Value).ownBlock) (fun k_ => some k_ = (.slice Ao51 t315.length co51 : Value).ownBlock) rfl rfl ?aP (fun k_ hk_ => ((Kd.R_mono (ok' := fun k_ => ((fun k_ => some k_ ≠ (.slice Ao46 t310.length co46 : Value).ownBlock)) k_ ∧ some k_ ≠ (.slice Ao35 t304.length co35 : Value).ownBlock) (Kd.R_apart' (HO317.out) (Kd.S_typed HO306.out) (by decide)) (fun k_ hk => ⟨hk.1.2, hk.2⟩))).1 k_ hk_.symm) ?aF ?aO ?aB ?aS ?aL ?_
 (case aP => exact Kd.M_row (Kd.R_mono (Kd.R_tight rfl (Kd.R_mono (ok' := fun k_ => ((fun k_ => some k_ ≠ (.slice Ao46 t310.length co46 : Value).ownBlock)) k_ ∧ some k_ ≠ (.slice Ao35 t304.length co35 : Value).ownBlock) (Kd.R_apart' (HO317.out) (Kd.S_typed HO306.out) (by decide)) (fun k_ hk => ⟨hk.1.2, hk.2⟩))) (fun _ h_ => h_)))
 (case aB => exact (by repeat (first | (with_reducible first | exact HB.out | apply ba_ | apply bd_ | apply be_ | refine bs_ ?_ GE301.out | refine bs_ ?_ GE302.out | refine bs_ ?_ GE308.out | refine bs_ ?_ GE314.out) | exact HB.out)))
 (case aF => exact (fun k_ hk => Kd.fresh' (Kd.Q_lt (by (with_reducible repeat (first | apply Kd.Q_alloc | apply Kd.Q_drewN | apply Kd.Q_drew)); exact HO312.out)) k_ hk))
 (case aO => exact (by (with_reducible repeat (first | apply Kd.S_alloc | apply Kd.S_drewN | apply Kd.S_drew)); exact Kd.S_mono HO306.out (fun k_ hk => ⟨hk.1, fun e_ => hk.2 e_⟩)))
 (case aS => exact (bz_ (by repeat (first | (with_reducible first | exact HB.out | apply ba_ | apply bd_ | apply be_ | refine bs_ ?_ GE301.out | refine bs_ ?_ GE302.out | refine bs_ ?_ GE308.out | refine bs_ ?_ GE314.out) | exact HB.out))))
 (case aL => have := LMc25.out; omega)
 intro v319 w50 ho hb hg hat
 rw [← Ny318.out] at ho
 have n0_ := A_.mk (blk_grown (g := gb301) (o := .cells #[.int .i64 a0_0, .slice A0_1 l0_1.length c0_1] 31 (0, 0)) (bY BK301.out) hg (Kd.S_ne HO306.out BK301.out (by decide)))
 have n1_ := A_.mk (blk_grown (g := gb302) (o := .cells #[.int .i64 0, .slice none 0 0] 31 (0, 0)) (bY BK302.out) hg (Kd.S_ne HO306.out BK302.out (by decide)))
 have n2_ := A_.mk (blk_grown (g := gb308) (o := .cells #[.int .i64 t303, .slice Ao35 t304.length co35] 31 (0, 0)) (bY BK308.out) hg (Kd.S_ne HO306.out BK308.out (by decide)))
 have n3_ := A_.mk (Kd.Q_over' (by (with_reducible repeat (first | apply Kd.Q_alloc | apply Kd.Q_drewN | apply Kd.Q_drew)); exact HO312.out) (Kd.S_typed (by (with_reducible repeat (first | apply Kd.S_alloc | apply Kd.S_drewN | apply Kd.S_drew)); exact HO306.out)) (by decide) hg)
 have n4_ := A_.mk (blk_grown (g := gb314) (o := .cells #[.int .i64 t309, .slice Ao46 t310.length co46] 68 (0, 0)) (bY BK314.out) hg (Kd.S_ne HO306.out BK314.out (by decide)))
 have n5_ := A_.mk (hb)
 have n6_ := A_.mk (ho)
 clear BK301 BK302 BK308 HO312 BK314 HB HO306 HO317
 have BK301 := n0_
 have BK302 := n1_
 have BK308 := n2_
 have HO312 := n3_
 have BK314 := n4_
 have HB := n5_
 have HO320 := n6_
 clear n0_ n1_ n2_ n3_ n4_ n5_ n6_ ho hb hg hat
 obtain ⟨Ao52, co52, eo52⟩ := Kd.S_slice HO320.out
 (first | subst eo52 | (injection eo52 with f1_ f2_ f3_; have f4_ := f1_.symm; have f5_ := f3_.symm; clear f1_ f2_ f3_; subst f4_; subst f5_))
 refine hK.out _ _ ⟨(bc_ BK308.out 0).trans rfl, (bc_ BK308.out 1).trans rfl, (bc_ BK314.out 0).trans rfl, (bc_ BK314.out 1).trans rfl⟩ (fun hHeld => ?_)
 clear hK K
 refine nm_ ?_
 refine pr_ (i := 7) (N := some 36) #[T, T, T, T, T, T, T, T, F] rfl HT_.out ?_
 refine last_ (i := 8) (N := none) #[T, T, T, T, T, T, T, T, T] rfl rfl (one_of HT_.out (by kernel_rfl)) (by decide) (fun K hK => ?_)
 have hs53 : w50.cell? ⟨gb308, 1, none⟩ = some (.slice Ao35 t304.length co35) := (bc_ BK308.out 1).trans rfl
 have hfs53 := bf_ BK308.out 1
 have hns53_0 := NB301_308.out
 have hns53_1 := NB302_308.out
 have hns53_3 := NB314_308.out
 have hms53_0 := NB308_301.out
 have hms53_1 := NB308_302.out
 have hms53_3 := NB308_314.out
 refine skip_ (w1 := ?_) (by rfl) rfl ?_ ?_
 rotate_left
 ·go_simp
  rfl
 refine hK.out _ _ ?_
 clear hK K
 refine done_ (done_of HT_.out (by kernel_rfl)) ?_
 obtain ⟨hcz54_0, hcz54_1, hfz54_0, hfz54_1⟩ := b2 BK301.out
 try go_wp2_with (first | ((with_reducible refine gc_ (f := 51) rfl ?_); refine gl_ (some 39) Try.func51 #[.int .i64 a0_0] ?_; (with_reducible refine (impl_NextSeq.calls a0_0 t321 _ A26.out).mono ?_); rintro e w' ⟨rfl, ⟨nd, rfl⟩⟩; refine ⟨_, rfl, ?_⟩; have hnb55 := NB308_302.out; have hnc55 := NB302_308.out; have hcz56_0 : w50.cell? ⟨gb308, 0, none⟩ = some (.int .i64 t303) := (bc_ BK308.out 0).trans rfl; have hcz56_1 : w50.cell? ⟨gb308, 1, none⟩ = some (.slice Ao35 t304.length co35) := (bc_ BK308.out 1).trans rfl; have hfz56_0 := bf_ BK308.out 0; have hfz56_1 := bf_ BK308.out 1; have hcz57_0 : w50.cell? ⟨gb302, 0, none⟩ = some (.int .i64 0) := (bc_ BK302.out 0).trans rfl; have hcz57_1 : w50.cell? ⟨gb302, 1, none⟩ = some (.slice none 0 0) := (bc_ BK302.out 1).trans rfl; have hfz57_0 := bf_ BK302.out 0; have hfz57_1 := bf_ BK302.out 1))
 refine bodyPost_ret (results_ct rfl _ _ gb302 31 #[.int .i64 t321, .slice Ao52 y318.length co52] (0, 0) _ rfl (by (repeat apply bX); refine bp_ (cs := #[.int .i64 t321, .slice none 0 0]) ?_ 1 _ rfl; (repeat apply bX); refine bp_ (cs := #[.int .i64 0, .slice none 0 0]) ?_ 0 _ rfl; (repeat apply bX); refine blk_far ?_ NB302_308.out _; (repeat apply bX); refine blk_far ?_ NB302_308.out _; (repeat apply bX); exact BK302.out) Try.underlying31 rfl (by kernel_rfl)) rfl ?_
 exact ⟨_, by first | rfl | (simp [errW_none, errW_some] <;> rfl) | (simp [*, errW_none, errW_some] <;> rfl), by (with_reducible repeat (first | apply Kd.S_alloc | apply Kd.S_drewN | apply Kd.S_drew)); exact Kd.S_mono (Kd.S_far (p := ⟨gb302, 1, none⟩) (Kd.S_far (p := ⟨gb302, 0, none⟩) (Kd.S_far (p := ⟨gb308, 0, none⟩) (Kd.S_far (p := ⟨gb308, 1, none⟩) (Kd.S_types (Kd.S_types HO320.out BK308.out (by decide)) BK302.out (by decide)) (fun _ hk => hk.1.2) (.slice Ao52 y318.length co52)) (fun _ hk => hk.1.2) (.int .i64 t321)) (fun _ hk => hk.2) (.int .i64 t321)) (fun _ hk => hk.2) (.slice Ao52 y318.length co52)) (fun _ hk => trivial), by repeat (first | (with_reducible first | exact HB.out | apply ba_ | apply bd_ | apply be_ | refine bs_ ?_ GE301.out | refine bs_ ?_ GE302.out | refine bs_ ?_ GE308.out | refine bs_ ?_ GE314.out) | exact HB.out)⟩
end Go.Proofs.Ytflopendlbciaaa.PFnLinkOnce
