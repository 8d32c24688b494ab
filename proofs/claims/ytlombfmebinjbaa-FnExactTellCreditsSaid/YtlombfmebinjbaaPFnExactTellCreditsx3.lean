-- Written by a program of this session (wip/xp): not trusted, Lean checks it.
import Derived.Test.YtlombfmebinjbaaPFnExactTellCreditsx0
import Derived.Test.YtlombfmebinjbaaPFnExactTellCreditsx1
import Derived.Test.YtlombfmebinjbaaPFnExactTellCreditsx2
namespace Go.Proofs.Ytlombfmebinjbaa.PFnExactTellCredits
open Go.RowKit Go.Proofs.YtlombfmebinjbaaW.PrintWords Go.Proofs.YtlombfmebinjbaaW.PrintLast Go.Proofs.YtlombfmebinjbaaW.PrintMore
attribute [local go_sem] max2_int min2_int max_two min_two max_three min_three max_four min_four   -- for this text's walks alone
set_option linter.unusedVariables false
set_option linter.unusedSimpArgs false

/-! ### laws_eqPacketS: function 47 -/
def laws_eqPacketS.l0 : Nat → List (S38) → List (S38) → Int → Option (Bool)
 | 0, _, _, _ => none
 | k + 1, x0, x1, x5 => if x5 < (x0.length : Int) then (if 0 ≤ x5 then (if x5 < (x1.length : Int) then ((laws_eqPacket.f k ((rd_T38 x0 x5).f0) ((rd_T38 x0 x5).f1) ((rd_T38 x0 x5).f2) ((rd_T38 x0 x5).f3) ((rd_T38 x0 x5).f4) ((rd_T38 x0 x5).f5) ((rd_T38 x0 x5).f6) ((rd_T38 x0 x5).f7) ((rd_T38 x1 x5).f0) ((rd_T38 x1 x5).f1) ((rd_T38 x1 x5).f2) ((rd_T38 x1 x5).f3) ((rd_T38 x1 x5).f4) ((rd_T38 x1 x5).f5) ((rd_T38 x1 x5).f6) ((rd_T38 x1 x5).f7)).bind fun t142 => (if t142 = true then (laws_eqPacketS.l0 k x0 x1 (wrap64 (x5 + 1))) else (some false))) else (none)) else (none)) else (some true)
def laws_eqPacketS.f (k : Nat) (l0 : List (S38)) (l1 : List (S38)) : Option (Bool) := if (l0.length : Int) = (l1.length : Int) then (laws_eqPacketS.l0 k l0 l1 0) else (some false)
def laws_eqPacketS.T6 : Bool × List (List Nat × List Nat) := (true, [([], []), ([], []), ([0, 1], [0, 1]), ([2], [2]), ([], []), ([], []), ([4, 5], [4, 5]), ([6], [6]), ([3, 7], [3, 7]), ([8], [8])])
def laws_eqPacketS.B6 : List Nat := [0, 0, 3, 7, 0, 0, 48, 112, 255, 511]
theorem laws_eqPacketS.tab6 : rtab .any (opsOf Try.f47 6) = laws_eqPacketS.T6 := by kernel_rfl
theorem laws_eqPacketS.bits6 : waitsOk laws_eqPacketS.T6.2 laws_eqPacketS.B6 = true := by kernel_rfl
set_option maxHeartbeats 8000000 in
set_option maxRecDepth 100000 in
theorem laws_eqPacketS.calls (k : Nat) (A0 : Option Addr) (c0 : Nat) (l0 : List (S38)) (A1 : Option Addr) (c1 : Nat) (l1 : List (S38)) (r : Bool) (w : World) (hr0 : Kd.C k38 w A0 l0.length l0) (hc0 : l0.length ≤ c0) (hr1 : Kd.C k38 w A1 l1.length l1) (hc1 : l1.length ≤ c1) (h : laws_eqPacketS.f k l0 l1 = some r) :
  Calls Try.prog 47 #[.slice A0 l0.length c0, .slice A1 l1.length c1] w fun e w' => e = .returned (.bool r) ∧ Below w.heap.size w w' := by
 have hu38 := Try.underlying38
 have HR0 := A_.mk hr0
 have HC0 := A_.mk hc0
 clear hr0 hc0
 have HR1 := A_.mk hr1
 have HC1 := A_.mk hc1
 clear hr1 hc1
 have HB := A_.mk (Below.refl w.heap.size w)
 have H : (if (l0.length : Int) = (l1.length : Int) then (laws_eqPacketS.l0 k l0 l1 0) else (some false)) = some r := h
 clear h
 by_cases c3 : (l0.length : Int) = (l1.length : Int)
 rotate_left
 ·rw [if_neg c3] at H
  have c3b0 : ((l0.length : Int) == (l1.length : Int)) = false := beq_eq_false_iff_ne.mpr c3
  have c3b1 : ((l0.length : Int) != (l1.length : Int)) = true := bne_iff_ne.mpr c3
  have c3b2 : (l0.length == l1.length) = false := by first | simpa using c3 | (simp at c3 ⊢; omega)
  obtain rfl := Option.some.inj H
  go_enter Try.func47, Try.ntmps47
  go_wp2
  go_ret
  exact ⟨by first | rfl | (simp [errW_none, errW_some] <;> rfl) | (simp [*, errW_none, errW_some] <;> rfl), beY HB.out⟩
 rw [if_pos c3] at H
 have c3b0 : ((l0.length : Int) == (l1.length : Int)) = true := beq_iff_eq.mpr c3
 have c3b1 : ((l0.length : Int) != (l1.length : Int)) = false := bne_eq_false_iff_eq.mpr c3
 have c3b2 : (l0.length == l1.length) = true := by first | simpa using c3 | (simp at c3 ⊢; omega)
 clear c3
 have H' := A_.mk H
 clear H
 go_enter Try.func47, Try.ntmps47
 go_wp2
 go_loopg [5] k (fun kq v5 w' => ∃ (x5_1 : Int), v5 = .int .i64 x5_1 ∧ A_ (laws_eqPacketS.l0 kq l0 l1 x5_1 = some r) ∧ A_ (kq ≤ k) ∧ A_ (Below w.heap.size w w'))
 case atStart => exact ⟨(0), (by first | rfl | (simp; done) | (simp [*]; done)), H', ⟨Nat.le_refl _⟩, ⟨beY HB.out⟩⟩
 case round =>
  clear H'
  obtain ⟨x5_1, rfl, HA, HK1, HB⟩ := hrel
  cases gk with
  | zero => exact absurd HA.out (by simp [laws_eqPacketS.l0])
  | succ k1 =>
   have H := HA.out
   clear HA
   simp only [laws_eqPacketS.l0] at H
   by_cases c4 : x5_1 < (l0.length : Int)
   rotate_left
   ·rw [if_neg c4] at H
    have c4b0 : decide (x5_1 < (l0.length : Int)) = false := decide_eq_false c4
    clear c4
    obtain rfl := Option.some.inj H
    go_wp2
    go_ret
    exact ⟨by first | rfl | (simp [errW_none, errW_some] <;> rfl) | (simp [*, errW_none, errW_some] <;> rfl), beY HB.out⟩
   rw [if_pos c4] at H
   have c4b0 : decide (x5_1 < (l0.length : Int)) = true := decide_eq_true c4
   clear c4
   by_cases c5 : 0 ≤ x5_1
   rotate_left
   ·rw [if_neg c5] at H
    exact absurd H (by simp)
   rw [if_pos c5] at H
   have c5b0 : decide (0 ≤ x5_1) = true := decide_eq_true c5
   clear c5
   by_cases c6 : x5_1 < (l1.length : Int)
   rotate_left
   ·rw [if_neg c6] at H
    exact absurd H (by simp)
   rw [if_pos c6] at H
   have c6b0 : decide (x5_1 < (l1.length : Int)) = true := decide_eq_true c6
   clear c6
   replace H := ob_ H
   obtain ⟨t142, A70, H⟩ := H
   have A7 := A_.mk A70
   clear A70
   by_cases c8 : t142 = true
   rotate_left
   ·replace c8 := Bool.eq_false_iff.mpr c8
    subst c8
    have H1 : (some false) = some r := by rw [if_neg (show ¬ (false = true) by decide)] at H; exact H
    clear H
    have H := H1
    clear H1
    obtain rfl := Option.some.inj H
    try go_wp2
    have n0_ := A_.mk (be_ HB.out)
    clear HB
    have HB := n0_
    clear n0_
    have p140 : 0 ≤ (x5_1 : Int) := od_
    have q140 : x5_1 < (l0.length : Int) := od_
    obtain ⟨ad140, A140_7, c140_7, e140, hx140_0, hx140_1, hx140_2, hx140_3, hx140_4, hx140_5, hx140_6, hx140_7, hl140_7, hi140_7⟩ := at_T38 HR0.out x5_1 p140 q140
    have hw140_7 := hx140_7
    have hw140_6 := hx140_6
    have hw140_5 := hx140_5
    have hw140_4 := hx140_4
    have hw140_3 := hx140_3
    have hw140_2 := hx140_2
    have hw140_1 := hx140_1
    have hw140_0 := hx140_0
    cases e140
    replace hx140_0 := (HB.out.cell (wl_ w _ hx140_0)).trans hx140_0
    replace hx140_1 := (HB.out.cell (wl_ w _ hx140_1)).trans hx140_1
    replace hx140_2 := (HB.out.cell (wl_ w _ hx140_2)).trans hx140_2
    replace hx140_3 := (HB.out.cell (wl_ w _ hx140_3)).trans hx140_3
    replace hx140_4 := (HB.out.cell (wl_ w _ hx140_4)).trans hx140_4
    replace hx140_5 := (HB.out.cell (wl_ w _ hx140_5)).trans hx140_5
    replace hx140_6 := (HB.out.cell (wl_ w _ hx140_6)).trans hx140_6
    replace hx140_7 := (HB.out.cell (wl_ w _ hx140_7)).trans hx140_7
    have HR140_7 := A_.mk hi140_7
    have HC140_7 := A_.mk hl140_7
    clear hi140_7 hl140_7
    replace p140 := eq_true p140
    replace q140 := eq_true q140
    have p141 : 0 ≤ (x5_1 : Int) := od_
    have q141 : x5_1 < (l1.length : Int) := od_
    obtain ⟨ad141, A141_7, c141_7, e141, hx141_0, hx141_1, hx141_2, hx141_3, hx141_4, hx141_5, hx141_6, hx141_7, hl141_7, hi141_7⟩ := at_T38 HR1.out x5_1 p141 q141
    have hw141_7 := hx141_7
    have hw141_6 := hx141_6
    have hw141_5 := hx141_5
    have hw141_4 := hx141_4
    have hw141_3 := hx141_3
    have hw141_2 := hx141_2
    have hw141_1 := hx141_1
    have hw141_0 := hx141_0
    cases e141
    replace hx141_0 := (HB.out.cell (wl_ w _ hx141_0)).trans hx141_0
    replace hx141_1 := (HB.out.cell (wl_ w _ hx141_1)).trans hx141_1
    replace hx141_2 := (HB.out.cell (wl_ w _ hx141_2)).trans hx141_2
    replace hx141_3 := (HB.out.cell (wl_ w _ hx141_3)).trans hx141_3
    replace hx141_4 := (HB.out.cell (wl_ w _ hx141_4)).trans hx141_4
    replace hx141_5 := (HB.out.cell (wl_ w _ hx141_5)).trans hx141_5
    replace hx141_6 := (HB.out.cell (wl_ w _ hx141_6)).trans hx141_6
    replace hx141_7 := (HB.out.cell (wl_ w _ hx141_7)).trans hx141_7
    have HR141_7 := A_.mk hi141_7
    have HC141_7 := A_.mk hl141_7
    clear hi141_7 hl141_7
    replace p141 := eq_true p141
    replace q141 := eq_true q141
    refine start_ (n := 10) (S := fun w' => w'.cell? (ad140.add ((x5_1).toNat * 8)) = some (.int .i64 ((rd_T38 l0 x5_1).f0)) ∧ w'.cell? ⟨(ad140.add ((x5_1).toNat * 8)).block, (ad140.add ((x5_1).toNat * 8)).off + 1, none⟩ = some (.int .i64 ((rd_T38 l0 x5_1).f1)) ∧ w'.cell? ⟨(ad140.add ((x5_1).toNat * 8)).block, (ad140.add ((x5_1).toNat * 8)).off + 2, none⟩ = some (.int .i64 ((rd_T38 l0 x5_1).f2)) ∧ w'.cell? ⟨(ad140.add ((x5_1).toNat * 8)).block, (ad140.add ((x5_1).toNat * 8)).off + 3, none⟩ = some (.int .i64 ((rd_T38 l0 x5_1).f3)) ∧ w'.cell? ⟨(ad140.add ((x5_1).toNat * 8)).block, (ad140.add ((x5_1).toNat * 8)).off + 4, none⟩ = some (.int .i64 ((rd_T38 l0 x5_1).f4)) ∧ w'.cell? ⟨(ad140.add ((x5_1).toNat * 8)).block, (ad140.add ((x5_1).toNat * 8)).off + 5, none⟩ = some (.int .i64 ((rd_T38 l0 x5_1).f5)) ∧ w'.cell? ⟨(ad140.add ((x5_1).toNat * 8)).block, (ad140.add ((x5_1).toNat * 8)).off + 6, none⟩ = some (.int .i64 ((rd_T38 l0 x5_1).f6)) ∧ w'.cell? ⟨(ad140.add ((x5_1).toNat * 8)).block, (ad140.add ((x5_1).toNat * 8)).off + 7, none⟩ = some (.slice A140_7 ((rd_T38 l0 x5_1).f7).length c140_7) ∧ w'.cell? (ad141.add ((x5_1).toNat * 8)) = some (.int .i64 ((rd_T38 l1 x5_1).f0)) ∧ w'.cell? ⟨(ad141.add ((x5_1).toNat * 8)).block, (ad141.add ((x5_1).toNat * 8)).off + 1, none⟩ = some (.int .i64 ((rd_T38 l1 x5_1).f1)) ∧ w'.cell? ⟨(ad141.add ((x5_1).toNat * 8)).block, (ad141.add ((x5_1).toNat * 8)).off + 2, none⟩ = some (.int .i64 ((rd_T38 l1 x5_1).f2)) ∧ w'.cell? ⟨(ad141.add ((x5_1).toNat * 8)).block, (ad141.add ((x5_1).toNat * 8)).off + 3, none⟩ = some (.int .i64 ((rd_T38 l1 x5_1).f3)) ∧ w'.cell? ⟨(ad141.add ((x5_1).toNat * 8)).block, (ad141.add ((x5_1).toNat * 8)).off + 4, none⟩ = some (.int .i64 ((rd_T38 l1 x5_1).f4)) ∧ w'.cell? ⟨(ad141.add ((x5_1).toNat * 8)).block, (ad141.add ((x5_1).toNat * 8)).off + 5, none⟩ = some (.int .i64 ((rd_T38 l1 x5_1).f5)) ∧ w'.cell? ⟨(ad141.add ((x5_1).toNat * 8)).block, (ad141.add ((x5_1).toNat * 8)).off + 6, none⟩ = some (.int .i64 ((rd_T38 l1 x5_1).f6)) ∧ w'.cell? ⟨(ad141.add ((x5_1).toNat * 8)).block, (ad141.add ((x5_1).toNat * 8)).off + 7, none⟩ = some (.slice A141_7 ((rd_T38 l1 x5_1).f7).length c141_7)) (ds := []) #[F, F, F, F, F, F, F, F, F, F] (by kernel_rfl) rfl rfl ⟨((HB.out.cell (wl_ w _ hw140_0)).trans hw140_0), ((HB.out.cell (wl_ w _ hw140_1)).trans hw140_1), ((HB.out.cell (wl_ w _ hw140_2)).trans hw140_2), ((HB.out.cell (wl_ w _ hw140_3)).trans hw140_3), ((HB.out.cell (wl_ w _ hw140_4)).trans hw140_4), ((HB.out.cell (wl_ w _ hw140_5)).trans hw140_5), ((HB.out.cell (wl_ w _ hw140_6)).trans hw140_6), ((HB.out.cell (wl_ w _ hw140_7)).trans hw140_7), ((HB.out.cell (wl_ w _ hw141_0)).trans hw141_0), ((HB.out.cell (wl_ w _ hw141_1)).trans hw141_1), ((HB.out.cell (wl_ w _ hw141_2)).trans hw141_2), ((HB.out.cell (wl_ w _ hw141_3)).trans hw141_3), ((HB.out.cell (wl_ w _ hw141_4)).trans hw141_4), ((HB.out.cell (wl_ w _ hw141_5)).trans hw141_5), ((HB.out.cell (wl_ w _ hw141_6)).trans hw141_6), ((HB.out.cell (wl_ w _ hw141_7)).trans hw141_7)⟩ (fun hHeld => ?_); refine with_tabW laws_eqPacketS.tab6 laws_eqPacketS.bits6 (fun HT_ HW_ => ?_)
    generalize wr.drew = w11 at HB HR140_7 HR141_7 hx140_0 hx140_1 hx140_2 hx140_3 hx140_4 hx140_5 hx140_6 hx140_7 hx141_0 hx141_1 hx141_2 hx141_3 hx141_4 hx141_5 hx141_6 hx141_7 hHeld ⊢
    refine pr_ (i := 0) (N := some 17) #[T, F, F, F, F, F, F, F, F, F] rfl HT_.out ?_
    refine pr_ (i := 1) (N := some 18) #[T, T, F, F, F, F, F, F, F, F] rfl HT_.out ?_
    refine pr_ (i := 2) (N := some 19) #[T, T, T, F, F, F, F, F, F, F] rfl HT_.out ?_
    refine pr_ (i := 4) (N := some 21) #[T, T, T, F, T, F, F, F, F, F] rfl HT_.out ?_
    refine pr_ (i := 5) (N := some 22) #[T, T, T, F, T, T, F, F, F, F] rfl HT_.out ?_
    refine pr_ (i := 6) (N := some 23) #[T, T, T, F, T, T, T, F, F, F] rfl HT_.out ?_
    refine tk_ (i := 3) (N := some 20) #[T, T, T, T, T, T, T, F, F, F] rfl HT_.out HW_.out hHeld ?_
    refine tk_ (i := 7) (N := some 24) #[T, T, T, T, T, T, T, T, F, F] rfl HT_.out HW_.out hHeld ?_
    refine ot_ (i := 8) (N := some 25) #[T, T, T, T, T, T, T, T, T, F] rfl HT_.out (fun K hK => ?_)
    refine gz_ Try.func15 #[.agg #[.int .i64 ((rd_T38 l0 x5_1).f0), .int .i64 ((rd_T38 l0 x5_1).f1), .int .i64 ((rd_T38 l0 x5_1).f2), .int .i64 ((rd_T38 l0 x5_1).f3), .int .i64 ((rd_T38 l0 x5_1).f4), .int .i64 ((rd_T38 l0 x5_1).f5), .int .i64 ((rd_T38 l0 x5_1).f6), .slice A140_7 ((rd_T38 l0 x5_1).f7).length c140_7], .agg #[.int .i64 ((rd_T38 l1 x5_1).f0), .int .i64 ((rd_T38 l1 x5_1).f1), .int .i64 ((rd_T38 l1 x5_1).f2), .int .i64 ((rd_T38 l1 x5_1).f3), .int .i64 ((rd_T38 l1 x5_1).f4), .int .i64 ((rd_T38 l1 x5_1).f5), .int .i64 ((rd_T38 l1 x5_1).f6), .slice A141_7 ((rd_T38 l1 x5_1).f7).length c141_7]] ?_
    with_reducible refine (laws_eqPacket.calls k1 ((rd_T38 l0 x5_1).f0) ((rd_T38 l0 x5_1).f1) ((rd_T38 l0 x5_1).f2) ((rd_T38 l0 x5_1).f3) ((rd_T38 l0 x5_1).f4) ((rd_T38 l0 x5_1).f5) ((rd_T38 l0 x5_1).f6) _ _ ((rd_T38 l0 x5_1).f7) ((rd_T38 l1 x5_1).f0) ((rd_T38 l1 x5_1).f1) ((rd_T38 l1 x5_1).f2) ((rd_T38 l1 x5_1).f3) ((rd_T38 l1 x5_1).f4) ((rd_T38 l1 x5_1).f5) ((rd_T38 l1 x5_1).f6) _ _ ((rd_T38 l1 x5_1).f7) false _ ?side1 ?side2 ?side3 ?side4 A7.out).mono ?_
    (case side1 => exact cY ((Kd.C_below HR140_7.out HB.out)))
    (case side2 => exact HC140_7.out)
    (case side3 => exact cY ((Kd.C_below HR141_7.out HB.out)))
    (case side4 => exact HC141_7.out)
    rintro e w12 ⟨rfl, hb⟩
    refine ⟨_, rfl, ?_⟩
    have n0_ := A_.mk (bt_ (beY HB.out) hb)
    clear HB
    have HB := n0_
    clear n0_
    refine hK.out _ _ ⟨((HB.out.cell (wl_ w _ hw140_0)).trans hw140_0), ((HB.out.cell (wl_ w _ hw140_1)).trans hw140_1), ((HB.out.cell (wl_ w _ hw140_2)).trans hw140_2), ((HB.out.cell (wl_ w _ hw140_3)).trans hw140_3), ((HB.out.cell (wl_ w _ hw140_4)).trans hw140_4), ((HB.out.cell (wl_ w _ hw140_5)).trans hw140_5), ((HB.out.cell (wl_ w _ hw140_6)).trans hw140_6), ((HB.out.cell (wl_ w _ hw140_7)).trans hw140_7), ((HB.out.cell (wl_ w _ hw141_0)).trans hw141_0), ((HB.out.cell (wl_ w _ hw141_1)).trans hw141_1), ((HB.out.cell (wl_ w _ hw141_2)).trans hw141_2), ((HB.out.cell (wl_ w _ hw141_3)).trans hw141_3), ((HB.out.cell (wl_ w _ hw141_4)).trans hw141_4), ((HB.out.cell (wl_ w _ hw141_5)).trans hw141_5), ((HB.out.cell (wl_ w _ hw141_6)).trans hw141_6), ((HB.out.cell (wl_ w _ hw141_7)).trans hw141_7)⟩ (fun hHeld => ?_)
    clear hK K
    refine nm_ ?_
    refine pr_ (i := 9) (N := some 26) #[T, T, T, T, T, T, T, T, T, T] rfl HT_.out ?_
    refine done_ (done_of HT_.out (by kernel_rfl)) ?_
    try go_wp2
    go_ret
    exact ⟨by first | rfl | (simp [errW_none, errW_some] <;> rfl) | (simp [*, errW_none, errW_some] <;> rfl), beY HB.out⟩
   subst c8
   have H1 : (laws_eqPacketS.l0 k1 l0 l1 (wrap64 (x5_1 + 1))) = some r := by rw [if_pos rfl] at H; exact H
   clear H
   have H := H1
   clear H1
   have H' := A_.mk H
   clear H
   try go_wp2
   have n0_ := A_.mk (be_ HB.out)
   clear HB
   have HB := n0_
   clear n0_
   have p140 : 0 ≤ (x5_1 : Int) := od_
   have q140 : x5_1 < (l0.length : Int) := od_
   obtain ⟨ad140, A140_7, c140_7, e140, hx140_0, hx140_1, hx140_2, hx140_3, hx140_4, hx140_5, hx140_6, hx140_7, hl140_7, hi140_7⟩ := at_T38 HR0.out x5_1 p140 q140
   have hw140_7 := hx140_7
   have hw140_6 := hx140_6
   have hw140_5 := hx140_5
   have hw140_4 := hx140_4
   have hw140_3 := hx140_3
   have hw140_2 := hx140_2
   have hw140_1 := hx140_1
   have hw140_0 := hx140_0
   cases e140
   replace hx140_0 := (HB.out.cell (wl_ w _ hx140_0)).trans hx140_0
   replace hx140_1 := (HB.out.cell (wl_ w _ hx140_1)).trans hx140_1
   replace hx140_2 := (HB.out.cell (wl_ w _ hx140_2)).trans hx140_2
   replace hx140_3 := (HB.out.cell (wl_ w _ hx140_3)).trans hx140_3
   replace hx140_4 := (HB.out.cell (wl_ w _ hx140_4)).trans hx140_4
   replace hx140_5 := (HB.out.cell (wl_ w _ hx140_5)).trans hx140_5
   replace hx140_6 := (HB.out.cell (wl_ w _ hx140_6)).trans hx140_6
   replace hx140_7 := (HB.out.cell (wl_ w _ hx140_7)).trans hx140_7
   have HR140_7 := A_.mk hi140_7
   have HC140_7 := A_.mk hl140_7
   clear hi140_7 hl140_7
   replace p140 := eq_true p140
   replace q140 := eq_true q140
   have p141 : 0 ≤ (x5_1 : Int) := od_
   have q141 : x5_1 < (l1.length : Int) := od_
   obtain ⟨ad141, A141_7, c141_7, e141, hx141_0, hx141_1, hx141_2, hx141_3, hx141_4, hx141_5, hx141_6, hx141_7, hl141_7, hi141_7⟩ := at_T38 HR1.out x5_1 p141 q141
   have hw141_7 := hx141_7
   have hw141_6 := hx141_6
   have hw141_5 := hx141_5
   have hw141_4 := hx141_4
   have hw141_3 := hx141_3
   have hw141_2 := hx141_2
   have hw141_1 := hx141_1
   have hw141_0 := hx141_0
   cases e141
   replace hx141_0 := (HB.out.cell (wl_ w _ hx141_0)).trans hx141_0
   replace hx141_1 := (HB.out.cell (wl_ w _ hx141_1)).trans hx141_1
   replace hx141_2 := (HB.out.cell (wl_ w _ hx141_2)).trans hx141_2
   replace hx141_3 := (HB.out.cell (wl_ w _ hx141_3)).trans hx141_3
   replace hx141_4 := (HB.out.cell (wl_ w _ hx141_4)).trans hx141_4
   replace hx141_5 := (HB.out.cell (wl_ w _ hx141_5)).trans hx141_5
   replace hx141_6 := (HB.out.cell (wl_ w _ hx141_6)).trans hx141_6
   replace hx141_7 := (HB.out.cell (wl_ w _ hx141_7)).trans hx141_7
   have HR141_7 := A_.mk hi141_7
   have HC141_7 := A_.mk hl141_7
   clear hi141_7 hl141_7
   replace p141 := eq_true p141
   replace q141 := eq_true q141
   refine start_ (n := 10) (S := fun w' => w'.cell? (ad140.add ((x5_1).toNat * 8)) = some (.int .i64 ((rd_T38 l0 x5_1).f0)) ∧ w'.cell? ⟨(ad140.add ((x5_1).toNat * 8)).block, (ad140.add ((x5_1).toNat * 8)).off + 1, none⟩ = some (.int .i64 ((rd_T38 l0 x5_1).f1)) ∧ w'.cell? ⟨(ad140.add ((x5_1).toNat * 8)).block, (ad140.add ((x5_1).toNat * 8)).off + 2, none⟩ = some (.int .i64 ((rd_T38 l0 x5_1).f2)) ∧ w'.cell? ⟨(ad140.add ((x5_1).toNat * 8)).block, (ad140.add ((x5_1).toNat * 8)).off + 3, none⟩ = some (.int .i64 ((rd_T38 l0 x5_1).f3)) ∧ w'.cell? ⟨(ad140.add ((x5_1).toNat * 8)).block, (ad140.add ((x5_1).toNat * 8)).off + 4, none⟩ = some (.int .i64 ((rd_T38 l0 x5_1).f4)) ∧ w'.cell? ⟨(ad140.add ((x5_1).toNat * 8)).block, (ad140.add ((x5_1).toNat * 8)).off + 5, none⟩ = some (.int .i64 ((rd_T38 l0 x5_1).f5)) ∧ w'.cell? ⟨(ad140.add ((x5_1).toNat * 8)).block, (ad140.add ((x5_1).toNat * 8)).off + 6, none⟩ = some (.int .i64 ((rd_T38 l0 x5_1).f6)) ∧ w'.cell? ⟨(ad140.add ((x5_1).toNat * 8)).block, (ad140.add ((x5_1).toNat * 8)).off + 7, none⟩ = some (.slice A140_7 ((rd_T38 l0 x5_1).f7).length c140_7) ∧ w'.cell? (ad141.add ((x5_1).toNat * 8)) = some (.int .i64 ((rd_T38 l1 x5_1).f0)) ∧ w'.cell? ⟨(ad141.add ((x5_1).toNat * 8)).block, (ad141.add ((x5_1).toNat * 8)).off + 1, none⟩ = some (.int .i64 ((rd_T38 l1 x5_1).f1)) ∧ w'.cell? ⟨(ad141.add ((x5_1).toNat * 8)).block, (ad141.add ((x5_1).toNat * 8)).off + 2, none⟩ = some (.int .i64 ((rd_T38 l1 x5_1).f2)) ∧ w'.cell? ⟨(ad141.add ((x5_1).toNat * 8)).block, (ad141.add ((x5_1).toNat * 8)).off + 3, none⟩ = some (.int .i64 ((rd_T38 l1 x5_1).f3)) ∧ w'.cell? ⟨(ad141.add ((x5_1).toNat * 8)).block, (ad141.add ((x5_1).toNat * 8)).off + 4, none⟩ = some (.int .i64 ((rd_T38 l1 x5_1).f4)) ∧ w'.cell? ⟨(ad141.add ((x5_1).toNat * 8)).block, (ad141.add ((x5_1).toNat * 8)).off + 5, none⟩ = some (.int .i64 ((rd_T38 l1 x5_1).f5)) ∧ w'.cell? ⟨(ad141.add ((x5_1).toNat * 8)).block, (ad141.add ((x5_1).toNat * 8)).off + 6, none⟩ = some (.int .i64 ((rd_T38 l1 x5_1).f6)) ∧ w'.cell? ⟨(ad141.add ((x5_1).toNat * 8)).block, (ad141.add ((x5_1).toNat * 8)).off + 7, none⟩ = some (.slice A141_7 ((rd_T38 l1 x5_1).f7).length c141_7)) (ds := []) #[F, F, F, F, F, F, F, F, F, F] (by kernel_rfl) rfl rfl ⟨((HB.out.cell (wl_ w _ hw140_0)).trans hw140_0), ((HB.out.cell (wl_ w _ hw140_1)).trans hw140_1), ((HB.out.cell (wl_ w _ hw140_2)).trans hw140_2), ((HB.out.cell (wl_ w _ hw140_3)).trans hw140_3), ((HB.out.cell (wl_ w _ hw140_4)).trans hw140_4), ((HB.out.cell (wl_ w _ hw140_5)).trans hw140_5), ((HB.out.cell (wl_ w _ hw140_6)).trans hw140_6), ((HB.out.cell (wl_ w _ hw140_7)).trans hw140_7), ((HB.out.cell (wl_ w _ hw141_0)).trans hw141_0), ((HB.out.cell (wl_ w _ hw141_1)).trans hw141_1), ((HB.out.cell (wl_ w _ hw141_2)).trans hw141_2), ((HB.out.cell (wl_ w _ hw141_3)).trans hw141_3), ((HB.out.cell (wl_ w _ hw141_4)).trans hw141_4), ((HB.out.cell (wl_ w _ hw141_5)).trans hw141_5), ((HB.out.cell (wl_ w _ hw141_6)).trans hw141_6), ((HB.out.cell (wl_ w _ hw141_7)).trans hw141_7)⟩ (fun hHeld => ?_); refine with_tabW laws_eqPacketS.tab6 laws_eqPacketS.bits6 (fun HT_ HW_ => ?_)
   generalize wr.drew = w9 at HB HR140_7 HR141_7 hx140_0 hx140_1 hx140_2 hx140_3 hx140_4 hx140_5 hx140_6 hx140_7 hx141_0 hx141_1 hx141_2 hx141_3 hx141_4 hx141_5 hx141_6 hx141_7 hHeld ⊢
   refine pr_ (i := 0) (N := some 17) #[T, F, F, F, F, F, F, F, F, F] rfl HT_.out ?_
   refine pr_ (i := 1) (N := some 18) #[T, T, F, F, F, F, F, F, F, F] rfl HT_.out ?_
   refine pr_ (i := 2) (N := some 19) #[T, T, T, F, F, F, F, F, F, F] rfl HT_.out ?_
   refine pr_ (i := 4) (N := some 21) #[T, T, T, F, T, F, F, F, F, F] rfl HT_.out ?_
   refine pr_ (i := 5) (N := some 22) #[T, T, T, F, T, T, F, F, F, F] rfl HT_.out ?_
   refine pr_ (i := 6) (N := some 23) #[T, T, T, F, T, T, T, F, F, F] rfl HT_.out ?_
   refine tk_ (i := 3) (N := some 20) #[T, T, T, T, T, T, T, F, F, F] rfl HT_.out HW_.out hHeld ?_
   refine tk_ (i := 7) (N := some 24) #[T, T, T, T, T, T, T, T, F, F] rfl HT_.out HW_.out hHeld ?_
   refine ot_ (i := 8) (N := some 25) #[T, T, T, T, T, T, T, T, T, F] rfl HT_.out (fun K hK => ?_)
   refine gz_ Try.func15 #[.agg #[.int .i64 ((rd_T38 l0 x5_1).f0), .int .i64 ((rd_T38 l0 x5_1).f1), .int .i64 ((rd_T38 l0 x5_1).f2), .int .i64 ((rd_T38 l0 x5_1).f3), .int .i64 ((rd_T38 l0 x5_1).f4), .int .i64 ((rd_T38 l0 x5_1).f5), .int .i64 ((rd_T38 l0 x5_1).f6), .slice A140_7 ((rd_T38 l0 x5_1).f7).length c140_7], .agg #[.int .i64 ((rd_T38 l1 x5_1).f0), .int .i64 ((rd_T38 l1 x5_1).f1), .int .i64 ((rd_T38 l1 x5_1).f2), .int .i64 ((rd_T38 l1 x5_1).f3), .int .i64 ((rd_T38 l1 x5_1).f4), .int .i64 ((rd_T38 l1 x5_1).f5), .int .i64 ((rd_T38 l1 x5_1).f6), .slice A141_7 ((rd_T38 l1 x5_1).f7).length c141_7]] ?_
   with_reducible refine (laws_eqPacket.calls k1 ((rd_T38 l0 x5_1).f0) ((rd_T38 l0 x5_1).f1) ((rd_T38 l0 x5_1).f2) ((rd_T38 l0 x5_1).f3) ((rd_T38 l0 x5_1).f4) ((rd_T38 l0 x5_1).f5) ((rd_T38 l0 x5_1).f6) _ _ ((rd_T38 l0 x5_1).f7) ((rd_T38 l1 x5_1).f0) ((rd_T38 l1 x5_1).f1) ((rd_T38 l1 x5_1).f2) ((rd_T38 l1 x5_1).f3) ((rd_T38 l1 x5_1).f4) ((rd_T38 l1 x5_1).f5) ((rd_T38 l1 x5_1).f6) _ _ ((rd_T38 l1 x5_1).f7) true _ ?side1 ?side2 ?side3 ?side4 A7.out).mono ?_
   (case side1 => exact cY ((Kd.C_below HR140_7.out HB.out)))
   (case side2 => exact HC140_7.out)
   (case side3 => exact cY ((Kd.C_below HR141_7.out HB.out)))
   (case side4 => exact HC141_7.out)
   rintro e w10 ⟨rfl, hb⟩
   refine ⟨_, rfl, ?_⟩
   have n0_ := A_.mk (bt_ (beY HB.out) hb)
   clear HB
   have HB := n0_
   clear n0_
   refine hK.out _ _ ⟨((HB.out.cell (wl_ w _ hw140_0)).trans hw140_0), ((HB.out.cell (wl_ w _ hw140_1)).trans hw140_1), ((HB.out.cell (wl_ w _ hw140_2)).trans hw140_2), ((HB.out.cell (wl_ w _ hw140_3)).trans hw140_3), ((HB.out.cell (wl_ w _ hw140_4)).trans hw140_4), ((HB.out.cell (wl_ w _ hw140_5)).trans hw140_5), ((HB.out.cell (wl_ w _ hw140_6)).trans hw140_6), ((HB.out.cell (wl_ w _ hw140_7)).trans hw140_7), ((HB.out.cell (wl_ w _ hw141_0)).trans hw141_0), ((HB.out.cell (wl_ w _ hw141_1)).trans hw141_1), ((HB.out.cell (wl_ w _ hw141_2)).trans hw141_2), ((HB.out.cell (wl_ w _ hw141_3)).trans hw141_3), ((HB.out.cell (wl_ w _ hw141_4)).trans hw141_4), ((HB.out.cell (wl_ w _ hw141_5)).trans hw141_5), ((HB.out.cell (wl_ w _ hw141_6)).trans hw141_6), ((HB.out.cell (wl_ w _ hw141_7)).trans hw141_7)⟩ (fun hHeld => ?_)
   clear hK K
   refine nm_ ?_
   refine pr_ (i := 9) (N := some 26) #[T, T, T, T, T, T, T, T, T, T] rfl HT_.out ?_
   refine done_ (done_of HT_.out (by kernel_rfl)) ?_
   try go_wp2
   go_roundg k1
   case measure => have := HK1.out; omega
   case rel => exact ⟨(wrap64 (x5_1 + 1)), (by first | rfl | (simp; done) | (simp [*]; done)), H', ⟨by have := HK1.out; omega⟩, ⟨beY HB.out⟩⟩
/-! ### laws_eqChannel: function 12, its calls in a row -/
def laws_eqChannel.f (k : Nat) (l0_0 : List Int) (l0_1 : List Int) (l0_2 : List Int) (l0_3 : List Int) (l0_4 : List (S38)) (l0_5 : List (S38)) (l1_0 : List Int) (l1_1 : List Int) (l1_2 : List Int) (l1_3 : List Int) (l1_4 : List (S38)) (l1_5 : List (S38)) : Option ((Bool)) := ((laws_eqCredits.f k l0_0 l0_1 l1_0 l1_1).bind fun t1 => (if t1 = true then ((laws_eqCredits.f k l0_2 l0_3 l1_2 l1_3).bind fun t2 => (if t2 = true then ((laws_eqPacketS.f k l0_4 l1_4).bind fun t3 => (if t3 = true then ((laws_eqPacketS.f k l0_5 l1_5).bind fun t4 => (if t4 = true then (some (true)) else (some (false)))) else (some (false)))) else (some (false)))) else (some (false))))
set_option maxHeartbeats 8000000 in
set_option maxRecDepth 100000 in
theorem laws_eqChannel.calls (k : Nat) (A0_0 : Option Addr) (c0_0 : Nat) (l0_0 : List Int) (A0_1 : Option Addr) (c0_1 : Nat) (l0_1 : List Int) (A0_2 : Option Addr) (c0_2 : Nat) (l0_2 : List Int) (A0_3 : Option Addr) (c0_3 : Nat) (l0_3 : List Int) (A0_4 : Option Addr) (c0_4 : Nat) (l0_4 : List (S38)) (A0_5 : Option Addr) (c0_5 : Nat) (l0_5 : List (S38)) (A1_0 : Option Addr) (c1_0 : Nat) (l1_0 : List Int) (A1_1 : Option Addr) (c1_1 : Nat) (l1_1 : List Int) (A1_2 : Option Addr) (c1_2 : Nat) (l1_2 : List Int) (A1_3 : Option Addr) (c1_3 : Nat) (l1_3 : List Int) (A1_4 : Option Addr) (c1_4 : Nat) (l1_4 : List (S38)) (A1_5 : Option Addr) (c1_5 : Nat) (l1_5 : List (S38)) (r : Bool) (w : World) (hr0_0 : Kd.C (Kd.int .i64) w A0_0 l0_0.length l0_0) (hc0_0 : l0_0.length ≤ c0_0) (hr0_1 : Kd.C (Kd.int .i64) w A0_1 l0_1.length l0_1) (hc0_1 : l0_1.length ≤ c0_1) (hr0_2 : Kd.C (Kd.int .i64) w A0_2 l0_2.length l0_2) (hc0_2 : l0_2.length ≤ c0_2) (hr0_3 : Kd.C (Kd.int .i64) w A0_3 l0_3.length l0_3) (hc0_3 : l0_3.length ≤ c0_3) (hr0_4 : Kd.C k38 w A0_4 l0_4.length l0_4) (hc0_4 : l0_4.length ≤ c0_4) (hr0_5 : Kd.C k38 w A0_5 l0_5.length l0_5) (hc0_5 : l0_5.length ≤ c0_5) (hr1_0 : Kd.C (Kd.int .i64) w A1_0 l1_0.length l1_0) (hc1_0 : l1_0.length ≤ c1_0) (hr1_1 : Kd.C (Kd.int .i64) w A1_1 l1_1.length l1_1) (hc1_1 : l1_1.length ≤ c1_1) (hr1_2 : Kd.C (Kd.int .i64) w A1_2 l1_2.length l1_2) (hc1_2 : l1_2.length ≤ c1_2) (hr1_3 : Kd.C (Kd.int .i64) w A1_3 l1_3.length l1_3) (hc1_3 : l1_3.length ≤ c1_3) (hr1_4 : Kd.C k38 w A1_4 l1_4.length l1_4) (hc1_4 : l1_4.length ≤ c1_4) (hr1_5 : Kd.C k38 w A1_5 l1_5.length l1_5) (hc1_5 : l1_5.length ≤ c1_5) (h : laws_eqChannel.f k l0_0 l0_1 l0_2 l0_3 l0_4 l0_5 l1_0 l1_1 l1_2 l1_3 l1_4 l1_5 = some r) :
  Calls Try.prog 12 #[.agg #[.slice A0_0 l0_0.length c0_0, .slice A0_1 l0_1.length c0_1, .slice A0_2 l0_2.length c0_2, .slice A0_3 l0_3.length c0_3, .slice A0_4 l0_4.length c0_4, .slice A0_5 l0_5.length c0_5], .agg #[.slice A1_0 l1_0.length c1_0, .slice A1_1 l1_1.length c1_1, .slice A1_2 l1_2.length c1_2, .slice A1_3 l1_3.length c1_3, .slice A1_4 l1_4.length c1_4, .slice A1_5 l1_5.length c1_5]] w fun e w' => e = .returned (.bool r) ∧ Below w.heap.size w w' := by
 have HR0_0 := A_.mk hr0_0
 have HC0_0 := A_.mk hc0_0
 clear hr0_0 hc0_0
 have HR0_1 := A_.mk hr0_1
 have HC0_1 := A_.mk hc0_1
 clear hr0_1 hc0_1
 have HR0_2 := A_.mk hr0_2
 have HC0_2 := A_.mk hc0_2
 clear hr0_2 hc0_2
 have HR0_3 := A_.mk hr0_3
 have HC0_3 := A_.mk hc0_3
 clear hr0_3 hc0_3
 have HR0_4 := A_.mk hr0_4
 have HC0_4 := A_.mk hc0_4
 clear hr0_4 hc0_4
 have HR0_5 := A_.mk hr0_5
 have HC0_5 := A_.mk hc0_5
 clear hr0_5 hc0_5
 have HR1_0 := A_.mk hr1_0
 have HC1_0 := A_.mk hc1_0
 clear hr1_0 hc1_0
 have HR1_1 := A_.mk hr1_1
 have HC1_1 := A_.mk hc1_1
 clear hr1_1 hc1_1
 have HR1_2 := A_.mk hr1_2
 have HC1_2 := A_.mk hc1_2
 clear hr1_2 hc1_2
 have HR1_3 := A_.mk hr1_3
 have HC1_3 := A_.mk hc1_3
 clear hr1_3 hc1_3
 have HR1_4 := A_.mk hr1_4
 have HC1_4 := A_.mk hc1_4
 clear hr1_4 hc1_4
 have HR1_5 := A_.mk hr1_5
 have HC1_5 := A_.mk hc1_5
 clear hr1_5 hc1_5
 have HB := A_.mk (Below.refl w.heap.size w)
 unfold laws_eqChannel.f at h
 have H := h
 clear h
 replace H := oa_ H
 obtain ⟨t1, A3, H⟩ := H
 replace H := A_.mk H
 have hu33 := Try.underlying33
 go_enter Try.func12, Try.ntmps12
 have HS := A_.mk (Nat.le_refl w.heap.size)
 go_wp2_with (first | ((with_reducible refine gd_ (N := 2) rfl ?_); refine by_ 2 (cs := #[.slice A0_0 l0_0.length c0_0, .slice A0_1 l0_1.length c0_1, .slice A0_2 l0_2.length c0_2, .slice A0_3 l0_3.length c0_3, .slice A0_4 l0_4.length c0_4, .slice A0_5 l0_5.length c0_5]) (t := 33) ?_; intro gb1_ hg w1_ hbox hb; replace HS := A_.mk (And.intro HS.out (show gb1_ = w.heap.size ∧ gb1_ < w1_.heap.size from ⟨hg, blk_lt hbox⟩)); replace HB := aHB HB hb; have BK1 := A_.mk hbox; clear hbox hb hg; have Q1 := blk6_ BK1.out) | ((with_reducible refine gd_ (N := 3) rfl ?_); refine by_ 3 (cs := #[.slice A1_0 l1_0.length c1_0, .slice A1_1 l1_1.length c1_1, .slice A1_2 l1_2.length c1_2, .slice A1_3 l1_3.length c1_3, .slice A1_4 l1_4.length c1_4, .slice A1_5 l1_5.length c1_5]) (t := 33) ?_; intro gb2_ hg w2_ hbox hb; replace HS := A_.mk (And.intro HS.out (show gb2_ = w1_.heap.size ∧ gb2_ < w2_.heap.size from ⟨hg, blk_lt hbox⟩)); replace BK1 := aBb BK1 hb; replace HB := aHB HB hb; have BK2 := A_.mk hbox; clear hbox hb hg Q1; have Q1 := blk6_ BK1.out; have Q2 := blk6_ BK2.out))
 (with_reducible refine (laws_eqCredits.calls k _ _ l0_0 _ _ l0_1 _ _ l1_0 _ _ l1_1 t1 _ (Kd.C_below HR0_0.out HB.out) HC0_0.out (Kd.C_below HR0_1.out HB.out) HC0_1.out (Kd.C_below HR1_0.out HB.out) HC1_0.out (Kd.C_below HR1_1.out HB.out) HC1_1.out A3.out).mono ?_)
 rintro e w3_ ⟨rfl, hb⟩
 replace HS := aHs HS hb.size
 replace BK1 := aBb BK1 hb
 replace BK2 := aBb BK2 hb
 replace HB := aHB HB hb
 clear hb  Q1 Q2
 have Q1 := blk6_ BK1.out
 have Q2 := blk6_ BK2.out
 replace H := H.out
 by_cases hc1_ : t1 = true
 case neg =>
  rw [if_neg hc1_] at H
  replace hc1_ := eq_false_of_ne_true hc1_
  subst hc1_
  replace H := Option.some.inj H
  subst H
  go_wp2
  go_ret
  exact ⟨rfl, HB.out⟩
 rw [if_pos hc1_] at H
 subst hc1_
 replace H := oa_ H
 obtain ⟨t2, A4, H⟩ := H
 replace H := A_.mk H
 go_wp2_with (fail)
 (with_reducible refine (laws_eqCredits.calls k _ _ l0_2 _ _ l0_3 _ _ l1_2 _ _ l1_3 t2 _ (Kd.C_below HR0_2.out HB.out) HC0_2.out (Kd.C_below HR0_3.out HB.out) HC0_3.out (Kd.C_below HR1_2.out HB.out) HC1_2.out (Kd.C_below HR1_3.out HB.out) HC1_3.out A4.out).mono ?_)
 rintro e w4_ ⟨rfl, hb⟩
 replace HS := aHs HS hb.size
 replace BK1 := aBb BK1 hb
 replace BK2 := aBb BK2 hb
 replace HB := aHB HB hb
 clear hb  Q1 Q2
 have Q1 := blk6_ BK1.out
 have Q2 := blk6_ BK2.out
 replace H := H.out
 by_cases hc2_ : t2 = true
 case neg =>
  rw [if_neg hc2_] at H
  replace hc2_ := eq_false_of_ne_true hc2_
  subst hc2_
  replace H := Option.some.inj H
  subst H
  go_wp2
  go_ret
  exact ⟨rfl, HB.out⟩
 rw [if_pos hc2_] at H
 subst hc2_
 replace H := oa_ H
 obtain ⟨t3, A5, H⟩ := H
 replace H := A_.mk H
 go_wp2_with (fail)
 (with_reducible refine (laws_eqPacketS.calls k _ _ l0_4 _ _ l1_4 t3 _ (Kd.C_below HR0_4.out HB.out) HC0_4.out (Kd.C_below HR1_4.out HB.out) HC1_4.out A5.out).mono ?_)
 rintro e w5_ ⟨rfl, hb⟩
 replace HS := aHs HS hb.size
 replace BK1 := aBb BK1 hb
 replace BK2 := aBb BK2 hb
 replace HB := aHB HB hb
 clear hb  Q1 Q2
 have Q1 := blk6_ BK1.out
 have Q2 := blk6_ BK2.out
 replace H := H.out
 by_cases hc3_ : t3 = true
 case neg =>
  rw [if_neg hc3_] at H
  replace hc3_ := eq_false_of_ne_true hc3_
  subst hc3_
  replace H := Option.some.inj H
  subst H
  go_wp2
  go_ret
  exact ⟨rfl, HB.out⟩
 rw [if_pos hc3_] at H
 subst hc3_
 replace H := oa_ H
 obtain ⟨t4, A6, H⟩ := H
 replace H := A_.mk H
 go_wp2_with (fail)
 (with_reducible refine (laws_eqPacketS.calls k _ _ l0_5 _ _ l1_5 t4 _ (Kd.C_below HR0_5.out HB.out) HC0_5.out (Kd.C_below HR1_5.out HB.out) HC1_5.out A6.out).mono ?_)
 rintro e w6_ ⟨rfl, hb⟩
 replace HS := aHs HS hb.size
 replace BK1 := aBb BK1 hb
 replace BK2 := aBb BK2 hb
 replace HB := aHB HB hb
 clear hb  Q1 Q2
 have Q1 := blk6_ BK1.out
 have Q2 := blk6_ BK2.out
 replace H := H.out
 by_cases hc4_ : t4 = true
 case pos =>
  rw [if_pos hc4_] at H
  subst hc4_
  replace H := Option.some.inj H
  subst H
  go_wp2
  go_ret
  exact ⟨rfl, HB.out⟩
 rw [if_neg hc4_] at H
 replace hc4_ := eq_false_of_ne_true hc4_
 subst hc4_
 replace H := Option.some.inj H
 subst H
 go_wp2
 go_ret
 exact ⟨rfl, HB.out⟩
/-! ### laws_markIntS: function 58 -/
def laws_markIntS.l0 : Nat → List Int → Int → Int → Option (Int × List Int)
 | 0, _, _, _ => none
 | k + 1, x0, x1, x5 => if x5 < (x0.length : Int) then (if 0 ≤ x5 then (laws_markIntS.l0 k (x0.set (x5 : Int).toNat x1) (wrap64 (x1 + 1)) (wrap64 (x5 + 1))) else (none)) else (some (x1, x0))
def laws_markIntS.f (k : Nat) (l0 : List Int) (a1 : Int) : Option (Int × List Int) := laws_markIntS.l0 k l0 a1 0
set_option maxHeartbeats 8000000 in
set_option maxRecDepth 100000 in
theorem laws_markIntS.calls (k : Nat) (P0_ : Nat → Prop) (u9000_ : Value) (l0 : List Int) (a1 : Int) (r1 : Int) (r2 : List Int) (w0 w : World) (hB : Below w0.heap.size w0 w) (ho0 : Kd.R (Kd.int .i64) 3 w w0.heap.size P0_ u9000_ l0) (h : laws_markIntS.f k l0 a1 = some (r1, r2)) :
  Calls Try.prog 58 #[u9000_, .int .i64 a1] w fun e w' => e = .returned (.int .i64 r1) ∧ Kd.R (Kd.int .i64) 3 w' w0.heap.size (fun k_ => (P0_ k_ ∨ w.heap.size ≤ k_)) u9000_ r2 ∧ Below w0.heap.size w0 w' ∧ Kept w w' (fun k_ => P0_ k_) := by
 have HO0 := A_.mk (show Kd.R (Kd.int .i64) 3 w w0.heap.size (fun k_ => (P0_ k_ ∨ w.heap.size ≤ k_)) u9000_ l0 from Kd.R_mono ho0 (fun k_ hk => (.inl hk)))
 have HK := A_.mk (Kept.refl w (fun k_ => P0_ k_))
 have HW0 := A_.mk hB.size
 have HB := A_.mk hB
 clear hB
 have H : (laws_markIntS.l0 k l0 a1 0) = some (r1, r2) := h
 clear h
 have H' := A_.mk H
 clear H
 go_enter Try.func58, Try.ntmps58
 go_wp2
 go_loopg [1, 5] k (fun kq v1 v5 w' => ∃ (x0_1 : List Int) (x1_1 : Int) (x5_1 : Int), v1 = .int .i64 x1_1 ∧ v5 = .int .i64 x5_1 ∧ A_ (laws_markIntS.l0 kq x0_1 x1_1 x5_1 = some (r1, r2)) ∧ A_ (kq ≤ k) ∧ A_ (Kd.R (Kd.int .i64) 3 w' w0.heap.size (fun k_ => (P0_ k_ ∨ w.heap.size ≤ k_)) u9000_ x0_1) ∧ A_ (Kept w w' (fun k_ => P0_ k_)) ∧ A_ (Below w0.heap.size w0 w'))
 case atStart => exact ⟨(l0), (a1), (0), (by first | rfl | (simp; done) | (simp [*]; done)), (by first | rfl | (simp; done) | (simp [*]; done)), H', ⟨Nat.le_refl _⟩, ⟨by (repeat apply rX); exact HO0.out⟩, ⟨by repeat (first | (with_reducible first | exact HK.out | apply Kept.alloc | apply Kept.drewN | apply Kept.drew) | exact HK.out)⟩, ⟨beY HB.out⟩⟩
 case round =>
  clear H'
  obtain ⟨x0_1, x1_1, x5_1, rfl, rfl, HA, HK1, HO_0, HK, HB⟩ := hrel
  cases gk with
  | zero => exact absurd HA.out (by simp [laws_markIntS.l0])
  | succ k1 =>
   have H := HA.out
   clear HA
   simp only [laws_markIntS.l0] at H
   by_cases c3 : x5_1 < (x0_1.length : Int)
   rotate_left
   ·rw [if_neg c3] at H
    have c3b0 : decide (x5_1 < (x0_1.length : Int)) = false := decide_eq_false c3
    clear c3
    simp only [Option.some.injEq, Prod.mk.injEq] at H
    obtain ⟨rfl, rfl⟩ := H
    obtain ⟨Ao9, co9, eo9⟩ := Kd.R_slice HO_0.out
    subst eo9
    go_wp2
    go_ret
    exact ⟨by first | rfl | (simp [errW_none, errW_some] <;> rfl) | (simp [*, errW_none, errW_some] <;> rfl), by (repeat apply rX); exact HO_0.out, by repeat (first | (with_reducible first | exact HB.out | apply ba_ | apply bd_ | apply be_) | exact HB.out), by repeat (first | (with_reducible first | exact HK.out | apply Kept.alloc | apply Kept.drewN | apply Kept.drew) | exact HK.out)⟩
   rw [if_pos c3] at H
   have c3b0 : decide (x5_1 < (x0_1.length : Int)) = true := decide_eq_true c3
   clear c3
   by_cases c4 : 0 ≤ x5_1
   rotate_left
   ·rw [if_neg c4] at H
    exact absurd H (by simp)
   rw [if_pos c4] at H
   have c4b0 : decide (0 ≤ x5_1) = true := decide_eq_true c4
   clear c4
   obtain ⟨y143, hy143⟩ : ∃ y_ : List Int, y_ = (x0_1.set (x5_1 : Int).toNat x1_1) := ⟨_, rfl⟩
   replace H : (laws_markIntS.l0 k1 y143 (wrap64 (x1_1 + 1)) (wrap64 (x5_1 + 1))) = some (r1, r2) := by first | (rw [hy143]; with_reducible exact H) | (have H2_ := (Option.bind_some _ _).symm.trans H; rw [hy143]; with_reducible exact H2_) | (have H2_ := (Option.bind_some _ _).symm.trans H; with_reducible exact H2_) | with_reducible exact H | (rw [hy143]; exact H) | exact H
   have Ny143 := A_.mk hy143
   clear hy143
   have H' := A_.mk H
   clear H
   obtain ⟨Ao6, co6, eo6⟩ := Kd.R_slice HO_0.out
   subst eo6
   have p5 : 0 ≤ (x5_1 : Int) := od_
   have q5 : (x5_1 : Int) < ((x0_1.length : Int) : Int) := od_
   obtain ⟨go5, co5, eo5, gb5, gl5, cl5, HG5⟩ := Kd.R_form HO_0.out (by omega)
   (first | cases eo5 | (injection eo5 with ea_ en_ ec_; (first | subst ea_ | (injection ea_ with ea_; subst ea_)); subst ec_; clear en_))
   have GB5 := A_.mk gb5
   have GG5 := A_.mk HG5
   clear gb5 gl5 HG5
   have HMgo5 := A_.mk (show (P0_ go5 ∨ w.heap.size ≤ go5) from (HO_0.out.1 _ rfl))
   obtain ⟨hx5_0, hf5_0⟩ := Kd.R_celln 0 HO_0.out (x5_1 : Int) p5 q5
   replace p5 := eq_true p5
   replace q5 := eq_true q5
   have HP7 := Kd.R_putg HO_0.out (x5_1 : Int) x1_1
   go_wp2_with (first | ((with_reducible refine gs_ (t := 3) (p := 15) rfl ?_); refine se_ (t := 3) (p := 15) (v := ?vo_w8) (w1 := (wr.setCell ⟨go5, (x5_1 : Int).toNat, none⟩ (.int .i64 x1_1))) ?hg ?ho ?hn ?hr ?_; (case ho => rfl); (case hg => rfl); (case hn => rfl); (case hr => first | (go_simp; done) | (go_simp; rfl)); intro w8 hw; have hg : wr.grownBy w8 (some go5) := (by rw [hw]; exact HP7.2); have hp_ : Kd.R (Kd.int .i64) 3 w8 w0.heap.size (fun k_ => (P0_ k_ ∨ w.heap.size ≤ k_)) (.slice (some ⟨go5, 0, none⟩) x0_1.length co6) y143 := (by rw [hw, Ny143.out]; exact HP7.1); clear HP7; have n0_ := A_.mk (hp_); have n1_ := A_.mk ((by rw [hw]; exact bs_ (HB.out) GB5.out : Below w0.heap.size w0 w8)); have n2_ := A_.mk (Kept.of_grown (S := (fun k_ => P0_ k_)) hg (by repeat (first | (with_reducible first | exact HK.out | apply Kept.alloc | apply Kept.drewN | apply Kept.drew) | exact HK.out)) (fun k_ e_ => (HO_0.out.1 k_ e_))); clear HO_0 HB HK; have HO_0 := n0_; have HB := n1_; have HK := n2_; clear n0_ n1_ n2_ hg hw hp_))
   go_roundg k1
   case measure => have := HK1.out; omega
   case rel => exact ⟨(y143), (wrap64 (x1_1 + 1)), (wrap64 (x5_1 + 1)), (by first | rfl | (simp; done) | (simp [*]; done)), (by first | rfl | (simp; done) | (simp [*]; done)), H', ⟨by have := HK1.out; omega⟩, ⟨by (repeat apply rX); exact HO_0.out⟩, ⟨by repeat (first | (with_reducible first | exact HK.out | apply Kept.alloc | apply Kept.drewN | apply Kept.drew) | exact HK.out)⟩, ⟨beY HB.out⟩⟩
/-! ### laws_markCredits: function 56 -/
def laws_markCredits.f (k : Nat) (l0_0 : List Int) (l0_1 : List Int) (a1 : Int) : Option (Int × List Int × List Int) := (laws_markIntS.f k l0_0 a1).bind fun bt145 => ((laws_markIntS.f k l0_1 bt145.1).bind fun bt147 => (some (bt147.1, bt145.2, bt147.2)))
set_option maxHeartbeats 8000000 in
set_option maxRecDepth 100000 in
theorem laws_markCredits.calls (k : Nat) (P0_0_ : Nat → Prop) (u9000_ : Value) (l0_0 : List Int) (P0_1_ : Nat → Prop) (u9001_ : Value) (l0_1 : List Int) (a1 : Int) (r1 : Int) (r2 : List Int) (r3 : List Int) (w0 w : World) (hB : Below w0.heap.size w0 w) (ho0_0 : Kd.R (Kd.int .i64) 3 w w0.heap.size P0_0_ u9000_ l0_0) (hp0_0_0_1 : ∀ k_, P0_0_ k_ → ¬ P0_1_ k_) (ho0_1 : Kd.R (Kd.int .i64) 3 w w0.heap.size P0_1_ u9001_ l0_1) (hp0_1_0_0 : ∀ k_, P0_1_ k_ → ¬ P0_0_ k_) (h : laws_markCredits.f k l0_0 l0_1 a1 = some (r1, r2, r3)) :
  Calls Try.prog 56 #[.agg #[u9000_, u9001_], .int .i64 a1] w fun e w' => e = .returned (.int .i64 r1) ∧ Kd.R (Kd.int .i64) 3 w' w0.heap.size (fun k_ => ((P0_0_ k_ ∨ P0_1_ k_) ∨ w.heap.size ≤ k_)) u9000_ r2 ∧ Kd.R (Kd.int .i64) 3 w' w0.heap.size (fun k_ => ((P0_0_ k_ ∨ P0_1_ k_) ∨ w.heap.size ≤ k_)) u9001_ r3 ∧ Below w0.heap.size w0 w' ∧ Kept w w' (fun k_ => P0_0_ k_ ∨ P0_1_ k_) := by
 have hu30 := Try.underlying30
 have HO0_0 := A_.mk (show Kd.R (Kd.int .i64) 3 w w0.heap.size (fun k_ => ((P0_0_ k_ ∨ P0_1_ k_) ∨ w.heap.size ≤ k_) ∧ some k_ ≠ (u9001_ : Value).ownBlock) u9000_ l0_0 from Kd.R_mono ho0_0 (fun k_ hk => ⟨(.inl (.inl hk)), fun e_ => hp0_0_0_1 k_ hk (ho0_1.1 k_ e_.symm)⟩))
 have HO0_1 := A_.mk (show Kd.R (Kd.int .i64) 3 w w0.heap.size (fun k_ => ((P0_0_ k_ ∨ P0_1_ k_) ∨ w.heap.size ≤ k_) ∧ some k_ ≠ (u9000_ : Value).ownBlock) u9001_ l0_1 from Kd.R_mono ho0_1 (fun k_ hk => ⟨(.inl (.inr hk)), fun e_ => hp0_1_0_0 k_ hk (ho0_0.1 k_ e_.symm)⟩))
 have HK := A_.mk (Kept.refl w (fun k_ => P0_0_ k_ ∨ P0_1_ k_))
 have HW0 := A_.mk hB.size
 have HB := A_.mk hB
 clear hB
 have H : ((laws_markIntS.f k l0_0 a1).bind fun bt145 => ((laws_markIntS.f k l0_1 bt145.1).bind fun bt147 => (some (bt147.1, bt145.2, bt147.2)))) = some (r1, r2, r3) := h
 clear h
 replace H := ob_ H
 obtain ⟨⟨t145, t146⟩, A30, H⟩ := H
 replace H : ((laws_markIntS.f k l0_1 t145).bind fun bt147 => (some (bt147.1, t146, bt147.2))) = some (r1, r2, r3) := H
 have A3 := A_.mk A30
 clear A30
 replace H := ob_ H
 obtain ⟨⟨t147, t148⟩, A40, H⟩ := H
 replace H : (some (t147, t146, t148)) = some (r1, r2, r3) := H
 have A4 := A_.mk A40
 clear A40
 simp only [Option.some.injEq, Prod.mk.injEq] at H
 obtain ⟨rfl, rfl, rfl⟩ := H
 obtain ⟨Ao5, co5, eo5⟩ := Kd.R_slice HO0_0.out
 subst eo5
 obtain ⟨Ao6, co6, eo6⟩ := Kd.R_slice HO0_1.out
 subst eo6
 go_enter Try.func56, Try.ntmps56
 go_wp2_with (first | ((with_reducible refine gd_ (N := 2) rfl ?_); refine by_ 2 (cs := #[.slice Ao5 l0_0.length co5, .slice Ao6 l0_1.length co6]) (t := 30) ?_; intro gb144 hg w7 hbox hb; have n0_ := A_.mk (Kd.R_below (rY HO0_0.out) hb); have n1_ := A_.mk (Kd.R_below (rY HO0_1.out) hb); have n2_ := A_.mk (Kept.below (S := (fun k_ => P0_0_ k_ ∨ P0_1_ k_)) (by repeat (first | (with_reducible first | exact HK.out | apply Kept.alloc | apply Kept.drewN | apply Kept.drew) | exact HK.out)) hb); have n3_ := A_.mk (bt_ (beY HB.out) hb); have n4_ := A_.mk (hbox); have n5_ := A_.mk ((by rw [hg]; exact (by first | exact HK.out.1 | exact (show Kept w _ (fun k_ => P0_0_ k_ ∨ P0_1_ k_) from by repeat (first | (with_reducible first | exact HK.out | apply Kept.alloc | apply Kept.drewN | apply Kept.drew) | exact HK.out)).1) : w.heap.size ≤ gb144)); have n6_ := A_.mk ((by rw [hg]; exact (bz_ (beY HB.out)) : w0.heap.size ≤ gb144)); clear HO0_0 HO0_1 HK HB; have HO0_0 := n0_; have HO0_1 := n1_; have HK := n2_; have HB := n3_; have BK144 := n4_; have GW144 := n5_; have GE144 := n6_; clear n0_ n1_ n2_ n3_ n4_ n5_ n6_ hb hbox hg; have hcz8_0 : w7.cell? ⟨gb144, 0, none⟩ = some (.slice Ao5 l0_0.length co5) := (bc_ BK144.out 0).trans rfl; have hcz8_1 : w7.cell? ⟨gb144, 1, none⟩ = some (.slice Ao6 l0_1.length co6) := (bc_ BK144.out 1).trans rfl; have hfz8_0 := bf_ BK144.out 0; have hfz8_1 := bf_ BK144.out 1) | ((with_reducible refine gc_ (f := 58) rfl ?_); refine gl_ (some 8) Try.func58 #[.slice Ao5 l0_0.length co5, .int .i64 a1] ?_; (with_reducible refine (laws_markIntS.calls k (fun k_ => some k_ = (.slice Ao5 l0_0.length co5 : Value).ownBlock) (.slice Ao5 l0_0.length co5) l0_0 a1 t145 t146 w0 _ ?side1 ?side2 A3.out).mono ?_); (case side1 => repeat (first | (with_reducible first | exact HB.out | apply ba_ | apply bd_ | apply be_ | refine bs_ ?_ GE144.out) | exact HB.out)); (case side2 => exact Kd.R_tight rfl HO0_0.out); rintro e w9 ⟨rfl, hy0, hb, hkp⟩; refine ⟨_, rfl, ?_⟩; have n0_ := A_.mk (Kd.R_reok rfl hy0 (fun k_ e_ => HO0_0.out.1 k_ e_)); have n1_ := A_.mk (Kd.R_mono (ok' := fun k_ => ((P0_0_ k_ ∨ P0_1_ k_) ∨ w.heap.size ≤ k_) ∧ some k_ ≠ (.slice Ao5 l0_0.length co5 : Value).ownBlock) (Kd.R_keptB (HO0_1.out) hkp (fun k_ hk_ hs_ => (hk_.2) hs_)) (fun k_ hk_ => ⟨hk_.1.1, hk_.1.2⟩)); have n2_ := A_.mk (blk_kept (bY BK144.out) hkp (fun hs_ => (fun e_ => (Kd.R_ne HO0_0.out BK144.out (by decide)) e_) hs_)); have n3_ := A_.mk (Kept.then_ (S := (fun k_ => P0_0_ k_ ∨ P0_1_ k_)) (by repeat (first | (with_reducible first | exact HK.out | apply Kept.alloc | apply Kept.drewN | apply Kept.drew | refine Kept.setCell ?_ (.inr GW144.out) _) | exact HK.out)) hkp (fun k_ hs_ => (fun e_ => (HO0_0.out.1 k_ e_.symm).1) hs_)); have n4_ := A_.mk (hb); clear HO0_0 HO0_1 BK144 HK HB; have HO0_0 := n0_; have HO0_1 := n1_; have BK144 := n2_; have HK := n3_; have HB := n4_; clear n0_ n1_ n2_ n3_ n4_; (try clear hb); (try clear hkp); (try clear hy0); have hcz10_0 : w9.cell? ⟨gb144, 0, none⟩ = some (.slice Ao5 l0_0.length co5) := (bc_ BK144.out 0).trans rfl; have hcz10_1 : w9.cell? ⟨gb144, 1, none⟩ = some (.slice Ao6 l0_1.length co6) := (bc_ BK144.out 1).trans rfl; have hfz10_0 := bf_ BK144.out 0; have hfz10_1 := bf_ BK144.out 1) | ((with_reducible refine gc_ (f := 58) rfl ?_); refine gl_ (some 12) Try.func58 #[.slice Ao6 l0_1.length co6, .int .i64 t145] ?_; (with_reducible refine (laws_markIntS.calls k (fun k_ => some k_ = (.slice Ao6 l0_1.length co6 : Value).ownBlock) (.slice Ao6 l0_1.length co6) l0_1 t145 t147 t148 w0 _ ?side1 ?side2 A4.out).mono ?_); (case side1 => repeat (first | (with_reducible first | exact HB.out | apply ba_ | apply bd_ | apply be_ | refine bs_ ?_ GE144.out) | exact HB.out)); (case side2 => exact Kd.R_tight rfl HO0_1.out); rintro e w11 ⟨rfl, hy0, hb, hkp⟩; refine ⟨_, rfl, ?_⟩; have n0_ := A_.mk (Kd.R_mono (ok' := fun k_ => ((P0_0_ k_ ∨ P0_1_ k_) ∨ w.heap.size ≤ k_) ∧ some k_ ≠ (.slice Ao6 l0_1.length co6 : Value).ownBlock) (Kd.R_keptB (HO0_0.out) hkp (fun k_ hk_ hs_ => (hk_.2) hs_)) (fun k_ hk_ => ⟨hk_.1.1, hk_.1.2⟩)); have n1_ := A_.mk (Kd.R_reok rfl hy0 (fun k_ e_ => HO0_1.out.1 k_ e_)); have n2_ := A_.mk (blk_kept (bY BK144.out) hkp (fun hs_ => (fun e_ => (Kd.R_ne HO0_1.out BK144.out (by decide)) e_) hs_)); have n3_ := A_.mk (Kept.then_ (S := (fun k_ => P0_0_ k_ ∨ P0_1_ k_)) (by repeat (first | (with_reducible first | exact HK.out | apply Kept.alloc | apply Kept.drewN | apply Kept.drew | refine Kept.setCell ?_ (.inr GW144.out) _) | exact HK.out)) hkp (fun k_ hs_ => (fun e_ => (HO0_1.out.1 k_ e_.symm).1) hs_)); have n4_ := A_.mk (hb); clear HO0_0 HO0_1 BK144 HK HB; have HO0_0 := n0_; have HO0_1 := n1_; have BK144 := n2_; have HK := n3_; have HB := n4_; clear n0_ n1_ n2_ n3_ n4_; (try clear hb); (try clear hkp); (try clear hy0)))
 go_ret
 exact ⟨by first | rfl | (simp [errW_none, errW_some] <;> rfl) | (simp [*, errW_none, errW_some] <;> rfl), by (repeat apply rX); exact Kd.R_mono HO0_0.out (fun _ hk => hk.1), by (repeat apply rX); exact Kd.R_mono HO0_1.out (fun _ hk => hk.1), by repeat (first | (with_reducible first | exact HB.out | apply ba_ | apply bd_ | apply be_ | refine bs_ ?_ GE144.out) | exact HB.out), by repeat (first | (with_reducible first | exact HK.out | apply Kept.alloc | apply Kept.drewN | apply Kept.drew | refine Kept.setCell ?_ (.inr GW144.out) _) | exact HK.out)⟩
end Go.Proofs.Ytlombfmebinjbaa.PFnExactTellCredits
