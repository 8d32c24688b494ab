-- Written by a program of this session (wip/xp): not trusted, Lean checks it.
import Derived.Test.YtflopendlbciaaaPFnLinkOncex0
import Derived.Test.YtflopendlbciaaaPFnLinkOncex3
namespace Go.Proofs.Ytflopendlbciaaa.PFnLinkOnce
open Go.RowKit Go.Proofs.YtflopendlbciaaaW.PrintWords Go.Proofs.YtflopendlbciaaaW.PrintLast Go.Proofs.YtflopendlbciaaaW.PrintMore
attribute [local go_sem] max2_int min2_int max_two min_two max_three min_three max_four min_four   -- for this text's walks alone
set_option linter.unusedVariables false
set_option linter.unusedSimpArgs false

/-! ### impl_SenderOk: function 25 -/
mutual
def impl_SenderOk.j0 : Nat → Int → Bool → Int → List (S68) → Int → Option (Bool)
 | 0, _, _, _, _, _ => none
 | k + 1, x3, x23, x214000, x214001, x214002 => if x23 = true then (some false) else (impl_SenderOk.l0 k x3 x214001 (x214001.length : Int) 0 x214000 x214001 x214002)
def impl_SenderOk.l0 : Nat → Int → List (S68) → Int → Int → Int → List (S68) → Int → Option (Bool)
 | 0, _, _, _, _, _, _, _ => none
 | k + 1, x3, x25, x26, x27, x214000, x214001, x214002 => if x27 < x26 then (if 0 ≤ x27 then (if x27 < (x25.length : Int) then ((impl_SeqDistance.f ((rd_T68 x25 x27).f0) x214000).bind fun t218 => (if t218 = (wrap64 (x3 - x27)) then ((impl_AreBytes.f k ((rd_T68 x25 x27).f1)).bind fun t219 => (if t219 = true then (impl_SenderOk.l0 k x3 x25 x26 (wrap64 (x27 + 1)) x214000 x214001 x214002) else (some false))) else (some false))) else (none)) else (none)) else (some true)
end
def impl_SenderOk.f (k : Nat) (a0_0 : Int) (l0_1 : List (S68)) (a0_2 : Int) : Option (Bool) := (impl_IsSeq.f a0_0).bind fun t214 => (if t214 = true then (if (l0_1.length : Int) > 7 then (impl_SenderOk.j0 k (l0_1.length : Int) true a0_0 l0_1 a0_2) else ((impl_within.f a0_2 0 (l0_1.length : Int)).bind fun t215 => (impl_SenderOk.j0 k (l0_1.length : Int) (!t215) a0_0 l0_1 a0_2))) else (impl_SenderOk.j0 k (l0_1.length : Int) true a0_0 l0_1 a0_2))
set_option maxHeartbeats 8000000 in
set_option maxRecDepth 100000 in
theorem impl_SenderOk.calls (k : Nat) (a0_0 : Int) (A0_1 : Option Addr) (c0_1 : Nat) (l0_1 : List (S68)) (a0_2 : Int) (r : Bool) (w : World) (hr0_1 : Kd.C k68 w A0_1 l0_1.length l0_1) (hc0_1 : l0_1.length ≤ c0_1) (h : impl_SenderOk.f k a0_0 l0_1 a0_2 = some r) :
  Calls Try.prog 25 #[.agg #[.int .i64 a0_0, .slice A0_1 l0_1.length c0_1, .int .i64 a0_2]] w fun e w' => e = .returned (.bool r) ∧ Below w.heap.size w w' := by
 have hu28 := Try.underlying28
 have hu68 := Try.underlying68
 have HR0_1 := A_.mk hr0_1
 have HC0_1 := A_.mk hc0_1
 clear hr0_1 hc0_1
 have HB := A_.mk (Below.refl w.heap.size w)
 have H : ((impl_IsSeq.f a0_0).bind fun t214 => (if t214 = true then (if (l0_1.length : Int) > 7 then (impl_SenderOk.j0 k (l0_1.length : Int) true a0_0 l0_1 a0_2) else ((impl_within.f a0_2 0 (l0_1.length : Int)).bind fun t215 => (impl_SenderOk.j0 k (l0_1.length : Int) (!t215) a0_0 l0_1 a0_2))) else (impl_SenderOk.j0 k (l0_1.length : Int) true a0_0 l0_1 a0_2))) = some r := h
 clear h
 have HC2 := A_.mk H
 clear H
 go_enter Try.func25, Try.ntmps25
 go_upto_region 2 with (first | ((with_reducible refine gd_ (N := 1) rfl ?_); refine by_ 1 (cs := #[.int .i64 a0_0, .slice A0_1 l0_1.length c0_1, .int .i64 a0_2]) (t := 28) ?_; intro gb213 hg w3 hbox hb; have n0_ := A_.mk (bt_ (beY HB.out) hb); have n1_ := A_.mk (hbox); have n2_ := A_.mk ((by rw [hg]; exact (bz_ (beY HB.out)) : w.heap.size ≤ gb213)); have n3_ := A_.mk ((by rw [hg]; exact (bz_ (beY HB.out)) : w.heap.size ≤ gb213)); clear HB; have HB := n0_; have BK213 := n1_; have GW213 := n2_; have GE213 := n3_; clear n0_ n1_ n2_ n3_ hb hbox hg; have hcz4_0 : w3.cell? ⟨gb213, 0, none⟩ = some (.int .i64 a0_0) := (bc_ BK213.out 0).trans rfl; have hcz4_1 : w3.cell? ⟨gb213, 1, none⟩ = some (.slice A0_1 l0_1.length c0_1) := (bc_ BK213.out 1).trans rfl; have hcz4_2 : w3.cell? ⟨gb213, 2, none⟩ = some (.int .i64 a0_2) := (bc_ BK213.out 2).trans rfl; have hfz4_0 := bf_ BK213.out 0; have hfz4_1 := bf_ BK213.out 1; have hfz4_2 := bf_ BK213.out 2))
 (try simp only [Act.put, List.setIfInBounds_toArray, List.set_cons_zero, List.set_cons_succ])
 go_cut [23] (fun v23 wc => ∃ (kq : Nat) (x23_1 : Bool), v23 = .bool x23_1 ∧ A_ (impl_SenderOk.j0 kq (l0_1.length : Int) x23_1 a0_0 l0_1 a0_2 = some r) ∧ A_ (kq ≤ k) ∧ A_ (wc.heap[gb213]? = some (.cells #[.int .i64 a0_0, (.slice A0_1 l0_1.length c0_1), .int .i64 a0_2] 28 (0, 0))) ∧ A_ (Below w.heap.size w wc))
 case first =>
  have H := HC2.out
  clear HC2
  replace H := ob_ H
  obtain ⟨t214, A50, H⟩ := H
  have A5 := A_.mk A50
  clear A50
  by_cases c6 : t214 = true
  rotate_left
  ·replace c6 := Bool.eq_false_iff.mpr c6
   subst c6
   have H1 : (impl_SenderOk.j0 k (l0_1.length : Int) true a0_0 l0_1 a0_2) = some r := by rw [if_neg (show ¬ (false = true) by decide)] at H; exact H
   clear H
   have H := H1
   clear H1
   have H' := A_.mk H
   clear H
   obtain ⟨hcz11_0, hcz11_1, hcz11_2, hfz11_0, hfz11_1, hfz11_2⟩ := b3 BK213.out
   go_wp2_with (first | ((with_reducible refine gc_ (f := 30) rfl ?_); refine gl_ (some 11) Try.func30 #[.int .i64 a0_0] ?_; (with_reducible refine (impl_IsSeq.calls a0_0 false _ A5.out).mono ?_); rintro e w' ⟨rfl, ⟨nd, rfl⟩⟩; refine ⟨_, rfl, ?_⟩))
   go_meet
   case rel => exact ⟨_, (true), (by first | rfl | (simp; done) | (simp [*]; done)), H', ⟨by first | omega | exact Nat.le_refl _⟩, ⟨by (repeat apply bX); exact BK213.out⟩, ⟨by repeat (first | (with_reducible first | exact HB.out | apply ba_ | apply bd_ | apply be_ | refine bs_ ?_ GE213.out) | exact HB.out)⟩⟩
  subst c6
  have H1 : (if (l0_1.length : Int) > 7 then (impl_SenderOk.j0 k (l0_1.length : Int) true a0_0 l0_1 a0_2) else ((impl_within.f a0_2 0 (l0_1.length : Int)).bind fun t215 => (impl_SenderOk.j0 k (l0_1.length : Int) (!t215) a0_0 l0_1 a0_2))) = some r := by rw [if_pos rfl] at H; exact H
  clear H
  have H := H1
  clear H1
  by_cases c7 : (l0_1.length : Int) > 7
  ·rw [if_pos c7] at H
   have c7b0 : decide (7 < (l0_1.length : Int)) = true := decide_eq_true c7
   have c7b1 : decide (7 < l0_1.length) = true := decide_eq_true (by omega)
   clear c7
   (first | rw [c7b0] | (simp only [i64_w, i32_w]; rw [c7b0]) | skip)
   have H' := A_.mk H
   clear H
   obtain ⟨hcz8_0, hcz8_1, hcz8_2, hfz8_0, hfz8_1, hfz8_2⟩ := b3 BK213.out
   go_wp2_with (first | ((with_reducible refine gc_ (f := 30) rfl ?_); refine gl_ (some 11) Try.func30 #[.int .i64 a0_0] ?_; (with_reducible refine (impl_IsSeq.calls a0_0 true _ A5.out).mono ?_); rintro e w' ⟨rfl, ⟨nd, rfl⟩⟩; refine ⟨_, rfl, ?_⟩))
   go_meet
   case rel => exact ⟨_, (true), (by first | rfl | (simp; done) | (simp [*]; done)), H', ⟨by first | omega | exact Nat.le_refl _⟩, ⟨by (repeat apply bX); exact BK213.out⟩, ⟨by repeat (first | (with_reducible first | exact HB.out | apply ba_ | apply bd_ | apply be_ | refine bs_ ?_ GE213.out) | exact HB.out)⟩⟩
  rw [if_neg c7] at H
  have c7b0 : decide (7 < (l0_1.length : Int)) = false := decide_eq_false c7
  have c7b1 : decide (7 < l0_1.length) = false := decide_eq_false (by omega)
  clear c7
  (first | rw [c7b0] | (simp only [i64_w, i32_w]; rw [c7b0]) | skip)
  replace H := ob_ H
  obtain ⟨t215, A90, H⟩ := H
  have A9 := A_.mk A90
  clear A90
  have H' := A_.mk H
  clear H
  obtain ⟨hcz10_0, hcz10_1, hcz10_2, hfz10_0, hfz10_1, hfz10_2⟩ := b3 BK213.out
  go_wp2_with (first | ((with_reducible refine gc_ (f := 30) rfl ?_); refine gl_ (some 11) Try.func30 #[.int .i64 a0_0] ?_; (with_reducible refine (impl_IsSeq.calls a0_0 true _ A5.out).mono ?_); rintro e w' ⟨rfl, ⟨nd, rfl⟩⟩; refine ⟨_, rfl, ?_⟩) | (go_at_call 31; (with_reducible refine (impl_within.calls a0_2 0 (l0_1.length : Int) t215 _ A9.out).mono ?_); rintro e w' ⟨rfl, ⟨nd, rfl⟩⟩))
  go_meet
  case rel => exact ⟨_, (!t215), (by first | rfl | (simp; done) | (simp [*]; done)), H', ⟨by first | omega | exact Nat.le_refl _⟩, ⟨by (repeat apply bX); exact BK213.out⟩, ⟨by repeat (first | (with_reducible first | exact HB.out | apply ba_ | apply bd_ | apply be_ | refine bs_ ?_ GE213.out) | exact HB.out)⟩⟩
 case rest =>
  clear HC2
  obtain ⟨kq, x23_1, rfl, HA, HJ1, BK213, HB⟩ := hcut
  cases kq with
  | zero => exact absurd HA.out (by simp [impl_SenderOk.j0])
  | succ kj1 =>
   have H := HA.out
   clear HA
   simp only [impl_SenderOk.j0] at H
   by_cases c12 : x23_1 = true
   ·subst c12
    have H1 : (some false) = some r := by rw [if_pos rfl] at H; exact H
    clear H
    have H := H1
    clear H1
    obtain rfl := Option.some.inj H
    go_wp2
    go_ret
    exact ⟨by first | rfl | (simp [errW_none, errW_some] <;> rfl) | (simp [*, errW_none, errW_some] <;> rfl), by repeat (first | (with_reducible first | exact HB.out | apply ba_ | apply bd_ | apply be_ | refine bs_ ?_ GE213.out) | exact HB.out)⟩
   replace c12 := Bool.eq_false_iff.mpr c12
   subst c12
   have H1 : (impl_SenderOk.l0 kj1 (l0_1.length : Int) l0_1 (l0_1.length : Int) 0 a0_0 l0_1 a0_2) = some r := by rw [if_neg (show ¬ (false = true) by decide)] at H; exact H
   clear H
   have H := H1
   clear H1
   have H' := A_.mk H
   clear H
   obtain ⟨hcz13_0, hcz13_1, hcz13_2, hfz13_0, hfz13_1, hfz13_2⟩ := b3 BK213.out
   go_wp2
   go_loopg [27] kj1 (fun kq v27 w' => ∃ (x27_2 : Int), v27 = .int .i64 x27_2 ∧ A_ (impl_SenderOk.l0 kq (l0_1.length : Int) l0_1 (l0_1.length : Int) x27_2 a0_0 l0_1 a0_2 = some r) ∧ A_ (kq ≤ kj1) ∧ A_ (w'.heap[gb213]? = some (.cells #[.int .i64 a0_0, (.slice A0_1 l0_1.length c0_1), .int .i64 a0_2] 28 (0, 0))) ∧ A_ (Below w.heap.size w w'))
   case atStart => exact ⟨(0), (by first | rfl | (simp; done) | (simp [*]; done)), H', ⟨Nat.le_refl _⟩, ⟨by (repeat apply bX); exact BK213.out⟩, ⟨by repeat (first | (with_reducible first | exact HB.out | apply ba_ | apply bd_ | apply be_ | refine bs_ ?_ GE213.out) | exact HB.out)⟩⟩
   case round =>
    clear H'
    obtain ⟨x27_2, rfl, HA, HK2, BK213, HB⟩ := hrel
    cases gk with
    | zero => exact absurd HA.out (by simp [impl_SenderOk.l0])
    | succ k2 =>
     have H := HA.out
     clear HA
     simp only [impl_SenderOk.l0] at H
     by_cases c14 : x27_2 < (l0_1.length : Int)
     rotate_left
     ·rw [if_neg c14] at H
      have c14b0 : decide (x27_2 < (l0_1.length : Int)) = false := decide_eq_false c14
      clear c14
      obtain rfl := Option.some.inj H
      go_wp2
      go_ret
      exact ⟨by first | rfl | (simp [errW_none, errW_some] <;> rfl) | (simp [*, errW_none, errW_some] <;> rfl), by repeat (first | (with_reducible first | exact HB.out | apply ba_ | apply bd_ | apply be_ | refine bs_ ?_ GE213.out) | exact HB.out)⟩
     rw [if_pos c14] at H
     have c14b0 : decide (x27_2 < (l0_1.length : Int)) = true := decide_eq_true c14
     clear c14
     by_cases c15 : 0 ≤ x27_2
     rotate_left
     ·rw [if_neg c15] at H
      exact absurd H (by simp)
     rw [if_pos c15] at H
     have c15b0 : decide (0 ≤ x27_2) = true := decide_eq_true c15
     clear c15
     by_cases c16 : x27_2 < (l0_1.length : Int)
     rotate_left
     ·rw [if_neg c16] at H
      exact absurd H (by simp)
     rw [if_pos c16] at H
     have c16b0 : decide (x27_2 < (l0_1.length : Int)) = true := decide_eq_true c16
     clear c16
     replace H := ob_ H
     obtain ⟨t218, A170, H⟩ := H
     have A17 := A_.mk A170
     clear A170
     by_cases c18 : t218 = (wrap64 ((l0_1.length : Int) - x27_2))
     rotate_left
     ·rw [if_neg c18] at H
      have c18b0 : (t218 == (wrap64 ((l0_1.length : Int) - x27_2))) = false := beq_eq_false_iff_ne.mpr c18
      have c18b0w : (t218 == (IntKind.i64.wrap ((l0_1.length : Int) - x27_2))) = false := by simp only [i64_w]; exact c18b0
      have c18b1 : (t218 != (wrap64 ((l0_1.length : Int) - x27_2))) = true := bne_iff_ne.mpr c18
      have c18b1w : (t218 != (IntKind.i64.wrap ((l0_1.length : Int) - x27_2))) = true := by simp only [i64_w]; exact c18b1
      obtain rfl := Option.some.inj H
      have p216 : 0 ≤ (x27_2 : Int) := od_
      have q216 : x27_2 < (l0_1.length : Int) := od_
      obtain ⟨ad216, A216_1, c216_1, e216, hx216_0, hx216_1, hl216_1, hi216_1⟩ := at_T68 HR0_1.out x27_2 p216 q216
      cases e216
      replace hx216_0 := (HB.out.cell (wl_ w _ hx216_0)).trans hx216_0
      replace hx216_1 := (HB.out.cell (wl_ w _ hx216_1)).trans hx216_1
      have HR216_1 := A_.mk hi216_1
      have HC216_1 := A_.mk hl216_1
      clear hi216_1 hl216_1
      replace p216 := eq_true p216
      replace q216 := eq_true q216
      go_wp2_with (first | ((with_reducible refine gd_ (N := 5) rfl ?_); refine by_ 5 (cs := #[.int .i64 0, .slice none 0 0]) (t := 68) ?_; intro gb217 hg w29 hbox hb; have n0_ := A_.mk (bb_ (bY BK213.out) hb); have n1_ := A_.mk (bt_ (by repeat (first | (with_reducible first | exact HB.out | apply ba_ | apply bd_ | apply be_ | refine bs_ ?_ GE213.out) | exact HB.out)) hb); have n2_ := A_.mk (hbox); have n3_ := A_.mk ((by rw [hg]; exact (bz_ (by repeat (first | (with_reducible first | exact HB.out | apply ba_ | apply bd_ | apply be_ | refine bs_ ?_ GE213.out) | exact HB.out))) : w.heap.size ≤ gb217)); have n4_ := A_.mk ((by rw [hg]; exact (bz_ (by repeat (first | (with_reducible first | exact HB.out | apply ba_ | apply bd_ | apply be_ | refine bs_ ?_ GE213.out) | exact HB.out))) : w.heap.size ≤ gb217)); have n5_ := A_.mk ((by rw [hg]; exact Nat.ne_of_lt (blk_lt (bY BK213.out)) : gb213 ≠ gb217)); have n6_ := A_.mk ((by rw [hg]; exact Nat.ne_of_gt (blk_lt (bY BK213.out)) : gb217 ≠ gb213)); clear BK213 HB; have BK213 := n0_; have HB := n1_; have BK217 := n2_; have GW217 := n3_; have GE217 := n4_; have NB213_217 := n5_; have NB217_213 := n6_; clear n0_ n1_ n2_ n3_ n4_ n5_ n6_ hb hbox hg; have hnb30 := NB217_213.out; have hnc30 := NB213_217.out; have hcz31_0 : w29.cell? ⟨gb217, 0, none⟩ = some (.int .i64 0) := (bc_ BK217.out 0).trans rfl; have hcz31_1 : w29.cell? ⟨gb217, 1, none⟩ = some (.slice none 0 0) := (bc_ BK217.out 1).trans rfl; have hfz31_0 := bf_ BK217.out 0; have hfz31_1 := bf_ BK217.out 1; have hcz32_0 : w29.cell? ⟨gb213, 0, none⟩ = some (.int .i64 a0_0) := (bc_ BK213.out 0).trans rfl; have hcz32_1 : w29.cell? ⟨gb213, 1, none⟩ = some (.slice (some ad216) l0_1.length c0_1) := (bc_ BK213.out 1).trans rfl; have hcz32_2 : w29.cell? ⟨gb213, 2, none⟩ = some (.int .i64 a0_2) := (bc_ BK213.out 2).trans rfl; have hfz32_0 := bf_ BK213.out 0; have hfz32_1 := bf_ BK213.out 1; have hfz32_2 := bf_ BK213.out 2) | ((with_reducible refine gc_ (f := 46) rfl ?_); refine gl_ (some 36) Try.func46 #[.int .i64 ((rd_T68 l0_1 x27_2).f0), .int .i64 a0_0] ?_; (with_reducible refine (impl_SeqDistance.calls ((rd_T68 l0_1 x27_2).f0) a0_0 t218 _ A17.out).mono ?_); rintro e w' ⟨rfl, ⟨nd, rfl⟩⟩; refine ⟨_, rfl, ?_⟩))
      go_ret
      exact ⟨by first | rfl | (simp [errW_none, errW_some] <;> rfl) | (simp [*, errW_none, errW_some] <;> rfl), by repeat (first | (with_reducible first | exact HB.out | apply ba_ | apply bd_ | apply be_ | refine bs_ ?_ GE213.out | refine bs_ ?_ GE217.out) | exact HB.out)⟩
     rw [if_pos c18] at H
     have c18b0 : (t218 == (wrap64 ((l0_1.length : Int) - x27_2))) = true := beq_iff_eq.mpr c18
     have c18b0w : (t218 == (IntKind.i64.wrap ((l0_1.length : Int) - x27_2))) = true := by simp only [i64_w]; exact c18b0
     have c18b1 : (t218 != (wrap64 ((l0_1.length : Int) - x27_2))) = false := bne_eq_false_iff_eq.mpr c18
     have c18b1w : (t218 != (IntKind.i64.wrap ((l0_1.length : Int) - x27_2))) = false := by simp only [i64_w]; exact c18b1
     clear c18
     replace H := ob_ H
     obtain ⟨t219, A190, H⟩ := H
     have A19 := A_.mk A190
     clear A190
     by_cases c20 : t219 = true
     rotate_left
     ·replace c20 := Bool.eq_false_iff.mpr c20
      subst c20
      have H1 : (some false) = some r := by rw [if_neg (show ¬ (false = true) by decide)] at H; exact H
      clear H
      have H := H1
      clear H1
      obtain rfl := Option.some.inj H
      have p216 : 0 ≤ (x27_2 : Int) := od_
      have q216 : x27_2 < (l0_1.length : Int) := od_
      obtain ⟨ad216, A216_1, c216_1, e216, hx216_0, hx216_1, hl216_1, hi216_1⟩ := at_T68 HR0_1.out x27_2 p216 q216
      cases e216
      replace hx216_0 := (HB.out.cell (wl_ w _ hx216_0)).trans hx216_0
      replace hx216_1 := (HB.out.cell (wl_ w _ hx216_1)).trans hx216_1
      have HR216_1 := A_.mk hi216_1
      have HC216_1 := A_.mk hl216_1
      clear hi216_1 hl216_1
      replace p216 := eq_true p216
      replace q216 := eq_true q216
      go_wp2_with (first | ((with_reducible refine gd_ (N := 5) rfl ?_); refine by_ 5 (cs := #[.int .i64 0, .slice none 0 0]) (t := 68) ?_; intro gb217 hg w25 hbox hb; have n0_ := A_.mk (bb_ (bY BK213.out) hb); have n1_ := A_.mk (bt_ (by repeat (first | (with_reducible first | exact HB.out | apply ba_ | apply bd_ | apply be_ | refine bs_ ?_ GE213.out) | exact HB.out)) hb); have n2_ := A_.mk (hbox); have n3_ := A_.mk ((by rw [hg]; exact (bz_ (by repeat (first | (with_reducible first | exact HB.out | apply ba_ | apply bd_ | apply be_ | refine bs_ ?_ GE213.out) | exact HB.out))) : w.heap.size ≤ gb217)); have n4_ := A_.mk ((by rw [hg]; exact (bz_ (by repeat (first | (with_reducible first | exact HB.out | apply ba_ | apply bd_ | apply be_ | refine bs_ ?_ GE213.out) | exact HB.out))) : w.heap.size ≤ gb217)); have n5_ := A_.mk ((by rw [hg]; exact Nat.ne_of_lt (blk_lt (bY BK213.out)) : gb213 ≠ gb217)); have n6_ := A_.mk ((by rw [hg]; exact Nat.ne_of_gt (blk_lt (bY BK213.out)) : gb217 ≠ gb213)); clear BK213 HB; have BK213 := n0_; have HB := n1_; have BK217 := n2_; have GW217 := n3_; have GE217 := n4_; have NB213_217 := n5_; have NB217_213 := n6_; clear n0_ n1_ n2_ n3_ n4_ n5_ n6_ hb hbox hg; have hnb26 := NB217_213.out; have hnc26 := NB213_217.out; have hcz27_0 : w25.cell? ⟨gb217, 0, none⟩ = some (.int .i64 0) := (bc_ BK217.out 0).trans rfl; have hcz27_1 : w25.cell? ⟨gb217, 1, none⟩ = some (.slice none 0 0) := (bc_ BK217.out 1).trans rfl; have hfz27_0 := bf_ BK217.out 0; have hfz27_1 := bf_ BK217.out 1; have hcz28_0 : w25.cell? ⟨gb213, 0, none⟩ = some (.int .i64 a0_0) := (bc_ BK213.out 0).trans rfl; have hcz28_1 : w25.cell? ⟨gb213, 1, none⟩ = some (.slice (some ad216) l0_1.length c0_1) := (bc_ BK213.out 1).trans rfl; have hcz28_2 : w25.cell? ⟨gb213, 2, none⟩ = some (.int .i64 a0_2) := (bc_ BK213.out 2).trans rfl; have hfz28_0 := bf_ BK213.out 0; have hfz28_1 := bf_ BK213.out 1; have hfz28_2 := bf_ BK213.out 2) | ((with_reducible refine gc_ (f := 46) rfl ?_); refine gl_ (some 36) Try.func46 #[.int .i64 ((rd_T68 l0_1 x27_2).f0), .int .i64 a0_0] ?_; (with_reducible refine (impl_SeqDistance.calls ((rd_T68 l0_1 x27_2).f0) a0_0 t218 _ A17.out).mono ?_); rintro e w' ⟨rfl, ⟨nd, rfl⟩⟩; refine ⟨_, rfl, ?_⟩) | (go_at_call 47; (with_reducible refine (impl_AreBytes.calls k2 _ _ ((rd_T68 l0_1 x27_2).f1) false _ ?side1 ?side2 A19.out).mono ?_); (case side1 => exact Kd.C_below HR216_1.out (by repeat (first | (with_reducible first | exact HB.out | apply ba_ | apply bd_ | apply be_ | refine bs_ ?_ GE213.out | refine bs_ ?_ GE217.out) | exact HB.out))); (case side2 => exact HC216_1.out); rintro e w' ⟨rfl, ⟨nd, rfl⟩⟩))
      go_ret
      exact ⟨by first | rfl | (simp [errW_none, errW_some] <;> rfl) | (simp [*, errW_none, errW_some] <;> rfl), by repeat (first | (with_reducible first | exact HB.out | apply ba_ | apply bd_ | apply be_ | refine bs_ ?_ GE213.out | refine bs_ ?_ GE217.out) | exact HB.out)⟩
     subst c20
     have H1 : (impl_SenderOk.l0 k2 (l0_1.length : Int) l0_1 (l0_1.length : Int) (wrap64 (x27_2 + 1)) a0_0 l0_1 a0_2) = some r := by rw [if_pos rfl] at H; exact H
     clear H
     have H := H1
     clear H1
     have H' := A_.mk H
     clear H
     have p216 : 0 ≤ (x27_2 : Int) := od_
     have q216 : x27_2 < (l0_1.length : Int) := od_
     obtain ⟨ad216, A216_1, c216_1, e216, hx216_0, hx216_1, hl216_1, hi216_1⟩ := at_T68 HR0_1.out x27_2 p216 q216
     cases e216
     replace hx216_0 := (HB.out.cell (wl_ w _ hx216_0)).trans hx216_0
     replace hx216_1 := (HB.out.cell (wl_ w _ hx216_1)).trans hx216_1
     have HR216_1 := A_.mk hi216_1
     have HC216_1 := A_.mk hl216_1
     clear hi216_1 hl216_1
     replace p216 := eq_true p216
     replace q216 := eq_true q216
     go_wp2_with (first | ((with_reducible refine gd_ (N := 5) rfl ?_); refine by_ 5 (cs := #[.int .i64 0, .slice none 0 0]) (t := 68) ?_; intro gb217 hg w21 hbox hb; have n0_ := A_.mk (bb_ (bY BK213.out) hb); have n1_ := A_.mk (bt_ (by repeat (first | (with_reducible first | exact HB.out | apply ba_ | apply bd_ | apply be_ | refine bs_ ?_ GE213.out) | exact HB.out)) hb); have n2_ := A_.mk (hbox); have n3_ := A_.mk ((by rw [hg]; exact (bz_ (by repeat (first | (with_reducible first | exact HB.out | apply ba_ | apply bd_ | apply be_ | refine bs_ ?_ GE213.out) | exact HB.out))) : w.heap.size ≤ gb217)); have n4_ := A_.mk ((by rw [hg]; exact (bz_ (by repeat (first | (with_reducible first | exact HB.out | apply ba_ | apply bd_ | apply be_ | refine bs_ ?_ GE213.out) | exact HB.out))) : w.heap.size ≤ gb217)); have n5_ := A_.mk ((by rw [hg]; exact Nat.ne_of_lt (blk_lt (bY BK213.out)) : gb213 ≠ gb217)); have n6_ := A_.mk ((by rw [hg]; exact Nat.ne_of_gt (blk_lt (bY BK213.out)) : gb217 ≠ gb213)); clear BK213 HB; have BK213 := n0_; have HB := n1_; have BK217 := n2_; have GW217 := n3_; have GE217 := n4_; have NB213_217 := n5_; have NB217_213 := n6_; clear n0_ n1_ n2_ n3_ n4_ n5_ n6_ hb hbox hg; have hnb22 := NB217_213.out; have hnc22 := NB213_217.out; have hcz23_0 : w21.cell? ⟨gb217, 0, none⟩ = some (.int .i64 0) := (bc_ BK217.out 0).trans rfl; have hcz23_1 : w21.cell? ⟨gb217, 1, none⟩ = some (.slice none 0 0) := (bc_ BK217.out 1).trans rfl; have hfz23_0 := bf_ BK217.out 0; have hfz23_1 := bf_ BK217.out 1; have hcz24_0 : w21.cell? ⟨gb213, 0, none⟩ = some (.int .i64 a0_0) := (bc_ BK213.out 0).trans rfl; have hcz24_1 : w21.cell? ⟨gb213, 1, none⟩ = some (.slice (some ad216) l0_1.length c0_1) := (bc_ BK213.out 1).trans rfl; have hcz24_2 : w21.cell? ⟨gb213, 2, none⟩ = some (.int .i64 a0_2) := (bc_ BK213.out 2).trans rfl; have hfz24_0 := bf_ BK213.out 0; have hfz24_1 := bf_ BK213.out 1; have hfz24_2 := bf_ BK213.out 2) | ((with_reducible refine gc_ (f := 46) rfl ?_); refine gl_ (some 36) Try.func46 #[.int .i64 ((rd_T68 l0_1 x27_2).f0), .int .i64 a0_0] ?_; (with_reducible refine (impl_SeqDistance.calls ((rd_T68 l0_1 x27_2).f0) a0_0 t218 _ A17.out).mono ?_); rintro e w' ⟨rfl, ⟨nd, rfl⟩⟩; refine ⟨_, rfl, ?_⟩) | (go_at_call 47; (with_reducible refine (impl_AreBytes.calls k2 _ _ ((rd_T68 l0_1 x27_2).f1) true _ ?side1 ?side2 A19.out).mono ?_); (case side1 => exact Kd.C_below HR216_1.out (by repeat (first | (with_reducible first | exact HB.out | apply ba_ | apply bd_ | apply be_ | refine bs_ ?_ GE213.out | refine bs_ ?_ GE217.out) | exact HB.out))); (case side2 => exact HC216_1.out); rintro e w' ⟨rfl, ⟨nd, rfl⟩⟩))
     go_roundg k2
     case measure => have := HJ1.out; have := HK2.out; omega
     case rel => exact ⟨(wrap64 (x27_2 + 1)), (by first | rfl | (simp; done) | (simp [*]; done)), H', ⟨by have := HJ1.out; have := HK2.out; omega⟩, ⟨by (repeat apply bX); refine blk_far ?_ NB213_217.out _; (repeat apply bX); refine blk_far ?_ NB213_217.out _; (repeat apply bX); exact BK213.out⟩, ⟨by repeat (first | (with_reducible first | exact HB.out | apply ba_ | apply bd_ | apply be_ | refine bs_ ?_ GE213.out | refine bs_ ?_ GE217.out) | exact HB.out)⟩⟩
/-! ### impl_areLists_1: function 49 -/
def impl_areLists_1.f (k : Nat) (l0 : List Int) : Option (Bool) := (impl_AreBytes.f k l0).bind fun t220 => (some (!t220))
set_option maxHeartbeats 8000000 in
set_option maxRecDepth 100000 in
theorem impl_areLists_1.calls (k : Nat) (A0 : Option Addr) (c0 : Nat) (l0 : List Int) (r : Bool) (w : World) (hr0 : Kd.C (Kd.int .i64) w A0 l0.length l0) (hc0 : l0.length ≤ c0) (h : impl_areLists_1.f k l0 = some r) :
  Calls Try.prog 49 #[.slice A0 l0.length c0] w fun e w' => e = .returned (.bool r) ∧ Drawn0 w w' := by
 have HR0 := A_.mk hr0
 have HC0 := A_.mk hc0
 clear hr0 hc0
 have H : ((impl_AreBytes.f k l0).bind fun t220 => (some (!t220))) = some r := h
 clear h
 replace H := ob_ H
 obtain ⟨t220, A20, H⟩ := H
 have A2 := A_.mk A20
 clear A20
 obtain rfl := Option.some.inj H
 go_enter Try.func49, Try.ntmps49
 go_wp2_with (first | ((with_reducible refine gc_ (f := 47) rfl ?_); refine gl_ (some 4) Try.func47 #[.slice A0 l0.length c0] ?_; (with_reducible refine (impl_AreBytes.calls k _ _ l0 t220 _ ?side1 ?side2 A2.out).mono ?_); (case side1 => exact cY (HR0.out)); (case side2 => exact HC0.out); rintro e w' ⟨rfl, ⟨nd, rfl⟩⟩; refine ⟨_, rfl, ?_⟩))
 go_ret
 exact ⟨by first | rfl | (simp; done) | (simp [*]; done), by repeat (first | exact Drawn0.refl _ | apply Drawn0.step)⟩

/-! ### slices_IndexFunc_int_int__impl_areLists_1: function 61 -/
def slices_IndexFunc_int_int__impl_areLists_1.l0 : Nat → List (List Int) → Int → Int → Option (Int)
 | 0, _, _, _ => none
 | k + 1, x0, x7, x8 => if x8 < x7 then (if 0 ≤ x8 then (if x8 < (x0.length : Int) then ((impl_areLists_1.f k (rd_L1 x0 x8)).bind fun t222 => (if t222 = true then (some x8) else (slices_IndexFunc_int_int__impl_areLists_1.l0 k x0 x7 (wrap64 (x8 + 1))))) else (none)) else (none)) else (some (-1))
def slices_IndexFunc_int_int__impl_areLists_1.f (k : Nat) (l0 : List (List Int))  : Option (Int) := slices_IndexFunc_int_int__impl_areLists_1.l0 k l0 (l0.length : Int) 0
set_option maxHeartbeats 8000000 in
set_option maxRecDepth 100000 in
theorem slices_IndexFunc_int_int__impl_areLists_1.calls (k : Nat) (A0 : Option Addr) (c0 : Nat) (l0 : List (List Int))  (r : Int) (w : World) (hr0 : Kd.C (Kd.slice 3 (Kd.int .i64)) w A0 l0.length l0) (hc0 : l0.length ≤ c0) (h : slices_IndexFunc_int_int__impl_areLists_1.f k l0 = some r) :
  Calls Try.prog 61 #[.slice A0 l0.length c0, .func (.func 49) #[] #[]] w fun e w' => e = .returned (.int .i64 r) ∧ Drawn0 w w' := by
 have HR0 := A_.mk hr0
 have HC0 := A_.mk hc0
 clear hr0 hc0
 have H : (slices_IndexFunc_int_int__impl_areLists_1.l0 k l0 (l0.length : Int) 0) = some r := h
 clear h
 have H' := A_.mk H
 clear H
 go_enter Try.func61, Try.ntmps61
 go_wp2
 go_loopg [8] k (fun kq v8 w' => ∃ (x8_1 : Int), v8 = .int .i64 x8_1 ∧ A_ (slices_IndexFunc_int_int__impl_areLists_1.l0 kq l0 (l0.length : Int) x8_1 = some r) ∧ A_ (kq ≤ k) ∧ Drawn0 w w')
 case atStart => exact ⟨(0), (by first | rfl | (simp; done) | (simp [*]; done)), H', ⟨Nat.le_refl _⟩, by repeat (first | exact Drawn0.refl _ | apply Drawn0.step)⟩
 case round =>
  clear H'
  obtain ⟨x8_1, rfl, HA, HK1, ⟨m1, rfl⟩⟩ := hrel
  cases gk with
  | zero => exact absurd HA.out (by simp [slices_IndexFunc_int_int__impl_areLists_1.l0])
  | succ k1 =>
   have H := HA.out
   clear HA
   simp only [slices_IndexFunc_int_int__impl_areLists_1.l0] at H
   by_cases c3 : x8_1 < (l0.length : Int)
   rotate_left
   ·rw [if_neg c3] at H
    have c3b0 : decide (x8_1 < (l0.length : Int)) = false := decide_eq_false c3
    clear c3
    obtain rfl := Option.some.inj H
    go_wp2
    go_ret
    exact ⟨by first | rfl | (simp; done) | (simp [*]; done), by repeat (first | exact Drawn0.refl _ | apply Drawn0.step)⟩
   rw [if_pos c3] at H
   have c3b0 : decide (x8_1 < (l0.length : Int)) = true := decide_eq_true c3
   clear c3
   by_cases c4 : 0 ≤ x8_1
   rotate_left
   ·rw [if_neg c4] at H
    exact absurd H (by simp)
   rw [if_pos c4] at H
   have c4b0 : decide (0 ≤ x8_1) = true := decide_eq_true c4
   clear c4
   by_cases c5 : x8_1 < (l0.length : Int)
   rotate_left
   ·rw [if_neg c5] at H
    exact absurd H (by simp)
   rw [if_pos c5] at H
   have c5b0 : decide (x8_1 < (l0.length : Int)) = true := decide_eq_true c5
   clear c5
   replace H := ob_ H
   obtain ⟨t222, A60, H⟩ := H
   have A6 := A_.mk A60
   clear A60
   by_cases c7 : t222 = true
   ·subst c7
    have H1 : (some x8_1) = some r := by rw [if_pos rfl] at H; exact H
    clear H
    have H := H1
    clear H1
    obtain rfl := Option.some.inj H
    have p221 : 0 ≤ (x8_1 : Int) := od_
    have q221 : x8_1 < (l0.length : Int) := od_
    obtain ⟨ad221, A221_0, c221_0, e221, hx221_0, hl221_0, hi221_0⟩ := at_L1 HR0.out x8_1 p221 q221
    cases e221
    have HR221_0 := A_.mk hi221_0
    have HC221_0 := A_.mk hl221_0
    clear hi221_0 hl221_0
    replace p221 := eq_true p221
    replace q221 := eq_true q221
    go_wp2_with (first | (go_at_call 49; (with_reducible refine (impl_areLists_1.calls k1 _ _ (rd_L1 l0 x8_1) true _ ?side1 ?side2 A6.out).mono ?_); (case side1 => exact cY (HR221_0.out)); (case side2 => exact HC221_0.out); rintro e w' ⟨rfl, ⟨nd, rfl⟩⟩))
    go_ret
    exact ⟨by first | rfl | (simp; done) | (simp [*]; done), by repeat (first | exact Drawn0.refl _ | apply Drawn0.step)⟩
   replace c7 := Bool.eq_false_iff.mpr c7
   subst c7
   have H1 : (slices_IndexFunc_int_int__impl_areLists_1.l0 k1 l0 (l0.length : Int) (wrap64 (x8_1 + 1))) = some r := by rw [if_neg (show ¬ (false = true) by decide)] at H; exact H
   clear H
   have H := H1
   clear H1
   have H' := A_.mk H
   clear H
   have p221 : 0 ≤ (x8_1 : Int) := od_
   have q221 : x8_1 < (l0.length : Int) := od_
   obtain ⟨ad221, A221_0, c221_0, e221, hx221_0, hl221_0, hi221_0⟩ := at_L1 HR0.out x8_1 p221 q221
   cases e221
   have HR221_0 := A_.mk hi221_0
   have HC221_0 := A_.mk hl221_0
   clear hi221_0 hl221_0
   replace p221 := eq_true p221
   replace q221 := eq_true q221
   go_wp2_with (first | (go_at_call 49; (with_reducible refine (impl_areLists_1.calls k1 _ _ (rd_L1 l0 x8_1) false _ ?side1 ?side2 A6.out).mono ?_); (case side1 => exact cY (HR221_0.out)); (case side2 => exact HC221_0.out); rintro e w' ⟨rfl, ⟨nd, rfl⟩⟩))
   go_roundg k1
   case measure => have := HK1.out; omega
   case rel => exact ⟨(wrap64 (x8_1 + 1)), (by first | rfl | (simp; done) | (simp [*]; done)), H', ⟨by have := HK1.out; omega⟩, by repeat (first | exact Drawn0.refl _ | apply Drawn0.step)⟩
/-! ### slices_ContainsFunc_int_int__impl_areLists_1: function 48 -/
def slices_ContainsFunc_int_int__impl_areLists_1.f (k : Nat) (l0 : List (List Int))  : Option (Bool) := (slices_IndexFunc_int_int__impl_areLists_1.f k l0).bind fun t223 => (some (decide (t223 ≥ 0)))
set_option maxHeartbeats 8000000 in
set_option maxRecDepth 100000 in
theorem slices_ContainsFunc_int_int__impl_areLists_1.calls (k : Nat) (A0 : Option Addr) (c0 : Nat) (l0 : List (List Int))  (r : Bool) (w : World) (hr0 : Kd.C (Kd.slice 3 (Kd.int .i64)) w A0 l0.length l0) (hc0 : l0.length ≤ c0) (h : slices_ContainsFunc_int_int__impl_areLists_1.f k l0 = some r) :
  Calls Try.prog 48 #[.slice A0 l0.length c0, .func (.func 49) #[] #[]] w fun e w' => e = .returned (.bool r) ∧ Drawn0 w w' := by
 have HR0 := A_.mk hr0
 have HC0 := A_.mk hc0
 clear hr0 hc0
 have H : ((slices_IndexFunc_int_int__impl_areLists_1.f k l0).bind fun t223 => (some (decide (t223 ≥ 0)))) = some r := h
 clear h
 replace H := ob_ H
 obtain ⟨t223, A30, H⟩ := H
 have A3 := A_.mk A30
 clear A30
 obtain rfl := Option.some.inj H
 go_enter Try.func48, Try.ntmps48
 go_wp2_with (first | ((with_reducible refine gc_ (f := 61) rfl ?_); refine gl_ (some 7) Try.func61 #[.slice A0 l0.length c0, .func (.func 49) #[] #[]] ?_; (with_reducible refine (slices_IndexFunc_int_int__impl_areLists_1.calls k _ _ l0  t223 _ ?side1 ?side2 A3.out).mono ?_); (case side1 => exact cY (HR0.out)); (case side2 => exact HC0.out); rintro e w' ⟨rfl, ⟨nd, rfl⟩⟩; refine ⟨_, rfl, ?_⟩))
 go_ret
 exact ⟨by first | rfl | (simp; done) | (simp [*]; done), by repeat (first | exact Drawn0.refl _ | apply Drawn0.step)⟩

/-! ### impl_areLists: function 27 -/
def impl_areLists.f (k : Nat) (l0 : List (List Int)) : Option (Bool) := (slices_ContainsFunc_int_int__impl_areLists_1.f k l0).bind fun t224 => (some (!t224))
set_option maxHeartbeats 8000000 in
set_option maxRecDepth 100000 in
theorem impl_areLists.calls (k : Nat) (A0 : Option Addr) (c0 : Nat) (l0 : List (List Int)) (r : Bool) (w : World) (hr0 : Kd.C (Kd.slice 3 (Kd.int .i64)) w A0 l0.length l0) (hc0 : l0.length ≤ c0) (h : impl_areLists.f k l0 = some r) :
  Calls Try.prog 27 #[.slice A0 l0.length c0] w fun e w' => e = .returned (.bool r) ∧ Drawn0 w w' := by
 have HR0 := A_.mk hr0
 have HC0 := A_.mk hc0
 clear hr0 hc0
 have H : ((slices_ContainsFunc_int_int__impl_areLists_1.f k l0).bind fun t224 => (some (!t224))) = some r := h
 clear h
 replace H := ob_ H
 obtain ⟨t224, A20, H⟩ := H
 have A2 := A_.mk A20
 clear A20
 obtain rfl := Option.some.inj H
 go_enter Try.func27, Try.ntmps27
 go_wp2_with (first | ((with_reducible refine gc_ (f := 48) rfl ?_); refine gl_ (some 4) Try.func48 #[.slice A0 l0.length c0, .func (.func 49) #[] #[]] ?_; (with_reducible refine (slices_ContainsFunc_int_int__impl_areLists_1.calls k _ _ l0  t224 _ ?side1 ?side2 A2.out).mono ?_); (case side1 => exact cY (HR0.out)); (case side2 => exact HC0.out); rintro e w' ⟨rfl, ⟨nd, rfl⟩⟩; refine ⟨_, rfl, ?_⟩))
 go_ret
 exact ⟨by first | rfl | (simp; done) | (simp [*]; done), by repeat (first | exact Drawn0.refl _ | apply Drawn0.step)⟩

/-! ### impl_ReceiverOk: function 26 -/
def impl_ReceiverOk.f (k : Nat) (a0_0 : Int) (l0_1 : List (List Int)) : Option (Bool) := (impl_IsSeq.f a0_0).bind fun t226 => (if t226 = true then (if (l0_1.length : Int) ≤ 1000 then ((impl_areLists.f k l0_1).bind fun t227 => (some t227)) else (some false)) else (some false))
set_option maxHeartbeats 8000000 in
set_option maxRecDepth 100000 in
theorem impl_ReceiverOk.calls (k : Nat) (a0_0 : Int) (A0_1 : Option Addr) (c0_1 : Nat) (l0_1 : List (List Int)) (r : Bool) (w : World) (hr0_1 : Kd.C (Kd.slice 3 (Kd.int .i64)) w A0_1 l0_1.length l0_1) (hc0_1 : l0_1.length ≤ c0_1) (h : impl_ReceiverOk.f k a0_0 l0_1 = some r) :
  Calls Try.prog 26 #[.agg #[.int .i64 a0_0, .slice A0_1 l0_1.length c0_1]] w fun e w' => e = .returned (.bool r) ∧ Below w.heap.size w w' := by
 have hu31 := Try.underlying31
 have HR0_1 := A_.mk hr0_1
 have HC0_1 := A_.mk hc0_1
 clear hr0_1 hc0_1
 have HB := A_.mk (Below.refl w.heap.size w)
 have H : ((impl_IsSeq.f a0_0).bind fun t226 => (if t226 = true then (if (l0_1.length : Int) ≤ 1000 then ((impl_areLists.f k l0_1).bind fun t227 => (some t227)) else (some false)) else (some false))) = some r := h
 clear h
 replace H := ob_ H
 obtain ⟨t226, A20, H⟩ := H
 have A2 := A_.mk A20
 clear A20
 by_cases c3 : t226 = true
 rotate_left
 ·replace c3 := Bool.eq_false_iff.mpr c3
  subst c3
  have H1 : (some false) = some r := by rw [if_neg (show ¬ (false = true) by decide)] at H; exact H
  clear H
  have H := H1
  clear H1
  obtain rfl := Option.some.inj H
  go_enter Try.func26, Try.ntmps26
  go_wp2_with (first | ((with_reducible refine gd_ (N := 1) rfl ?_); (try (refine gate_guard (by rfl) ?_; dsimp only)); refine by_ 1 (cs := #[.int .i64 a0_0, .slice A0_1 l0_1.length c0_1]) (t := 31) ?_; intro gb225 hg w10 hbox hb; have n0_ := A_.mk (bt_ (beY HB.out) hb); have n1_ := A_.mk (hbox); have n2_ := A_.mk ((by rw [hg]; exact (bz_ (beY HB.out)) : w.heap.size ≤ gb225)); have n3_ := A_.mk ((by rw [hg]; exact (bz_ (beY HB.out)) : w.heap.size ≤ gb225)); clear HB; have HB := n0_; have BK225 := n1_; have GW225 := n2_; have GE225 := n3_; clear n0_ n1_ n2_ n3_ hb hbox hg; have hcz11_0 : w10.cell? ⟨gb225, 0, none⟩ = some (.int .i64 a0_0) := (bc_ BK225.out 0).trans rfl; have hcz11_1 : w10.cell? ⟨gb225, 1, none⟩ = some (.slice A0_1 l0_1.length c0_1) := (bc_ BK225.out 1).trans rfl; have hfz11_0 := bf_ BK225.out 0; have hfz11_1 := bf_ BK225.out 1) | ((with_reducible refine gc_ (f := 30) rfl ?_); refine gl_ (some 5) Try.func30 #[.int .i64 a0_0] ?_; (with_reducible refine (impl_IsSeq.calls a0_0 false _ A2.out).mono ?_); rintro e w' ⟨rfl, ⟨nd, rfl⟩⟩; refine ⟨_, rfl, ?_⟩))
  go_ret
  exact ⟨by first | rfl | (simp [errW_none, errW_some] <;> rfl) | (simp [*, errW_none, errW_some] <;> rfl), by repeat (first | (with_reducible first | exact HB.out | apply ba_ | apply bd_ | apply be_ | refine bs_ ?_ GE225.out) | exact HB.out)⟩
 subst c3
 have H1 : (if (l0_1.length : Int) ≤ 1000 then ((impl_areLists.f k l0_1).bind fun t227 => (some t227)) else (some false)) = some r := by rw [if_pos rfl] at H; exact H
 clear H
 have H := H1
 clear H1
 by_cases c4 : (l0_1.length : Int) ≤ 1000
 rotate_left
 ·rw [if_neg c4] at H
  have c4b0 : decide ((l0_1.length : Int) ≤ 1000) = false := decide_eq_false c4
  have c4b1 : decide (l0_1.length ≤ 1000) = false := decide_eq_false (by omega)
  clear c4
  obtain rfl := Option.some.inj H
  go_enter Try.func26, Try.ntmps26
  go_wp2_with (first | ((with_reducible refine gd_ (N := 1) rfl ?_); (try (refine gate_guard (by rfl) ?_; dsimp only)); refine by_ 1 (cs := #[.int .i64 a0_0, .slice A0_1 l0_1.length c0_1]) (t := 31) ?_; intro gb225 hg w8 hbox hb; have n0_ := A_.mk (bt_ (beY HB.out) hb); have n1_ := A_.mk (hbox); have n2_ := A_.mk ((by rw [hg]; exact (bz_ (beY HB.out)) : w.heap.size ≤ gb225)); have n3_ := A_.mk ((by rw [hg]; exact (bz_ (beY HB.out)) : w.heap.size ≤ gb225)); clear HB; have HB := n0_; have BK225 := n1_; have GW225 := n2_; have GE225 := n3_; clear n0_ n1_ n2_ n3_ hb hbox hg; have hcz9_0 : w8.cell? ⟨gb225, 0, none⟩ = some (.int .i64 a0_0) := (bc_ BK225.out 0).trans rfl; have hcz9_1 : w8.cell? ⟨gb225, 1, none⟩ = some (.slice A0_1 l0_1.length c0_1) := (bc_ BK225.out 1).trans rfl; have hfz9_0 := bf_ BK225.out 0; have hfz9_1 := bf_ BK225.out 1) | ((with_reducible refine gc_ (f := 30) rfl ?_); refine gl_ (some 5) Try.func30 #[.int .i64 a0_0] ?_; (with_reducible refine (impl_IsSeq.calls a0_0 true _ A2.out).mono ?_); rintro e w' ⟨rfl, ⟨nd, rfl⟩⟩; refine ⟨_, rfl, ?_⟩))
  go_ret
  exact ⟨by first | rfl | (simp [errW_none, errW_some] <;> rfl) | (simp [*, errW_none, errW_some] <;> rfl), by repeat (first | (with_reducible first | exact HB.out | apply ba_ | apply bd_ | apply be_ | refine bs_ ?_ GE225.out) | exact HB.out)⟩
 rw [if_pos c4] at H
 have c4b0 : decide ((l0_1.length : Int) ≤ 1000) = true := decide_eq_true c4
 have c4b1 : decide (l0_1.length ≤ 1000) = true := decide_eq_true (by omega)
 clear c4
 replace H := ob_ H
 obtain ⟨t227, A50, H⟩ := H
 have A5 := A_.mk A50
 clear A50
 obtain rfl := Option.some.inj H
 go_enter Try.func26, Try.ntmps26
 go_wp2_with (first | ((with_reducible refine gd_ (N := 1) rfl ?_); (try (refine gate_guard (by rfl) ?_; dsimp only)); refine by_ 1 (cs := #[.int .i64 a0_0, .slice A0_1 l0_1.length c0_1]) (t := 31) ?_; intro gb225 hg w6 hbox hb; have n0_ := A_.mk (bt_ (beY HB.out) hb); have n1_ := A_.mk (hbox); have n2_ := A_.mk ((by rw [hg]; exact (bz_ (beY HB.out)) : w.heap.size ≤ gb225)); have n3_ := A_.mk ((by rw [hg]; exact (bz_ (beY HB.out)) : w.heap.size ≤ gb225)); clear HB; have HB := n0_; have BK225 := n1_; have GW225 := n2_; have GE225 := n3_; clear n0_ n1_ n2_ n3_ hb hbox hg; have hcz7_0 : w6.cell? ⟨gb225, 0, none⟩ = some (.int .i64 a0_0) := (bc_ BK225.out 0).trans rfl; have hcz7_1 : w6.cell? ⟨gb225, 1, none⟩ = some (.slice A0_1 l0_1.length c0_1) := (bc_ BK225.out 1).trans rfl; have hfz7_0 := bf_ BK225.out 0; have hfz7_1 := bf_ BK225.out 1) | ((with_reducible refine gc_ (f := 30) rfl ?_); refine gl_ (some 5) Try.func30 #[.int .i64 a0_0] ?_; (with_reducible refine (impl_IsSeq.calls a0_0 true _ A2.out).mono ?_); rintro e w' ⟨rfl, ⟨nd, rfl⟩⟩; refine ⟨_, rfl, ?_⟩) | (go_at_call 27; (with_reducible refine (impl_areLists.calls k _ _ l0_1 t227 _ ?side1 ?side2 A5.out).mono ?_); (case side1 => repeat (first | exact (Kd.C_below HR0_1.out (by repeat (first | (with_reducible first | exact HB.out | apply ba_ | apply bd_ | apply be_ | refine bs_ ?_ GE225.out) | exact HB.out))) | (with_reducible refine Kd.C_alloc ?_ _) | (with_reducible refine Kd.C_drewN ?_ _) | (with_reducible refine Kd.C_drew ?_))); (case side2 => exact HC0_1.out); rintro e w' ⟨rfl, ⟨nd, rfl⟩⟩))
 go_ret
 exact ⟨by first | rfl | (simp [errW_none, errW_some] <;> rfl) | (simp [*, errW_none, errW_some] <;> rfl), by repeat (first | (with_reducible first | exact HB.out | apply ba_ | apply bd_ | apply be_ | refine bs_ ?_ GE225.out) | exact HB.out)⟩
/-! ### impl_LinkOk_1: function 29 -/
def impl_LinkOk_1.f (a0 : Int) : Option (Bool) := (impl_IsSeq.f a0).bind fun t228 => (if t228 = true then (some false) else ((impl_within.f a0 100 115).bind fun t229 => (some (!t229))))
set_option maxHeartbeats 8000000 in
set_option maxRecDepth 100000 in
theorem impl_LinkOk_1.calls (a0 : Int) (r : Bool) (w : World) (h : impl_LinkOk_1.f a0 = some r) :
  Calls Try.prog 29 #[.int .i64 a0] w fun e w' => e = .returned (.bool r) ∧ Drawn0 w w' := by
 have H : ((impl_IsSeq.f a0).bind fun t228 => (if t228 = true then (some false) else ((impl_within.f a0 100 115).bind fun t229 => (some (!t229))))) = some r := h
 clear h
 replace H := ob_ H
 obtain ⟨t228, A20, H⟩ := H
 have A2 := A_.mk A20
 clear A20
 by_cases c3 : t228 = true
 ·subst c3
  have H1 : (some false) = some r := by rw [if_pos rfl] at H; exact H
  clear H
  have H := H1
  clear H1
  obtain rfl := Option.some.inj H
  go_enter Try.func29, Try.ntmps29
  go_wp2_with (first | ((with_reducible refine gc_ (f := 30) rfl ?_); refine gl_ (some 4) Try.func30 #[.int .i64 a0] ?_; (with_reducible refine (impl_IsSeq.calls a0 true _ A2.out).mono ?_); rintro e w' ⟨rfl, ⟨nd, rfl⟩⟩; refine ⟨_, rfl, ?_⟩))
  go_ret
  exact ⟨by first | rfl | (simp; done) | (simp [*]; done), by repeat (first | exact Drawn0.refl _ | apply Drawn0.step)⟩
 ·replace c3 := Bool.eq_false_iff.mpr c3
  subst c3
  have H1 : ((impl_within.f a0 100 115).bind fun t229 => (some (!t229))) = some r := by rw [if_neg (show ¬ (false = true) by decide)] at H; exact H
  clear H
  have H := H1
  clear H1
  replace H := ob_ H
  obtain ⟨t229, A40, H⟩ := H
  have A4 := A_.mk A40
  clear A40
  obtain rfl := Option.some.inj H
  go_enter Try.func29, Try.ntmps29
  go_wp2_with (first | ((with_reducible refine gc_ (f := 30) rfl ?_); refine gl_ (some 4) Try.func30 #[.int .i64 a0] ?_; (with_reducible refine (impl_IsSeq.calls a0 false _ A2.out).mono ?_); rintro e w' ⟨rfl, ⟨nd, rfl⟩⟩; refine ⟨_, rfl, ?_⟩) | (go_at_call 31; (with_reducible refine (impl_within.calls a0 100 115 t229 _ A4.out).mono ?_); rintro e w' ⟨rfl, ⟨nd, rfl⟩⟩))
  go_ret
  exact ⟨by first | rfl | (simp; done) | (simp [*]; done), by repeat (first | exact Drawn0.refl _ | apply Drawn0.step)⟩

/-! ### slices_IndexFunc_int_int__impl_LinkOk_1: function 50 -/
def slices_IndexFunc_int_int__impl_LinkOk_1.l0 : Nat → List Int → Int → Int → Option (Int)
 | 0, _, _, _ => none
 | k + 1, x0, x7, x8 => if x8 < x7 then (if 0 ≤ x8 then (if x8 < (x0.length : Int) then ((impl_LinkOk_1.f (rd x0 x8)).bind fun t231 => (if t231 = true then (some x8) else (slices_IndexFunc_int_int__impl_LinkOk_1.l0 k x0 x7 (wrap64 (x8 + 1))))) else (none)) else (none)) else (some (-1))
def slices_IndexFunc_int_int__impl_LinkOk_1.f (k : Nat) (l0 : List Int)  : Option (Int) := slices_IndexFunc_int_int__impl_LinkOk_1.l0 k l0 (l0.length : Int) 0
set_option maxHeartbeats 8000000 in
set_option maxRecDepth 100000 in
theorem slices_IndexFunc_int_int__impl_LinkOk_1.calls (k : Nat) (A0 : Option Addr) (c0 : Nat) (l0 : List Int)  (r : Int) (w : World) (hr0 : Kd.C (Kd.int .i64) w A0 l0.length l0) (hc0 : l0.length ≤ c0) (h : slices_IndexFunc_int_int__impl_LinkOk_1.f k l0 = some r) :
  Calls Try.prog 50 #[.slice A0 l0.length c0, .func (.func 29) #[] #[]] w fun e w' => e = .returned (.int .i64 r) ∧ Drawn0 w w' := by
 have HR0 := A_.mk hr0
 have HC0 := A_.mk hc0
 clear hr0 hc0
 have H : (slices_IndexFunc_int_int__impl_LinkOk_1.l0 k l0 (l0.length : Int) 0) = some r := h
 clear h
 have H' := A_.mk H
 clear H
 go_enter Try.func50, Try.ntmps50
 go_wp2
 go_loopg [8] k (fun kq v8 w' => ∃ (x8_1 : Int), v8 = .int .i64 x8_1 ∧ A_ (slices_IndexFunc_int_int__impl_LinkOk_1.l0 kq l0 (l0.length : Int) x8_1 = some r) ∧ A_ (kq ≤ k) ∧ Drawn0 w w')
 case atStart => exact ⟨(0), (by first | rfl | (simp; done) | (simp [*]; done)), H', ⟨Nat.le_refl _⟩, by repeat (first | exact Drawn0.refl _ | apply Drawn0.step)⟩
 case round =>
  clear H'
  obtain ⟨x8_1, rfl, HA, HK1, ⟨m1, rfl⟩⟩ := hrel
  cases gk with
  | zero => exact absurd HA.out (by simp [slices_IndexFunc_int_int__impl_LinkOk_1.l0])
  | succ k1 =>
   have H := HA.out
   clear HA
   simp only [slices_IndexFunc_int_int__impl_LinkOk_1.l0] at H
   by_cases c3 : x8_1 < (l0.length : Int)
   rotate_left
   ·rw [if_neg c3] at H
    have c3b0 : decide (x8_1 < (l0.length : Int)) = false := decide_eq_false c3
    clear c3
    obtain rfl := Option.some.inj H
    go_wp2
    go_ret
    exact ⟨by first | rfl | (simp; done) | (simp [*]; done), by repeat (first | exact Drawn0.refl _ | apply Drawn0.step)⟩
   rw [if_pos c3] at H
   have c3b0 : decide (x8_1 < (l0.length : Int)) = true := decide_eq_true c3
   clear c3
   by_cases c4 : 0 ≤ x8_1
   rotate_left
   ·rw [if_neg c4] at H
    exact absurd H (by simp)
   rw [if_pos c4] at H
   have c4b0 : decide (0 ≤ x8_1) = true := decide_eq_true c4
   clear c4
   by_cases c5 : x8_1 < (l0.length : Int)
   rotate_left
   ·rw [if_neg c5] at H
    exact absurd H (by simp)
   rw [if_pos c5] at H
   have c5b0 : decide (x8_1 < (l0.length : Int)) = true := decide_eq_true c5
   clear c5
   replace H := ob_ H
   obtain ⟨t231, A60, H⟩ := H
   have A6 := A_.mk A60
   clear A60
   by_cases c7 : t231 = true
   ·subst c7
    have H1 : (some x8_1) = some r := by rw [if_pos rfl] at H; exact H
    clear H
    have H := H1
    clear H1
    obtain rfl := Option.some.inj H
    have p230 : 0 ≤ (x8_1 : Int) := od_
    have q230 : x8_1 < (l0.length : Int) := od_
    obtain ⟨ad230, e230, hx230_0⟩ := Kd.at_int HR0.out x8_1 p230 q230
    cases e230
    replace p230 := eq_true p230
    replace q230 := eq_true q230
    go_wp2_with (first | (go_at_call 29; (with_reducible refine (impl_LinkOk_1.calls (rd l0 x8_1) true _ A6.out).mono ?_); rintro e w' ⟨rfl, ⟨nd, rfl⟩⟩))
    go_ret
    exact ⟨by first | rfl | (simp; done) | (simp [*]; done), by repeat (first | exact Drawn0.refl _ | apply Drawn0.step)⟩
   replace c7 := Bool.eq_false_iff.mpr c7
   subst c7
   have H1 : (slices_IndexFunc_int_int__impl_LinkOk_1.l0 k1 l0 (l0.length : Int) (wrap64 (x8_1 + 1))) = some r := by rw [if_neg (show ¬ (false = true) by decide)] at H; exact H
   clear H
   have H := H1
   clear H1
   have H' := A_.mk H
   clear H
   have p230 : 0 ≤ (x8_1 : Int) := od_
   have q230 : x8_1 < (l0.length : Int) := od_
   obtain ⟨ad230, e230, hx230_0⟩ := Kd.at_int HR0.out x8_1 p230 q230
   cases e230
   replace p230 := eq_true p230
   replace q230 := eq_true q230
   go_wp2_with (first | (go_at_call 29; (with_reducible refine (impl_LinkOk_1.calls (rd l0 x8_1) false _ A6.out).mono ?_); rintro e w' ⟨rfl, ⟨nd, rfl⟩⟩))
   go_roundg k1
   case measure => have := HK1.out; omega
   case rel => exact ⟨(wrap64 (x8_1 + 1)), (by first | rfl | (simp; done) | (simp [*]; done)), H', ⟨by have := HK1.out; omega⟩, by repeat (first | exact Drawn0.refl _ | apply Drawn0.step)⟩
/-! ### slices_ContainsFunc_int_int__impl_LinkOk_1: function 28 -/
def slices_ContainsFunc_int_int__impl_LinkOk_1.f (k : Nat) (l0 : List Int)  : Option (Bool) := (slices_IndexFunc_int_int__impl_LinkOk_1.f k l0).bind fun t232 => (some (decide (t232 ≥ 0)))
set_option maxHeartbeats 8000000 in
set_option maxRecDepth 100000 in
theorem slices_ContainsFunc_int_int__impl_LinkOk_1.calls (k : Nat) (A0 : Option Addr) (c0 : Nat) (l0 : List Int)  (r : Bool) (w : World) (hr0 : Kd.C (Kd.int .i64) w A0 l0.length l0) (hc0 : l0.length ≤ c0) (h : slices_ContainsFunc_int_int__impl_LinkOk_1.f k l0 = some r) :
  Calls Try.prog 28 #[.slice A0 l0.length c0, .func (.func 29) #[] #[]] w fun e w' => e = .returned (.bool r) ∧ Drawn0 w w' := by
 have HR0 := A_.mk hr0
 have HC0 := A_.mk hc0
 clear hr0 hc0
 have H : ((slices_IndexFunc_int_int__impl_LinkOk_1.f k l0).bind fun t232 => (some (decide (t232 ≥ 0)))) = some r := h
 clear h
 replace H := ob_ H
 obtain ⟨t232, A30, H⟩ := H
 have A3 := A_.mk A30
 clear A30
 obtain rfl := Option.some.inj H
 go_enter Try.func28, Try.ntmps28
 go_wp2_with (first | ((with_reducible refine gc_ (f := 50) rfl ?_); refine gl_ (some 7) Try.func50 #[.slice A0 l0.length c0, .func (.func 29) #[] #[]] ?_; (with_reducible refine (slices_IndexFunc_int_int__impl_LinkOk_1.calls k _ _ l0  t232 _ ?side1 ?side2 A3.out).mono ?_); (case side1 => exact cY (HR0.out)); (case side2 => exact HC0.out); rintro e w' ⟨rfl, ⟨nd, rfl⟩⟩; refine ⟨_, rfl, ?_⟩))
 go_ret
 exact ⟨by first | rfl | (simp; done) | (simp [*]; done), by repeat (first | exact Drawn0.refl _ | apply Drawn0.step)⟩

end Go.Proofs.Ytflopendlbciaaa.PFnLinkOnce
