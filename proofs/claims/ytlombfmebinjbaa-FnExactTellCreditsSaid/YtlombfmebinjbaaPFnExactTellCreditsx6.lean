-- Written by a program of this session (wip/xp): not trusted, Lean checks it.
import Derived.Test.YtlombfmebinjbaaPFnExactTellCreditsx0
import Derived.Test.YtlombfmebinjbaaPFnExactTellCreditsx1
import Derived.Test.YtlombfmebinjbaaPFnExactTellCreditsx4
import Derived.Test.YtlombfmebinjbaaPFnExactTellCreditsx5
namespace Go.Proofs.Ytlombfmebinjbaa.PFnExactTellCredits
open Go.RowKit Go.Proofs.YtlombfmebinjbaaW.PrintWords Go.Proofs.YtlombfmebinjbaaW.PrintLast Go.Proofs.YtlombfmebinjbaaW.PrintMore
attribute [local go_sem] max2_int min2_int max_two min_two max_three min_three max_four min_four   -- for this text's walks alone
set_option linter.unusedVariables false
set_option linter.unusedSimpArgs false

/-! ### laws_heldChannel: function 18, its calls in a row -/
def laws_heldChannel.f (k : Nat) (l0_0 : List Int) (l0_1 : List Int) (l0_2 : List Int) (l0_3 : List Int) (l0_4 : List (S38)) (l0_5 : List (S38)) (a1 : Int) : Option ((Int)) := ((laws_heldCredits.f k l0_0 l0_1 a1).bind fun t1 => (if t1 < 0 then (some (-1)) else ((laws_heldCredits.f k l0_2 l0_3 t1).bind fun t2 => (if t2 < 0 then (some (-1)) else ((laws_heldPacketS.f k l0_4 t2).bind fun t3 => (if t3 < 0 then (some (-1)) else ((laws_heldPacketS.f k l0_5 t3).bind fun t4 => (if t4 < 0 then (some (-1)) else (some (t4))))))))))
set_option maxHeartbeats 8000000 in
set_option maxRecDepth 100000 in
theorem laws_heldChannel.calls (k : Nat) (A0_0 : Option Addr) (c0_0 : Nat) (l0_0 : List Int) (A0_1 : Option Addr) (c0_1 : Nat) (l0_1 : List Int) (A0_2 : Option Addr) (c0_2 : Nat) (l0_2 : List Int) (A0_3 : Option Addr) (c0_3 : Nat) (l0_3 : List Int) (A0_4 : Option Addr) (c0_4 : Nat) (l0_4 : List (S38)) (A0_5 : Option Addr) (c0_5 : Nat) (l0_5 : List (S38)) (a1 : Int) (r : Int) (w : World) (hr0_0 : Kd.C (Kd.int .i64) w A0_0 l0_0.length l0_0) (hc0_0 : l0_0.length ≤ c0_0) (hr0_1 : Kd.C (Kd.int .i64) w A0_1 l0_1.length l0_1) (hc0_1 : l0_1.length ≤ c0_1) (hr0_2 : Kd.C (Kd.int .i64) w A0_2 l0_2.length l0_2) (hc0_2 : l0_2.length ≤ c0_2) (hr0_3 : Kd.C (Kd.int .i64) w A0_3 l0_3.length l0_3) (hc0_3 : l0_3.length ≤ c0_3) (hr0_4 : Kd.C k38 w A0_4 l0_4.length l0_4) (hc0_4 : l0_4.length ≤ c0_4) (hr0_5 : Kd.C k38 w A0_5 l0_5.length l0_5) (hc0_5 : l0_5.length ≤ c0_5) (h : laws_heldChannel.f k l0_0 l0_1 l0_2 l0_3 l0_4 l0_5 a1 = some r) :
  Calls Try.prog 18 #[.agg #[.slice A0_0 l0_0.length c0_0, .slice A0_1 l0_1.length c0_1, .slice A0_2 l0_2.length c0_2, .slice A0_3 l0_3.length c0_3, .slice A0_4 l0_4.length c0_4, .slice A0_5 l0_5.length c0_5], .int .i64 a1] w fun e w' => e = .returned (.int .i64 r) ∧ Below w.heap.size w w' := by
 have HR0_0 := A_.mk hr0_0
 have HC0_0 := A_.mk hc0_0
 clear hr0_0 hc0_0
 have HR0_1 := A_.mk hr0_1
 have HC0_1 := A_.mk hc0_1
 clear hr0_1 hc0_1
 have HR0_2 := A_.mk hr0_2
 have HC0_2 := A_.mk hc0_2
 clear hr0_2 hc0_2
 have HR0_3 := A_.mk hr0_3
 have HC0_3 := A_.mk hc0_3
 clear hr0_3 hc0_3
 have HR0_4 := A_.mk hr0_4
 have HC0_4 := A_.mk hc0_4
 clear hr0_4 hc0_4
 have HR0_5 := A_.mk hr0_5
 have HC0_5 := A_.mk hc0_5
 clear hr0_5 hc0_5
 have HB := A_.mk (Below.refl w.heap.size w)
 unfold laws_heldChannel.f at h
 have H := h
 clear h
 replace H := oa_ H
 obtain ⟨t1, A2, H⟩ := H
 replace H := A_.mk H
 have hu33 := Try.underlying33
 go_enter Try.func18, Try.ntmps18
 have HS := A_.mk (Nat.le_refl w.heap.size)
 go_wp2_with (first | ((with_reducible refine gd_ (N := 2) rfl ?_); refine by_ 2 (cs := #[.slice A0_0 l0_0.length c0_0, .slice A0_1 l0_1.length c0_1, .slice A0_2 l0_2.length c0_2, .slice A0_3 l0_3.length c0_3, .slice A0_4 l0_4.length c0_4, .slice A0_5 l0_5.length c0_5]) (t := 33) ?_; intro gb1_ hg w1_ hbox hb; replace HS := A_.mk (And.intro HS.out (show gb1_ = w.heap.size ∧ gb1_ < w1_.heap.size from ⟨hg, blk_lt hbox⟩)); replace HB := aHB HB hb; have BK1 := A_.mk hbox; clear hbox hb hg; have Q1 := blk6_ BK1.out))
 (with_reducible refine (laws_heldCredits.calls k _ _ l0_0 _ _ l0_1 a1 t1 _ (Kd.C_below HR0_0.out HB.out) HC0_0.out (Kd.C_below HR0_1.out HB.out) HC0_1.out A2.out).mono ?_)
 rintro e w2_ ⟨rfl, hb⟩
 replace HS := aHs HS hb.size
 replace BK1 := aBb BK1 hb
 replace HB := aHB HB hb
 clear hb  Q1
 have Q1 := blk6_ BK1.out
 replace H := H.out
 by_cases hc1_ : t1 < 0
 case pos =>
  rw [if_pos hc1_] at H
  have hc1_b0 : decide (t1 < 0) = true := decide_eq_true hc1_
  replace H := Option.some.inj H
  subst H
  go_wp2
  go_ret
  exact ⟨rfl, HB.out⟩
 rw [if_neg hc1_] at H
 have hc1_b0 : decide (t1 < 0) = false := decide_eq_false hc1_
 replace H := oa_ H
 obtain ⟨t2, A3, H⟩ := H
 replace H := A_.mk H
 go_wp2_with (fail)
 (with_reducible refine (laws_heldCredits.calls k _ _ l0_2 _ _ l0_3 t1 t2 _ (Kd.C_below HR0_2.out HB.out) HC0_2.out (Kd.C_below HR0_3.out HB.out) HC0_3.out A3.out).mono ?_)
 rintro e w3_ ⟨rfl, hb⟩
 replace HS := aHs HS hb.size
 replace BK1 := aBb BK1 hb
 replace HB := aHB HB hb
 clear hb  Q1
 have Q1 := blk6_ BK1.out
 replace H := H.out
 by_cases hc2_ : t2 < 0
 case pos =>
  rw [if_pos hc2_] at H
  have hc2_b0 : decide (t2 < 0) = true := decide_eq_true hc2_
  replace H := Option.some.inj H
  subst H
  go_wp2
  go_ret
  exact ⟨rfl, HB.out⟩
 rw [if_neg hc2_] at H
 have hc2_b0 : decide (t2 < 0) = false := decide_eq_false hc2_
 replace H := oa_ H
 obtain ⟨t3, A4, H⟩ := H
 replace H := A_.mk H
 go_wp2_with (fail)
 (with_reducible refine (laws_heldPacketS.calls k _ _ l0_4 t2 t3 _ (Kd.C_below HR0_4.out HB.out) HC0_4.out A4.out).mono ?_)
 rintro e w4_ ⟨rfl, hb⟩
 replace hb := Drawn0.below hb
 replace HS := aHs HS hb.size
 replace BK1 := aBb BK1 hb
 replace HB := aHB HB hb
 clear hb  Q1
 have Q1 := blk6_ BK1.out
 replace H := H.out
 by_cases hc3_ : t3 < 0
 case pos =>
  rw [if_pos hc3_] at H
  have hc3_b0 : decide (t3 < 0) = true := decide_eq_true hc3_
  replace H := Option.some.inj H
  subst H
  go_wp2
  go_ret
  exact ⟨rfl, HB.out⟩
 rw [if_neg hc3_] at H
 have hc3_b0 : decide (t3 < 0) = false := decide_eq_false hc3_
 replace H := oa_ H
 obtain ⟨t4, A5, H⟩ := H
 replace H := A_.mk H
 go_wp2_with (fail)
 (with_reducible refine (laws_heldPacketS.calls k _ _ l0_5 t3 t4 _ (Kd.C_below HR0_5.out HB.out) HC0_5.out A5.out).mono ?_)
 rintro e w5_ ⟨rfl, hb⟩
 replace hb := Drawn0.below hb
 replace HS := aHs HS hb.size
 replace BK1 := aBb BK1 hb
 replace HB := aHB HB hb
 clear hb  Q1
 have Q1 := blk6_ BK1.out
 replace H := H.out
 by_cases hc4_ : t4 < 0
 case pos =>
  rw [if_pos hc4_] at H
  have hc4_b0 : decide (t4 < 0) = true := decide_eq_true hc4_
  replace H := Option.some.inj H
  subst H
  go_wp2
  go_ret
  exact ⟨rfl, HB.out⟩
 rw [if_neg hc4_] at H
 have hc4_b0 : decide (t4 < 0) = false := decide_eq_false hc4_
 replace H := Option.some.inj H
 subst H
 go_wp2
 go_ret
 exact ⟨rfl, HB.out⟩
/-! ### spec_l01In: function 49 -/
def spec_l01In.f (a0 : Int) (a1 : Int) (a2 : Int) : Option (Bool) := if a0 ≥ a1 then (some (decide (a0 ≤ a2))) else (some false)
set_option maxHeartbeats 8000000 in
set_option maxRecDepth 100000 in
theorem spec_l01In.calls (a0 : Int) (a1 : Int) (a2 : Int) (r : Bool) (w : World) (h : spec_l01In.f a0 a1 a2 = some r) :
  Calls Try.prog 49 #[.int .i64 a0, .int .i64 a1, .int .i64 a2] w fun e w' => e = .returned (.bool r) ∧ Drawn0 w w' := by
 have H : (if a0 ≥ a1 then (some (decide (a0 ≤ a2))) else (some false)) = some r := h
 clear h
 by_cases c4 : a0 ≥ a1
 ·rw [if_pos c4] at H
  have c4b0 : decide (a1 ≤ a0) = true := decide_eq_true c4
  clear c4
  obtain rfl := Option.some.inj H
  go_enter Try.func49, Try.ntmps49
  go_wp2
  go_ret
  exact ⟨by first | rfl | (simp; done) | (simp [*]; done), by repeat (first | exact Drawn0.refl _ | apply Drawn0.step)⟩
 ·rw [if_neg c4] at H
  have c4b0 : decide (a1 ≤ a0) = false := decide_eq_false c4
  clear c4
  obtain rfl := Option.some.inj H
  go_enter Try.func49, Try.ntmps49
  go_wp2
  go_ret
  exact ⟨by first | rfl | (simp; done) | (simp [*]; done), by repeat (first | exact Drawn0.refl _ | apply Drawn0.step)⟩

/-! ### spec_CreditsOk: function 33 -/
mutual
def spec_CreditsOk.j0 : Nat → Bool → List Int → List Int → Option (Bool)
 | 0, _, _, _ => none
 | k + 1, x13, x160000, x160001 => if x13 = true then (some false) else (spec_CreditsOk.l0 k 0 x160000 x160001)
def spec_CreditsOk.l0 : Nat → Int → List Int → List Int → Option (Bool)
 | 0, _, _, _ => none
 | k + 1, x3, x160000, x160001 => if x3 < 3 then (if 0 ≤ x3 then (if x3 < (x160000.length : Int) then ((spec_l01In.f (rd x160000 x3) 0 30).bind fun t161 => (if t161 = true then (if x3 < (x160001.length : Int) then ((spec_l01In.f (rd x160001 x3) 0 30).bind fun t163 => (if t163 = true then (spec_CreditsOk.l0 k (wrap64 (x3 + 1)) x160000 x160001) else (some false))) else (none)) else (some false))) else (none)) else (none)) else (some true)
end
def spec_CreditsOk.f (k : Nat) (l0_0 : List Int) (l0_1 : List Int) : Option (Bool) := if (l0_0.length : Int) = 3 then (spec_CreditsOk.j0 k ((l0_1.length : Int) != 3) l0_0 l0_1) else (spec_CreditsOk.j0 k true l0_0 l0_1)
set_option maxHeartbeats 8000000 in
set_option maxRecDepth 100000 in
theorem spec_CreditsOk.calls (k : Nat) (A0_0 : Option Addr) (c0_0 : Nat) (l0_0 : List Int) (A0_1 : Option Addr) (c0_1 : Nat) (l0_1 : List Int) (r : Bool) (w : World) (hr0_0 : Kd.C (Kd.int .i64) w A0_0 l0_0.length l0_0) (hc0_0 : l0_0.length ≤ c0_0) (hr0_1 : Kd.C (Kd.int .i64) w A0_1 l0_1.length l0_1) (hc0_1 : l0_1.length ≤ c0_1) (h : spec_CreditsOk.f k l0_0 l0_1 = some r) :
  Calls Try.prog 33 #[.agg #[.slice A0_0 l0_0.length c0_0, .slice A0_1 l0_1.length c0_1]] w fun e w' => e = .returned (.bool r) ∧ Below w.heap.size w w' := by
 have hu30 := Try.underlying30
 have HR0_0 := A_.mk hr0_0
 have HC0_0 := A_.mk hc0_0
 clear hr0_0 hc0_0
 have HR0_1 := A_.mk hr0_1
 have HC0_1 := A_.mk hc0_1
 clear hr0_1 hc0_1
 have HB := A_.mk (Below.refl w.heap.size w)
 have H : (if (l0_0.length : Int) = 3 then (spec_CreditsOk.j0 k ((l0_1.length : Int) != 3) l0_0 l0_1) else (spec_CreditsOk.j0 k true l0_0 l0_1)) = some r := h
 clear h
 have HC2 := A_.mk H
 clear H
 go_enter Try.func33, Try.ntmps33
 go_upto_region 1 with (first | ((with_reducible refine gd_ (N := 1) rfl ?_); (try (refine gate_guard (by rfl) ?_; dsimp only)); refine by_ 1 (cs := #[.slice A0_0 l0_0.length c0_0, .slice A0_1 l0_1.length c0_1]) (t := 30) ?_; intro gb159 hg w3 hbox hb; have n0_ := A_.mk (bt_ (beY HB.out) hb); have n1_ := A_.mk (hbox); have n2_ := A_.mk ((by rw [hg]; exact (bz_ (beY HB.out)) : w.heap.size ≤ gb159)); have n3_ := A_.mk ((by rw [hg]; exact (bz_ (beY HB.out)) : w.heap.size ≤ gb159)); clear HB; have HB := n0_; have BK159 := n1_; have GW159 := n2_; have GE159 := n3_; clear n0_ n1_ n2_ n3_ hb hbox hg))
 (try simp only [Act.put, List.setIfInBounds_toArray, List.set_cons_zero, List.set_cons_succ])
 go_cut [13] (fun v13 wc => ∃ (kq : Nat) (x13_1 : Bool), v13 = .bool x13_1 ∧ A_ (spec_CreditsOk.j0 kq x13_1 l0_0 l0_1 = some r) ∧ A_ (kq ≤ k) ∧ A_ (wc.heap[gb159]? = some (.cells #[(.slice A0_0 l0_0.length c0_0), (.slice A0_1 l0_1.length c0_1)] 30 (0, 0))) ∧ A_ (Below w.heap.size w wc))
 case first =>
  have H := HC2.out
  clear HC2
  by_cases c4 : (l0_0.length : Int) = 3
  rotate_left
  ·rw [if_neg c4] at H
   have c4b0 : ((l0_0.length : Int) == 3) = false := beq_eq_false_iff_ne.mpr c4
   have c4b1 : ((l0_0.length : Int) != 3) = true := bne_iff_ne.mpr c4
   (first | rw [c4b0] | (simp only [i64_w, i32_w]; rw [c4b0]) | skip)
   have H' := A_.mk H
   clear H
   obtain ⟨hcz6_0, hcz6_1, hfz6_0, hfz6_1⟩ := b2 BK159.out
   go_wp2
   go_meet
   case rel => exact ⟨_, (true), (by first | rfl | (simp; done) | (simp [*]; done)), H', ⟨by first | omega | exact Nat.le_refl _⟩, ⟨by (repeat apply bX); exact BK159.out⟩, ⟨by repeat (first | (with_reducible first | exact HB.out | apply ba_ | apply bd_ | apply be_ | refine bs_ ?_ GE159.out) | exact HB.out)⟩⟩
  rw [if_pos c4] at H
  have c4b0 : ((l0_0.length : Int) == 3) = true := beq_iff_eq.mpr c4
  have c4b1 : ((l0_0.length : Int) != 3) = false := bne_eq_false_iff_eq.mpr c4
  clear c4
  (first | rw [c4b0] | (simp only [i64_w, i32_w]; rw [c4b0]) | skip)
  have H' := A_.mk H
  clear H
  obtain ⟨hcz5_0, hcz5_1, hfz5_0, hfz5_1⟩ := b2 BK159.out
  go_wp2
  go_meet
  case rel => exact ⟨_, (((l0_1.length : Int) != 3)), (by first | rfl | (simp; done) | (simp [*]; done)), H', ⟨by first | omega | exact Nat.le_refl _⟩, ⟨by (repeat apply bX); exact BK159.out⟩, ⟨by repeat (first | (with_reducible first | exact HB.out | apply ba_ | apply bd_ | apply be_ | refine bs_ ?_ GE159.out) | exact HB.out)⟩⟩
 case rest =>
  clear HC2
  obtain ⟨kq, x13_1, rfl, HA, HJ1, BK159, HB⟩ := hcut
  cases kq with
  | zero => exact absurd HA.out (by simp [spec_CreditsOk.j0])
  | succ kj1 =>
   have H := HA.out
   clear HA
   simp only [spec_CreditsOk.j0] at H
   by_cases c7 : x13_1 = true
   ·subst c7
    have H1 : (some false) = some r := by rw [if_pos rfl] at H; exact H
    clear H
    have H := H1
    clear H1
    obtain rfl := Option.some.inj H
    go_wp2
    go_ret
    exact ⟨by first | rfl | (simp [errW_none, errW_some] <;> rfl) | (simp [*, errW_none, errW_some] <;> rfl), by repeat (first | (with_reducible first | exact HB.out | apply ba_ | apply bd_ | apply be_ | refine bs_ ?_ GE159.out) | exact HB.out)⟩
   replace c7 := Bool.eq_false_iff.mpr c7
   subst c7
   have H1 : (spec_CreditsOk.l0 kj1 0 l0_0 l0_1) = some r := by rw [if_neg (show ¬ (false = true) by decide)] at H; exact H
   clear H
   have H := H1
   clear H1
   have H' := A_.mk H
   clear H
   go_wp2
   go_loopg [3] kj1 (fun kq v3 w' => ∃ (x3_2 : Int), v3 = .int .i64 x3_2 ∧ A_ (spec_CreditsOk.l0 kq x3_2 l0_0 l0_1 = some r) ∧ A_ (kq ≤ kj1) ∧ A_ (w'.heap[gb159]? = some (.cells #[(.slice A0_0 l0_0.length c0_0), (.slice A0_1 l0_1.length c0_1)] 30 (0, 0))) ∧ A_ (Below w.heap.size w w'))
   case atStart => exact ⟨(0), (by first | rfl | (simp; done) | (simp [*]; done)), H', ⟨Nat.le_refl _⟩, ⟨by (repeat apply bX); exact BK159.out⟩, ⟨by repeat (first | (with_reducible first | exact HB.out | apply ba_ | apply bd_ | apply be_ | refine bs_ ?_ GE159.out) | exact HB.out)⟩⟩
   case round =>
    clear H'
    obtain ⟨x3_2, rfl, HA, HK2, BK159, HB⟩ := hrel
    cases gk with
    | zero => exact absurd HA.out (by simp [spec_CreditsOk.l0])
    | succ k2 =>
     have H := HA.out
     clear HA
     simp only [spec_CreditsOk.l0] at H
     by_cases c8 : x3_2 < 3
     rotate_left
     ·rw [if_neg c8] at H
      have c8b0 : decide (x3_2 < 3) = false := decide_eq_false c8
      clear c8
      obtain rfl := Option.some.inj H
      go_wp2
      go_ret
      exact ⟨by first | rfl | (simp [errW_none, errW_some] <;> rfl) | (simp [*, errW_none, errW_some] <;> rfl), by repeat (first | (with_reducible first | exact HB.out | apply ba_ | apply bd_ | apply be_ | refine bs_ ?_ GE159.out) | exact HB.out)⟩
     rw [if_pos c8] at H
     have c8b0 : decide (x3_2 < 3) = true := decide_eq_true c8
     clear c8
     by_cases c9 : 0 ≤ x3_2
     rotate_left
     ·rw [if_neg c9] at H
      exact absurd H (by simp)
     rw [if_pos c9] at H
     have c9b0 : decide (0 ≤ x3_2) = true := decide_eq_true c9
     clear c9
     by_cases c10 : x3_2 < (l0_0.length : Int)
     rotate_left
     ·rw [if_neg c10] at H
      exact absurd H (by simp)
     rw [if_pos c10] at H
     have c10b0 : decide (x3_2 < (l0_0.length : Int)) = true := decide_eq_true c10
     clear c10
     replace H := ob_ H
     obtain ⟨t161, A110, H⟩ := H
     have A11 := A_.mk A110
     clear A110
     by_cases c12 : t161 = true
     rotate_left
     ·replace c12 := Bool.eq_false_iff.mpr c12
      subst c12
      have H1 : (some false) = some r := by rw [if_neg (show ¬ (false = true) by decide)] at H; exact H
      clear H
      have H := H1
      clear H1
      obtain rfl := Option.some.inj H
      obtain ⟨hcz18_0, hcz18_1, hfz18_0, hfz18_1⟩ := b2 BK159.out
      have p160 : 0 ≤ (x3_2 : Int) := od_
      have q160 : x3_2 < (l0_0.length : Int) := od_
      obtain ⟨ad160, e160, hx160_0⟩ := Kd.at_int HR0_0.out x3_2 p160 q160
      cases e160
      replace hx160_0 := (HB.out.cell (wl_ w _ hx160_0)).trans hx160_0
      replace p160 := eq_true p160
      replace q160 := eq_true q160
      go_wp2_with (first | ((with_reducible refine gc_ (f := 49) rfl ?_); refine gl_ (some 23) Try.func49 #[.int .i64 (rd l0_0 x3_2), .int .i64 0, .int .i64 30] ?_; (with_reducible refine (spec_l01In.calls (rd l0_0 x3_2) 0 30 false _ A11.out).mono ?_); rintro e w' ⟨rfl, ⟨nd, rfl⟩⟩; refine ⟨_, rfl, ?_⟩))
      go_ret
      exact ⟨by first | rfl | (simp [errW_none, errW_some] <;> rfl) | (simp [*, errW_none, errW_some] <;> rfl), by repeat (first | (with_reducible first | exact HB.out | apply ba_ | apply bd_ | apply be_ | refine bs_ ?_ GE159.out) | exact HB.out)⟩
     subst c12
     have H1 : (if x3_2 < (l0_1.length : Int) then ((spec_l01In.f (rd l0_1 x3_2) 0 30).bind fun t163 => (if t163 = true then (spec_CreditsOk.l0 k2 (wrap64 (x3_2 + 1)) l0_0 l0_1) else (some false))) else (none)) = some r := by rw [if_pos rfl] at H; exact H
     clear H
     have H := H1
     clear H1
     by_cases c13 : x3_2 < (l0_1.length : Int)
     rotate_left
     ·rw [if_neg c13] at H
      exact absurd H (by simp)
     rw [if_pos c13] at H
     have c13b0 : decide (x3_2 < (l0_1.length : Int)) = true := decide_eq_true c13
     clear c13
     replace H := ob_ H
     obtain ⟨t163, A140, H⟩ := H
     have A14 := A_.mk A140
     clear A140
     by_cases c15 : t163 = true
     rotate_left
     ·replace c15 := Bool.eq_false_iff.mpr c15
      subst c15
      have H1 : (some false) = some r := by rw [if_neg (show ¬ (false = true) by decide)] at H; exact H
      clear H
      have H := H1
      clear H1
      obtain rfl := Option.some.inj H
      obtain ⟨hcz17_0, hcz17_1, hfz17_0, hfz17_1⟩ := b2 BK159.out
      have p160 : 0 ≤ (x3_2 : Int) := od_
      have q160 : x3_2 < (l0_0.length : Int) := od_
      obtain ⟨ad160, e160, hx160_0⟩ := Kd.at_int HR0_0.out x3_2 p160 q160
      cases e160
      replace hx160_0 := (HB.out.cell (wl_ w _ hx160_0)).trans hx160_0
      replace p160 := eq_true p160
      replace q160 := eq_true q160
      go_wp2_with (first | ((with_reducible refine gc_ (f := 49) rfl ?_); refine gl_ (some 23) Try.func49 #[.int .i64 (rd l0_0 x3_2), .int .i64 0, .int .i64 30] ?_; (with_reducible refine (spec_l01In.calls (rd l0_0 x3_2) 0 30 true _ A11.out).mono ?_); rintro e w' ⟨rfl, ⟨nd, rfl⟩⟩; refine ⟨_, rfl, ?_⟩; have p162 : 0 ≤ (x3_2 : Int) := od_; have q162 : x3_2 < (l0_1.length : Int) := od_; obtain ⟨ad162, e162, hx162_0⟩ := Kd.at_int HR0_1.out x3_2 p162 q162; cases e162; replace hx162_0 := (HB.out.cell (wl_ w _ hx162_0)).trans hx162_0; replace p162 := eq_true p162; replace q162 := eq_true q162) | (go_at_call 49; (with_reducible refine (spec_l01In.calls (rd l0_1 x3_2) 0 30 false _ A14.out).mono ?_); rintro e w' ⟨rfl, ⟨nd, rfl⟩⟩))
      go_ret
      exact ⟨by first | rfl | (simp [errW_none, errW_some] <;> rfl) | (simp [*, errW_none, errW_some] <;> rfl), by repeat (first | (with_reducible first | exact HB.out | apply ba_ | apply bd_ | apply be_ | refine bs_ ?_ GE159.out) | exact HB.out)⟩
     subst c15
     have H1 : (spec_CreditsOk.l0 k2 (wrap64 (x3_2 + 1)) l0_0 l0_1) = some r := by rw [if_pos rfl] at H; exact H
     clear H
     have H := H1
     clear H1
     have H' := A_.mk H
     clear H
     obtain ⟨hcz16_0, hcz16_1, hfz16_0, hfz16_1⟩ := b2 BK159.out
     have p160 : 0 ≤ (x3_2 : Int) := od_
     have q160 : x3_2 < (l0_0.length : Int) := od_
     obtain ⟨ad160, e160, hx160_0⟩ := Kd.at_int HR0_0.out x3_2 p160 q160
     cases e160
     replace hx160_0 := (HB.out.cell (wl_ w _ hx160_0)).trans hx160_0
     replace p160 := eq_true p160
     replace q160 := eq_true q160
     go_wp2_with (first | ((with_reducible refine gc_ (f := 49) rfl ?_); refine gl_ (some 23) Try.func49 #[.int .i64 (rd l0_0 x3_2), .int .i64 0, .int .i64 30] ?_; (with_reducible refine (spec_l01In.calls (rd l0_0 x3_2) 0 30 true _ A11.out).mono ?_); rintro e w' ⟨rfl, ⟨nd, rfl⟩⟩; refine ⟨_, rfl, ?_⟩; have p162 : 0 ≤ (x3_2 : Int) := od_; have q162 : x3_2 < (l0_1.length : Int) := od_; obtain ⟨ad162, e162, hx162_0⟩ := Kd.at_int HR0_1.out x3_2 p162 q162; cases e162; replace hx162_0 := (HB.out.cell (wl_ w _ hx162_0)).trans hx162_0; replace p162 := eq_true p162; replace q162 := eq_true q162) | (go_at_call 49; (with_reducible refine (spec_l01In.calls (rd l0_1 x3_2) 0 30 true _ A14.out).mono ?_); rintro e w' ⟨rfl, ⟨nd, rfl⟩⟩))
     go_roundg k2
     case measure => have := HJ1.out; have := HK2.out; omega
     case rel => exact ⟨(wrap64 (x3_2 + 1)), (by first | rfl | (simp; done) | (simp [*]; done)), H', ⟨by have := HJ1.out; have := HK2.out; omega⟩, ⟨by (repeat apply bX); exact BK159.out⟩, ⟨by repeat (first | (with_reducible first | exact HB.out | apply ba_ | apply bd_ | apply be_ | refine bs_ ?_ GE159.out) | exact HB.out)⟩⟩
/-! ### spec_l14Copy: function 34 -/
def spec_l14Copy.f (l0_0 : List Int) (l0_1 : List Int) : Option (List Int × List Int) := (some (([] : List Int) : List Int)).bind fun y166 => (if y166.length + l0_0.length < 17592186044416 then ((some (([] : List Int) : List Int)).bind fun y172 => (if y172.length + l0_1.length < 17592186044416 then (some ((y166 ++ l0_0), (y172 ++ l0_1))) else (none))) else (none))
def spec_l14Copy.T1 : Bool × List (List Nat × List Nat) := (true, [([], []), ([], []), ([1], [1]), ([0, 2], [0, 2]), ([], []), ([], []), ([5], [5]), ([4, 6, 3], [4, 6]), ([3, 7], [3, 7]), ([8, 7, 0, 1, 2, 3, 4, 5, 6, 7, 8], [8])])
def spec_l14Copy.B1 : List Nat := [0, 0, 2, 7, 0, 0, 32, 127, 255, 511]
theorem spec_l14Copy.tab1 : rtab .any (opsOf Try.f34 1) = spec_l14Copy.T1 := by kernel_rfl
theorem spec_l14Copy.bits1 : waitsOk spec_l14Copy.T1.2 spec_l14Copy.B1 = true := by kernel_rfl
set_option maxHeartbeats 8000000 in
set_option maxRecDepth 100000 in
theorem spec_l14Copy.calls (A0_0 : Option Addr) (c0_0 : Nat) (l0_0 : List Int) (A0_1 : Option Addr) (c0_1 : Nat) (l0_1 : List Int) (r1 : List Int) (r2 : List Int) (w : World) (hr0_0 : Kd.C (Kd.int .i64) w A0_0 l0_0.length l0_0) (hc0_0 : l0_0.length ≤ c0_0) (hr0_1 : Kd.C (Kd.int .i64) w A0_1 l0_1.length l0_1) (hc0_1 : l0_1.length ≤ c0_1) (h : spec_l14Copy.f l0_0 l0_1 = some (r1, r2)) :
  Calls Try.prog 34 #[.agg #[.slice A0_0 l0_0.length c0_0, .slice A0_1 l0_1.length c0_1]] w fun e w' => ∃ v0_ v1_ : Value, e = .returned (.agg #[v0_, v1_]) ∧ Kd.R (Kd.int .i64) 3 w' w.heap.size (fun k_ => some k_ ≠ (v1_ : Value).ownBlock) v0_ r1 ∧ Kd.R (Kd.int .i64) 3 w' w.heap.size (fun k_ => some k_ ≠ (v0_ : Value).ownBlock) v1_ r2 ∧ Below w.heap.size w w' := by
 have hu30 := Try.underlying30
 have HR0_0 := A_.mk hr0_0
 have HC0_0 := A_.mk hc0_0
 clear hr0_0 hc0_0
 have HR0_1 := A_.mk hr0_1
 have HC0_1 := A_.mk hc0_1
 clear hr0_1 hc0_1
 have HB := A_.mk (Below.refl w.heap.size w)
 have H : ((some (([] : List Int) : List Int)).bind fun y166 => (if y166.length + l0_0.length < 17592186044416 then ((some (([] : List Int) : List Int)).bind fun y172 => (if y172.length + l0_1.length < 17592186044416 then (some ((y166 ++ l0_0), (y172 ++ l0_1))) else (none))) else (none))) = some (r1, r2) := h
 clear h
 obtain ⟨y166, hy166⟩ : ∃ y_ : List Int, y_ = (([] : List Int)) := ⟨_, rfl⟩
 replace H : (if y166.length + l0_0.length < 17592186044416 then ((some (([] : List Int) : List Int)).bind fun y172 => (if y172.length + l0_1.length < 17592186044416 then (some ((y166 ++ l0_0), (y172 ++ l0_1))) else (none))) else (none)) = some (r1, r2) := by first | (rw [hy166]; with_reducible exact H) | (have H2_ := (Option.bind_some _ _).symm.trans H; rw [hy166]; with_reducible exact H2_) | (have H2_ := (Option.bind_some _ _).symm.trans H; with_reducible exact H2_) | with_reducible exact H | (rw [hy166]; exact H) | exact H
 have Ny166 := A_.mk hy166
 clear hy166
 by_cases c2 : y166.length + l0_0.length < 17592186044416
 rotate_left
 ·rw [if_neg c2] at H
  exact absurd H (by simp)
 rw [if_pos c2] at H
 have LMc2 := A_.mk c2
 clear c2
 obtain ⟨y169, hy169⟩ : ∃ y_ : List Int, y_ = (y166 ++ l0_0) := ⟨_, rfl⟩
 replace H : ((some (([] : List Int) : List Int)).bind fun y172 => (if y172.length + l0_1.length < 17592186044416 then (some (y169, (y172 ++ l0_1))) else (none))) = some (r1, r2) := by first | (rw [hy169]; with_reducible exact H) | (have H2_ := (Option.bind_some _ _).symm.trans H; rw [hy169]; with_reducible exact H2_) | (have H2_ := (Option.bind_some _ _).symm.trans H; with_reducible exact H2_) | with_reducible exact H | (rw [hy169]; exact H) | exact H
 have Ny169 := A_.mk hy169
 clear hy169
 obtain ⟨y172, hy172⟩ : ∃ y_ : List Int, y_ = (([] : List Int)) := ⟨_, rfl⟩
 replace H : (if y172.length + l0_1.length < 17592186044416 then (some (y169, (y172 ++ l0_1))) else (none)) = some (r1, r2) := by first | (rw [hy172]; with_reducible exact H) | (have H2_ := (Option.bind_some _ _).symm.trans H; rw [hy172]; with_reducible exact H2_) | (have H2_ := (Option.bind_some _ _).symm.trans H; with_reducible exact H2_) | with_reducible exact H | (rw [hy172]; exact H) | exact H
 have Ny172 := A_.mk hy172
 clear hy172
 by_cases c3 : y172.length + l0_1.length < 17592186044416
 rotate_left
 ·rw [if_neg c3] at H
  exact absurd H (by simp)
 rw [if_pos c3] at H
 have LMc3 := A_.mk c3
 clear c3
 obtain ⟨y175, hy175⟩ : ∃ y_ : List Int, y_ = (y172 ++ l0_1) := ⟨_, rfl⟩
 replace H : (some (y169, y175)) = some (r1, r2) := by first | (rw [hy175]; with_reducible exact H) | (have H2_ := (Option.bind_some _ _).symm.trans H; rw [hy175]; with_reducible exact H2_) | (have H2_ := (Option.bind_some _ _).symm.trans H; with_reducible exact H2_) | with_reducible exact H | (rw [hy175]; exact H) | exact H
 have Ny175 := A_.mk hy175
 clear hy175
 simp only [Option.some.injEq, Prod.mk.injEq] at H
 obtain ⟨rfl, rfl⟩ := H
 go_enter Try.func34, Try.ntmps34
 try go_wp2_with (first | ((with_reducible refine gd_ (N := 1) rfl ?_); refine by_ 1 (cs := #[.slice A0_0 l0_0.length c0_0, .slice A0_1 l0_1.length c0_1]) (t := 30) ?_; intro gb164 hg w4 hbox hb; have n0_ := A_.mk (bt_ (beY HB.out) hb); have n1_ := A_.mk (hbox); have n2_ := A_.mk ((by rw [hg]; exact (bz_ (beY HB.out)) : w.heap.size ≤ gb164)); have n3_ := A_.mk ((by rw [hg]; exact (bz_ (beY HB.out)) : w.heap.size ≤ gb164)); clear HB; have HB := n0_; have BK164 := n1_; have GW164 := n2_; have GE164 := n3_; clear n0_ n1_ n2_ n3_ hb hbox hg) | ((with_reducible refine gd_ (N := 2) rfl ?_); refine by_ 2 (cs := #[.slice none 0 0, .slice none 0 0]) (t := 30) ?_; intro gb165 hg w5 hbox hb; have n0_ := A_.mk (bb_ (bY BK164.out) hb); have n1_ := A_.mk (bt_ (by repeat (first | (with_reducible first | exact HB.out | apply ba_ | apply bd_ | apply be_ | refine bs_ ?_ GE164.out) | exact HB.out)) hb); have n2_ := A_.mk (hbox); have n3_ := A_.mk ((by rw [hg]; exact (bz_ (by repeat (first | (with_reducible first | exact HB.out | apply ba_ | apply bd_ | apply be_ | refine bs_ ?_ GE164.out) | exact HB.out))) : w.heap.size ≤ gb165)); have n4_ := A_.mk ((by rw [hg]; exact (bz_ (by repeat (first | (with_reducible first | exact HB.out | apply ba_ | apply bd_ | apply be_ | refine bs_ ?_ GE164.out) | exact HB.out))) : w.heap.size ≤ gb165)); have n5_ := A_.mk ((by rw [hg]; exact Nat.ne_of_lt (blk_lt (bY BK164.out)) : gb164 ≠ gb165)); have n6_ := A_.mk ((by rw [hg]; exact Nat.ne_of_gt (blk_lt (bY BK164.out)) : gb165 ≠ gb164)); clear BK164 HB; have BK164 := n0_; have HB := n1_; have BK165 := n2_; have GW165 := n3_; have GE165 := n4_; have NB164_165 := n5_; have NB165_164 := n6_; clear n0_ n1_ n2_ n3_ n4_ n5_ n6_ hb hbox hg))
 have n0_ := A_.mk (bw_ BK164.out)
 have n1_ := A_.mk (bw_ BK165.out)
 have n2_ := A_.mk (be_ HB.out)
 clear BK164 BK165 HB
 have BK164 := n0_
 have BK165 := n1_
 have HB := n2_
 clear n0_ n1_ n2_
 refine start_ (n := 10) (S := fun w' => w'.cell? ⟨gb164, 0, none⟩ = some (.slice A0_0 l0_0.length c0_0) ∧ w'.cell? ⟨gb164, 1, none⟩ = some (.slice A0_1 l0_1.length c0_1)) (ds := []) #[F, F, F, F, F, F, F, F, F, F] (by kernel_rfl) rfl rfl ⟨(bc_ BK164.out 0).trans rfl, (bc_ BK164.out 1).trans rfl⟩ (fun hHeld => ?_); refine with_tabW spec_l14Copy.tab1 spec_l14Copy.bits1 (fun HT_ HW_ => ?_)
 generalize w5.drew = w6 at BK164 BK165 HB hHeld ⊢
 refine pr_ (i := 1) (N := some 4) #[F, T, F, F, F, F, F, F, F, F] rfl HT_.out ?_
 refine pr_ (i := 5) (N := some 8) #[F, T, F, F, F, T, F, F, F, F] rfl HT_.out ?_
 refine tk_ (i := 2) (N := some 5) #[F, T, T, F, F, T, F, F, F, F] rfl HT_.out HW_.out hHeld ?_
 refine tk_ (i := 6) (N := some 9) #[F, T, T, F, F, T, T, F, F, F] rfl HT_.out HW_.out hHeld ?_
 refine join_ (σ := Value × Value × Value) 3 #[T, T, T, T, T, T, T, F, F, F] (fun s_ => [(3, s_.1), (6, s_.2.1), (7, s_.2.2)]) (fun s_ w' => (w'.cell? ⟨gb164, 0, none⟩ = some (.slice A0_0 l0_0.length c0_0) ∧ w'.cell? ⟨gb164, 1, none⟩ = some (.slice A0_1 l0_1.length c0_1)) ∧ (Kd.R (Kd.int .i64) 3 w' w.heap.size (fun k_ => some k_ ≠ (s_.2.2 : Value).ownBlock) s_.2.1 y169) ∧ (Kd.R (Kd.int .i64) 3 w' w.heap.size (fun k_ => some k_ ≠ (s_.2.1 : Value).ownBlock) s_.2.2 y172) ∧ (w'.heap[gb164]? = some (.cells #[.slice A0_0 l0_0.length c0_0, .slice A0_1 l0_1.length c0_1] 30 (0, 0))) ∧ (w'.heap[gb165]? = some (.cells #[.slice none 0 0, .slice none 0 0] 30 (0, 0))) ∧ (Below w.heap.size w w')) ?_ ?_
 rotate_left
 ·intro hCont
  refine two_ (i := 0) (j := 4) (Ni := some 3) (Nj := some 7) #[T, T, T, F, F, T, T, F, F, F] #[F, T, T, F, T, T, T, F, F, F] rfl rfl rfl rfl (two_of HT_.out (by kernel_rfl)) (by decide) (by decide) (fun K hK => ?_) (fun K hK => ?_)
  ·skip
   refine Kd.R_lit_step (Kd.int .i64) _ 3 ?hg (N := 3) ?hd (xs := ([] : List Int)) (inner := []) (ok := fun _ => True) (okp := fun _ => True) ?hr ?hp (fun _ hk => hk) trivial (Below.refl _ _) (Nat.le_refl _) (by simp) ?_; (case hd => rfl); (case hg => rfl); (case hr => first | (go_simp; done) | (go_simp; rfl)); (case hp => exact (Reps.none _ _))
   intro v167 w7 ho8 hb hg_ hnew_
   clear hg_ hnew_
   (first | rw [← Ny166.out] at ho8 | (simp only [Int.reduceToNat] at ho8; rw [← Ny166.out] at ho8))
   have n0_ := A_.mk (Kd.R_lower ho8 (bz_ (by repeat (first | (with_reducible first | exact HB.out | apply ba_ | apply bd_ | apply be_ | refine bs_ ?_ GE164.out | refine bs_ ?_ GE165.out) | exact HB.out))))
   have n1_ := A_.mk (bb_ (bY BK164.out) hb)
   have n2_ := A_.mk (bb_ (bY BK165.out) hb)
   have n3_ := A_.mk (bt_ (by repeat (first | (with_reducible first | exact HB.out | apply ba_ | apply bd_ | apply be_ | refine bs_ ?_ GE164.out | refine bs_ ?_ GE165.out) | exact HB.out)) hb)
   clear BK164 BK165 HB
   have HO168 := n0_
   have BK164 := n1_
   have BK165 := n2_
   have HB := n3_
   clear n0_ n1_ n2_ n3_ hb ho8
   refine hK.out _ _ ⟨(bc_ BK164.out 0).trans rfl, (bc_ BK164.out 1).trans rfl⟩ (fun hHeld => ?_)
   clear hK K
   refine nm_ ?_
   refine two_ (i := 3) (j := 4) (Ni := some 6) (Nj := some 7) #[T, T, T, T, F, T, T, F, F, F] #[T, T, T, F, T, T, T, F, F, F] rfl rfl rfl rfl (two_of HT_.out (by kernel_rfl)) (by decide) (by decide) (fun K hK => ?_) (fun K hK => ?_)
   ·skip
    refine Kd.R_append_rows_step (Kd.int .i64) (w0 := w) w.heap.size (by rfl) (.tmp 3) (.tmp 5) 22 3 (.int .i64 0) 8 rfl Try.underlying22 info3 rfl (by decide) (by omega) v167 y166 l0_0 _ _ _ (fun _ => True) (fun _ => False) rfl rfl ?aO ?aR (fun _ _ h => h) (fun _ h => h.elim) ?aF ?aB ?aS ?aL ?_
    (case aR => repeat (first | exact (Kd.C_below HR0_0.out HB.out) | (with_reducible refine Kd.C_alloc ?_ _) | (with_reducible refine Kd.C_drewN ?_ _) | (with_reducible refine Kd.C_drew ?_)))
    (case aB => exact (by repeat (first | (with_reducible first | exact HB.out | apply ba_ | apply bd_ | apply be_ | refine bs_ ?_ GE164.out | refine bs_ ?_ GE165.out) | exact HB.out)))
    (case aF => exact (fun _ _ => trivial))
    (case aO => exact (rY HO168.out))
    (case aS => exact (bz_ (by repeat (first | (with_reducible first | exact HB.out | apply ba_ | apply bd_ | apply be_ | refine bs_ ?_ GE164.out | refine bs_ ?_ GE165.out) | exact HB.out))))
    (case aL => have := LMc2.out; omega)
    intro v170 w9 ho hb hg hat
    rw [← Ny169.out] at ho
    have n0_ := A_.mk (blk_grown (g := gb164) (o := .cells #[.slice A0_0 l0_0.length c0_0, .slice A0_1 l0_1.length c0_1] 30 (0, 0)) (bY BK164.out) hg (Kd.R_ne HO168.out BK164.out (by decide)))
    have n1_ := A_.mk (blk_grown (g := gb165) (o := .cells #[.slice none 0 0, .slice none 0 0] 30 (0, 0)) (bY BK165.out) hg (Kd.R_ne HO168.out BK165.out (by decide)))
    have n2_ := A_.mk (hb)
    have n3_ := A_.mk (ho)
    clear BK164 BK165 HB HO168
    have BK164 := n0_
    have BK165 := n1_
    have HB := n2_
    have HO171 := n3_
    clear n0_ n1_ n2_ n3_ ho hb hg hat
    refine hK.out _ _ ⟨(bc_ BK164.out 0).trans rfl, (bc_ BK164.out 1).trans rfl⟩ (fun hHeld => ?_)
    clear hK K
    refine nm_ ?_
    refine ot_ (i := 4) (N := some 7) #[T, T, T, T, T, T, T, F, F, F] rfl HT_.out (fun K hK => ?_)
    refine Kd.R_lit_step (Kd.int .i64) _ 3 ?hg (N := 7) ?hd (xs := ([] : List Int)) (inner := []) (ok := fun _ => True) (okp := fun _ => True) ?hr ?hp (fun _ hk => hk) trivial (Below.refl _ _) (Nat.le_refl _) (by simp) ?_; (case hd => rfl); (case hg => rfl); (case hr => first | (go_simp; done) | (go_simp; rfl)); (case hp => exact (Reps.none _ _))
    intro v173 w10 ho11 hb hg_ hnew_
    clear hg_ hnew_
    (first | rw [← Ny172.out] at ho11 | (simp only [Int.reduceToNat] at ho11; rw [← Ny172.out] at ho11))
    have n0_ := A_.mk (Kd.R_elder' (rY HO171.out) (Kd.R_base ho11) hb)
    have n1_ := A_.mk (Kd.R_lower (Kd.R_new' ho11 (Kd.R_lt (rY HO171.out))) (bz_ (by repeat (first | (with_reducible first | exact HB.out | apply ba_ | apply bd_ | apply be_ | refine bs_ ?_ GE164.out | refine bs_ ?_ GE165.out) | exact HB.out))))
    have n2_ := A_.mk (bb_ (bY BK164.out) hb)
    have n3_ := A_.mk (bb_ (bY BK165.out) hb)
    have n4_ := A_.mk (bt_ (by repeat (first | (with_reducible first | exact HB.out | apply ba_ | apply bd_ | apply be_ | refine bs_ ?_ GE164.out | refine bs_ ?_ GE165.out) | exact HB.out)) hb)
    clear HO171 BK164 BK165 HB
    have HO171 := n0_
    have HO174 := n1_
    have BK164 := n2_
    have BK165 := n3_
    have HB := n4_
    clear n0_ n1_ n2_ n3_ n4_ hb ho11
    refine hK.out _ _ ⟨(bc_ BK164.out 0).trans rfl, (bc_ BK164.out 1).trans rfl⟩ (fun hHeld => ?_)
    clear hK K
    refine nm_ ?_
    exact norm_ (by simp only [putAll, Act.put, List.setIfInBounds_toArray, List.set_cons_zero, List.set_cons_succ]) (hCont (v167, v170, v173) _ ⟨hHeld, (by (repeat apply rX); exact Kd.R_mono HO171.out (fun _ hk => hk.2)), (by (repeat apply rX); exact Kd.R_mono HO174.out (fun _ hk => hk.2)), (bY BK164.out), (bY BK165.out), (by repeat (first | (with_reducible first | exact HB.out | apply ba_ | apply bd_ | apply be_ | refine bs_ ?_ GE164.out | refine bs_ ?_ GE165.out) | exact HB.out))⟩)
   ·skip
    refine Kd.R_lit_step (Kd.int .i64) _ 3 ?hg (N := 7) ?hd (xs := ([] : List Int)) (inner := []) (ok := fun _ => True) (okp := fun _ => True) ?hr ?hp (fun _ hk => hk) trivial (Below.refl _ _) (Nat.le_refl _) (by simp) ?_; (case hd => rfl); (case hg => rfl); (case hr => first | (go_simp; done) | (go_simp; rfl)); (case hp => exact (Reps.none _ _))
    intro v173 w9 ho10 hb hg_ hnew_
    clear hg_ hnew_
    (first | rw [← Ny172.out] at ho10 | (simp only [Int.reduceToNat] at ho10; rw [← Ny172.out] at ho10))
    have n0_ := A_.mk (Kd.R_elder' (rY HO168.out) (Kd.R_base ho10) hb)
    have n1_ := A_.mk (Kd.R_lower (Kd.R_new' ho10 (Kd.R_lt (rY HO168.out))) (bz_ (by repeat (first | (with_reducible first | exact HB.out | apply ba_ | apply bd_ | apply be_ | refine bs_ ?_ GE164.out | refine bs_ ?_ GE165.out) | exact HB.out))))
    have n2_ := A_.mk (bb_ (bY BK164.out) hb)
    have n3_ := A_.mk (bb_ (bY BK165.out) hb)
    have n4_ := A_.mk (bt_ (by repeat (first | (with_reducible first | exact HB.out | apply ba_ | apply bd_ | apply be_ | refine bs_ ?_ GE164.out | refine bs_ ?_ GE165.out) | exact HB.out)) hb)
    clear HO168 BK164 BK165 HB
    have HO168 := n0_
    have HO174 := n1_
    have BK164 := n2_
    have BK165 := n3_
    have HB := n4_
    clear n0_ n1_ n2_ n3_ n4_ hb ho10
    refine hK.out _ _ ⟨(bc_ BK164.out 0).trans rfl, (bc_ BK164.out 1).trans rfl⟩ (fun hHeld => ?_)
    clear hK K
    refine nm_ ?_
    refine ot_ (i := 3) (N := some 6) #[T, T, T, T, T, T, T, F, F, F] rfl HT_.out (fun K hK => ?_)
    refine Kd.R_append_rows_step (Kd.int .i64) (w0 := w) w.heap.size (by rfl) (.tmp 3) (.tmp 5) 22 3 (.int .i64 0) 8 rfl Try.underlying22 info3 rfl (by decide) (by omega) v167 y166 l0_0 _ _ _ (fun k_ => some k_ ≠ (v173 : Value).ownBlock) (fun _ => False) rfl rfl ?aO ?aR (fun _ _ h => h) (fun _ h => h.elim) ?aF ?aB ?aS ?aL ?_
    (case aR => repeat (first | exact (Kd.C_below HR0_0.out HB.out) | (with_reducible refine Kd.C_alloc ?_ _) | (with_reducible refine Kd.C_drewN ?_ _) | (with_reducible refine Kd.C_drew ?_)))
    (case aB => exact (by repeat (first | (with_reducible first | exact HB.out | apply ba_ | apply bd_ | apply be_ | refine bs_ ?_ GE164.out | refine bs_ ?_ GE165.out) | exact HB.out)))
    (case aF => exact (fun k_ hk => Kd.fresh' (Kd.R_lt (rY HO174.out)) k_ hk))
    (case aO => exact (by (repeat apply rX); exact Kd.R_mono HO168.out (fun _ hk => hk.2)))
    (case aS => exact (bz_ (by repeat (first | (with_reducible first | exact HB.out | apply ba_ | apply bd_ | apply be_ | refine bs_ ?_ GE164.out | refine bs_ ?_ GE165.out) | exact HB.out))))
    (case aL => have := LMc2.out; omega)
    intro v170 w11 ho hb hg hat
    rw [← Ny169.out] at ho
    have n0_ := A_.mk (blk_grown (g := gb164) (o := .cells #[.slice A0_0 l0_0.length c0_0, .slice A0_1 l0_1.length c0_1] 30 (0, 0)) (bY BK164.out) hg (Kd.R_ne HO168.out BK164.out (by decide)))
    have n1_ := A_.mk (blk_grown (g := gb165) (o := .cells #[.slice none 0 0, .slice none 0 0] 30 (0, 0)) (bY BK165.out) hg (Kd.R_ne HO168.out BK165.out (by decide)))
    have n2_ := A_.mk (Kd.R_after (ok := (fun _ => True)) (rY HO174.out) hg hat)
    have n3_ := A_.mk (hb)
    have n4_ := A_.mk (ho)
    clear BK164 BK165 HO174 HB HO168
    have BK164 := n0_
    have BK165 := n1_
    have HO174 := n2_
    have HB := n3_
    have HO171 := n4_
    clear n0_ n1_ n2_ n3_ n4_ ho hb hg hat
    refine hK.out _ _ ⟨(bc_ BK164.out 0).trans rfl, (bc_ BK164.out 1).trans rfl⟩ (fun hHeld => ?_)
    clear hK K
    refine nm_ ?_
    exact norm_ (by simp only [putAll, Act.put, List.setIfInBounds_toArray, List.set_cons_zero, List.set_cons_succ]) (hCont (v167, v170, v173) _ ⟨hHeld, (rY HO171.out), (by (repeat apply rX); exact Kd.R_mono HO174.out (fun _ hk => hk.2)), (bY BK164.out), (bY BK165.out), (by repeat (first | (with_reducible first | exact HB.out | apply ba_ | apply bd_ | apply be_ | refine bs_ ?_ GE164.out | refine bs_ ?_ GE165.out) | exact HB.out))⟩)
  ·skip
   refine Kd.R_lit_step (Kd.int .i64) _ 3 ?hg (N := 7) ?hd (xs := ([] : List Int)) (inner := []) (ok := fun _ => True) (okp := fun _ => True) ?hr ?hp (fun _ hk => hk) trivial (Below.refl _ _) (Nat.le_refl _) (by simp) ?_; (case hd => rfl); (case hg => rfl); (case hr => first | (go_simp; done) | (go_simp; rfl)); (case hp => exact (Reps.none _ _))
   intro v173 w7 ho8 hb hg_ hnew_
   clear hg_ hnew_
   (first | rw [← Ny172.out] at ho8 | (simp only [Int.reduceToNat] at ho8; rw [← Ny172.out] at ho8))
   have n0_ := A_.mk (Kd.R_lower ho8 (bz_ (by repeat (first | (with_reducible first | exact HB.out | apply ba_ | apply bd_ | apply be_ | refine bs_ ?_ GE164.out | refine bs_ ?_ GE165.out) | exact HB.out))))
   have n1_ := A_.mk (bb_ (bY BK164.out) hb)
   have n2_ := A_.mk (bb_ (bY BK165.out) hb)
   have n3_ := A_.mk (bt_ (by repeat (first | (with_reducible first | exact HB.out | apply ba_ | apply bd_ | apply be_ | refine bs_ ?_ GE164.out | refine bs_ ?_ GE165.out) | exact HB.out)) hb)
   clear BK164 BK165 HB
   have HO174 := n0_
   have BK164 := n1_
   have BK165 := n2_
   have HB := n3_
   clear n0_ n1_ n2_ n3_ hb ho8
   refine hK.out _ _ ⟨(bc_ BK164.out 0).trans rfl, (bc_ BK164.out 1).trans rfl⟩ (fun hHeld => ?_)
   clear hK K
   refine nm_ ?_
   refine ot_ (i := 0) (N := some 3) #[T, T, T, F, T, T, T, F, F, F] rfl HT_.out (fun K hK => ?_)
   refine Kd.R_lit_step (Kd.int .i64) _ 3 ?hg (N := 3) ?hd (xs := ([] : List Int)) (inner := []) (ok := fun _ => True) (okp := fun _ => True) ?hr ?hp (fun _ hk => hk) trivial (Below.refl _ _) (Nat.le_refl _) (by simp) ?_; (case hd => rfl); (case hg => rfl); (case hr => first | (go_simp; done) | (go_simp; rfl)); (case hp => exact (Reps.none _ _))
   intro v167 w9 ho10 hb hg_ hnew_
   clear hg_ hnew_
   (first | rw [← Ny166.out] at ho10 | (simp only [Int.reduceToNat] at ho10; rw [← Ny166.out] at ho10))
   have n0_ := A_.mk (Kd.R_elder' (rY HO174.out) (Kd.R_base ho10) hb)
   have n1_ := A_.mk (Kd.R_lower (Kd.R_new' ho10 (Kd.R_lt (rY HO174.out))) (bz_ (by repeat (first | (with_reducible first | exact HB.out | apply ba_ | apply bd_ | apply be_ | refine bs_ ?_ GE164.out | refine bs_ ?_ GE165.out) | exact HB.out))))
   have n2_ := A_.mk (bb_ (bY BK164.out) hb)
   have n3_ := A_.mk (bb_ (bY BK165.out) hb)
   have n4_ := A_.mk (bt_ (by repeat (first | (with_reducible first | exact HB.out | apply ba_ | apply bd_ | apply be_ | refine bs_ ?_ GE164.out | refine bs_ ?_ GE165.out) | exact HB.out)) hb)
   clear HO174 BK164 BK165 HB
   have HO174 := n0_
   have HO168 := n1_
   have BK164 := n2_
   have BK165 := n3_
   have HB := n4_
   clear n0_ n1_ n2_ n3_ n4_ hb ho10
   refine hK.out _ _ ⟨(bc_ BK164.out 0).trans rfl, (bc_ BK164.out 1).trans rfl⟩ (fun hHeld => ?_)
   clear hK K
   refine nm_ ?_
   refine ot_ (i := 3) (N := some 6) #[T, T, T, T, T, T, T, F, F, F] rfl HT_.out (fun K hK => ?_)
   refine Kd.R_append_rows_step (Kd.int .i64) (w0 := w) w.heap.size (by rfl) (.tmp 3) (.tmp 5) 22 3 (.int .i64 0) 8 rfl Try.underlying22 info3 rfl (by decide) (by omega) v167 y166 l0_0 _ _ _ (fun k_ => some k_ ≠ (v173 : Value).ownBlock) (fun _ => False) rfl rfl ?aO ?aR (fun _ _ h => h) (fun _ h => h.elim) ?aF ?aB ?aS ?aL ?_
   (case aR => repeat (first | exact (Kd.C_below HR0_0.out HB.out) | (with_reducible refine Kd.C_alloc ?_ _) | (with_reducible refine Kd.C_drewN ?_ _) | (with_reducible refine Kd.C_drew ?_)))
   (case aB => exact (by repeat (first | (with_reducible first | exact HB.out | apply ba_ | apply bd_ | apply be_ | refine bs_ ?_ GE164.out | refine bs_ ?_ GE165.out) | exact HB.out)))
   (case aF => exact (fun k_ hk => Kd.fresh' (Kd.R_lt (rY HO174.out)) k_ hk))
   (case aO => exact (by (repeat apply rX); exact Kd.R_mono HO168.out (fun _ hk => hk.2)))
   (case aS => exact (bz_ (by repeat (first | (with_reducible first | exact HB.out | apply ba_ | apply bd_ | apply be_ | refine bs_ ?_ GE164.out | refine bs_ ?_ GE165.out) | exact HB.out))))
   (case aL => have := LMc2.out; omega)
   intro v170 w11 ho hb hg hat
   rw [← Ny169.out] at ho
   have n0_ := A_.mk (blk_grown (g := gb164) (o := .cells #[.slice A0_0 l0_0.length c0_0, .slice A0_1 l0_1.length c0_1] 30 (0, 0)) (bY BK164.out) hg (Kd.R_ne HO168.out BK164.out (by decide)))
   have n1_ := A_.mk (blk_grown (g := gb165) (o := .cells #[.slice none 0 0, .slice none 0 0] 30 (0, 0)) (bY BK165.out) hg (Kd.R_ne HO168.out BK165.out (by decide)))
   have n2_ := A_.mk (Kd.R_after (ok := (fun _ => True)) (rY HO174.out) hg hat)
   have n3_ := A_.mk (hb)
   have n4_ := A_.mk (ho)
   clear BK164 BK165 HO174 HB HO168
   have BK164 := n0_
   have BK165 := n1_
   have HO174 := n2_
   have HB := n3_
   have HO171 := n4_
   clear n0_ n1_ n2_ n3_ n4_ ho hb hg hat
   refine hK.out _ _ ⟨(bc_ BK164.out 0).trans rfl, (bc_ BK164.out 1).trans rfl⟩ (fun hHeld => ?_)
   clear hK K
   refine nm_ ?_
   exact norm_ (by simp only [putAll, Act.put, List.setIfInBounds_toArray, List.set_cons_zero, List.set_cons_succ]) (hCont (v167, v170, v173) _ ⟨hHeld, (rY HO171.out), (by (repeat apply rX); exact Kd.R_mono HO174.out (fun _ hk => hk.2)), (bY BK164.out), (bY BK165.out), (by repeat (first | (with_reducible first | exact HB.out | apply ba_ | apply bd_ | apply be_ | refine bs_ ?_ GE164.out | refine bs_ ?_ GE165.out) | exact HB.out))⟩)
 rintro ⟨v167, v170, v173⟩ w12 ⟨hS_, h0_, h1_, h2_, h3_, h4_⟩
 have n0_ : A_ (Kd.R (Kd.int .i64) 3 w12 w.heap.size (fun k_ => some k_ ≠ (v173 : Value).ownBlock) v170 y169) := ⟨h0_⟩
 have n1_ : A_ (Kd.R (Kd.int .i64) 3 w12 w.heap.size (fun k_ => some k_ ≠ (v170 : Value).ownBlock) v173 y172) := ⟨h1_⟩
 have n2_ : A_ (w12.heap[gb164]? = some (.cells #[.slice A0_0 l0_0.length c0_0, .slice A0_1 l0_1.length c0_1] 30 (0, 0))) := ⟨h2_⟩
 have n3_ : A_ (w12.heap[gb165]? = some (.cells #[.slice none 0 0, .slice none 0 0] 30 (0, 0))) := ⟨h3_⟩
 have n4_ : A_ (Below w.heap.size w w12) := ⟨h4_⟩
 clear BK164 BK165 HB h0_ h1_ h2_ h3_ h4_
 have HO171 := n0_
 have HO174 := n1_
 have BK164 := n2_
 have BK165 := n3_
 have HB := n4_
 clear n0_ n1_ n2_ n3_ n4_
 have hHeld : w12.cell? ⟨gb164, 0, none⟩ = some (.slice A0_0 l0_0.length c0_0) ∧ w12.cell? ⟨gb164, 1, none⟩ = some (.slice A0_1 l0_1.length c0_1) := hS_
 refine norm_ (a' := ?_) ?_ ?_
 rotate_left
 ·simp only [putAll, Act.put, List.setIfInBounds_toArray, List.set_cons_zero, List.set_cons_succ]
  rfl
 refine ot_ (i := 7) (N := some 10) #[T, T, T, T, T, T, T, T, F, F] rfl HT_.out (fun K hK => ?_)
 refine Kd.R_append_rows_step (Kd.int .i64) (w0 := w) w.heap.size (by rfl) (.tmp 7) (.tmp 9) 22 3 (.int .i64 0) 8 rfl Try.underlying22 info3 rfl (by decide) (by omega) v173 y172 l0_1 _ _ _ (fun k_ => some k_ ≠ (v170 : Value).ownBlock) (fun _ => False) rfl rfl ?aO ?aR (fun _ _ h => h) (fun _ h => h.elim) ?aF ?aB ?aS ?aL ?_
 (case aR => repeat (first | exact (Kd.C_below HR0_1.out HB.out) | (with_reducible refine Kd.C_alloc ?_ _) | (with_reducible refine Kd.C_drewN ?_ _) | (with_reducible refine Kd.C_drew ?_)))
 (case aB => exact (by repeat (first | (with_reducible first | exact HB.out | apply ba_ | apply bd_ | apply be_ | refine bs_ ?_ GE164.out | refine bs_ ?_ GE165.out) | exact HB.out)))
 (case aF => exact (fun k_ hk => Kd.fresh' (Kd.R_lt (rY HO171.out)) k_ hk))
 (case aO => exact (rY HO174.out))
 (case aS => exact (bz_ (by repeat (first | (with_reducible first | exact HB.out | apply ba_ | apply bd_ | apply be_ | refine bs_ ?_ GE164.out | refine bs_ ?_ GE165.out) | exact HB.out))))
 (case aL => have := LMc3.out; omega)
 intro v176 w13 ho hb hg hat
 rw [← Ny175.out] at ho
 have n0_ := A_.mk (blk_grown (g := gb164) (o := .cells #[.slice A0_0 l0_0.length c0_0, .slice A0_1 l0_1.length c0_1] 30 (0, 0)) (bY BK164.out) hg (Kd.R_ne HO174.out BK164.out (by decide)))
 have n1_ := A_.mk (blk_grown (g := gb165) (o := .cells #[.slice none 0 0, .slice none 0 0] 30 (0, 0)) (bY BK165.out) hg (Kd.R_ne HO174.out BK165.out (by decide)))
 have n2_ := A_.mk (Kd.R_after (ok := (fun _ => True)) (by (repeat apply rX); exact Kd.R_mono HO171.out (fun _ hk => ⟨trivial, hk⟩)) hg hat)
 have n3_ := A_.mk (hb)
 have n4_ := A_.mk (ho)
 clear BK164 BK165 HO171 HB HO174
 have BK164 := n0_
 have BK165 := n1_
 have HO171 := n2_
 have HB := n3_
 have HO177 := n4_
 clear n0_ n1_ n2_ n3_ n4_ ho hb hg hat
 obtain ⟨Ao14, co14, eo14⟩ := Kd.R_slice HO177.out
 (first | subst eo14 | (injection eo14 with f1_ f2_ f3_; have f4_ := f1_.symm; have f5_ := f3_.symm; clear f1_ f2_ f3_; subst f4_; subst f5_))
 obtain ⟨Ao15, co15, eo15⟩ := Kd.R_slice HO171.out
 (first | subst eo15 | (injection eo15 with f1_ f2_ f3_; have f4_ := f1_.symm; have f5_ := f3_.symm; clear f1_ f2_ f3_; subst f4_; subst f5_))
 refine hK.out _ _ ⟨(bc_ BK164.out 0).trans rfl, (bc_ BK164.out 1).trans rfl⟩ (fun hHeld => ?_)
 clear hK K
 refine nm_ ?_
 refine pr_ (i := 8) (N := some 11) #[T, T, T, T, T, T, T, T, T, F] rfl HT_.out ?_
 refine ot_ (i := 9) (N := none) #[T, T, T, T, T, T, T, T, T, T] rfl HT_.out (fun K hK => ?_)
 have hs16 : w13.cell? ⟨gb165, 0, none⟩ = some (.slice none 0 0) := (bc_ BK165.out 0).trans rfl
 have hfs16 := bf_ BK165.out 0
 have hns16_0 := NB164_165.out
 have hms16_0 := NB165_164.out
 have hs17 : w13.cell? ⟨gb165, 1, none⟩ = some (.slice none 0 0) := (bc_ BK165.out 1).trans rfl
 have hfs17 := bf_ BK165.out 1
 have hns17_0 := NB164_165.out
 have hms17_0 := NB165_164.out
 refine skip_ (w1 := ?_) (by rfl) rfl ?_ ?_
 rotate_left
 ·go_simp
  rfl
 refine hK.out _ _ ⟨((cell_far (p := ⟨gb165, _, none⟩) NB164_165.out _).trans (((cell_far (p := ⟨gb165, _, none⟩) NB164_165.out _).trans (hHeld.1)))), ((cell_far (p := ⟨gb165, _, none⟩) NB164_165.out _).trans (((cell_far (p := ⟨gb165, _, none⟩) NB164_165.out _).trans (hHeld.2))))⟩ (fun hHeld => ?_)
 clear hK K
 refine done_ (done_of HT_.out (by kernel_rfl)) ?_
 try go_wp2
 refine bodyPost_ret (results_cell_row rfl _ _ gb165 30 #[.slice Ao15 y169.length co15, .slice Ao14 y175.length co14] (0, 0) _ rfl (by (repeat apply bX); refine bp_ (cs := #[.slice Ao15 y169.length co15, .slice none 0 0]) ?_ 1 _ rfl; (repeat apply bX); refine bp_ (cs := #[.slice none 0 0, .slice none 0 0]) ?_ 0 _ rfl; (repeat apply bX); exact BK165.out) Try.underlying30 rfl (by kernel_rfl)) rfl ?_
 exact ⟨_, _, by first | rfl | (simp [errW_none, errW_some] <;> rfl) | (simp [*, errW_none, errW_some] <;> rfl), by (repeat apply rX); exact Kd.R_mono (Kd.R_far (p := ⟨gb165, 1, none⟩) (Kd.R_far (p := ⟨gb165, 0, none⟩) (Kd.R_types HO171.out BK165.out (by decide)) (fun _ hk => hk.2) (.slice Ao15 y169.length co15)) (fun _ hk => hk.2) (.slice Ao14 y175.length co14)) (fun _ hk => hk.1.2), by (repeat apply rX); exact Kd.R_mono (Kd.R_far (p := ⟨gb165, 1, none⟩) (Kd.R_far (p := ⟨gb165, 0, none⟩) (Kd.R_types HO177.out BK165.out (by decide)) (fun _ hk => hk.2) (.slice Ao15 y169.length co15)) (fun _ hk => hk.2) (.slice Ao14 y175.length co14)) (fun _ hk => hk.1), by repeat (first | (with_reducible first | exact HB.out | apply ba_ | apply bd_ | apply be_ | refine bs_ ?_ GE164.out | refine bs_ ?_ GE165.out) | exact HB.out)⟩
end Go.Proofs.Ytlombfmebinjbaa.PFnExactTellCredits
