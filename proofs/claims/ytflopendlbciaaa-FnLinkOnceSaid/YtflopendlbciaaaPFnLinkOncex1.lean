-- Written by a program of this session (wip/xp): not trusted, Lean checks it.
import Derived.Test.YtflopendlbciaaaPFnLinkOncex0
namespace Go.Proofs.Ytflopendlbciaaa.PFnLinkOnce
open Go.RowKit Go.Proofs.YtflopendlbciaaaW.PrintWords Go.Proofs.YtflopendlbciaaaW.PrintLast Go.Proofs.YtflopendlbciaaaW.PrintMore
attribute [local go_sem] max2_int min2_int max_two min_two max_three min_three max_four min_four   -- for this text's walks alone
set_option linter.unusedVariables false
set_option linter.unusedSimpArgs false

/-! ### laws_big: function 4 -/
def laws_big.f (l0 : List Int) : Option (Bool) := some (decide ((l0.length : Int) > 1048576))
set_option maxHeartbeats 8000000 in
set_option maxRecDepth 100000 in
theorem laws_big.calls (A0 : Option Addr) (c0 : Nat) (l0 : List Int) (r : Bool) (w : World) (hr0 : Kd.C (Kd.int .u8) w A0 l0.length l0) (hc0 : l0.length ≤ c0) (h : laws_big.f l0 = some r) :
  Calls Try.prog 4 #[.slice A0 l0.length c0] w fun e w' => e = .returned (.bool r) ∧ Drawn0 w w' := by
 have HR0 := A_.mk hr0
 have HC0 := A_.mk hc0
 clear hr0 hc0
 have H : (some (decide ((l0.length : Int) > 1048576))) = some r := h
 clear h
 obtain rfl := Option.some.inj H
 go_enter Try.func4, Try.ntmps4
 go_wp2
 go_ret
 exact ⟨by first | rfl | (simp; done) | (simp [*]; done), by repeat (first | exact Drawn0.refl _ | apply Drawn0.step)⟩

/-- A state of type 52 at block g of W; what its slices lead to came in by w0. -/
def IsS52 (w0 W : World) (g : Nat) (f0 : List Int) (f1 : Int) (f2 : Int) : Prop := ∃ A0 c0, W.heap[g]? = some (.cells #[.slice A0 f0.length c0, .int .i64 f1, .int .i64 f2] 52 (0, 0)) ∧ w0.heap.size ≤ g ∧ Kd.C (Kd.int .u8) w0 A0 f0.length f0
theorem IsS52.grown {w0 W : World} {g : Nat} {f0 : List Int} {f1 : Int} {f2 : Int} {W1 : World} {row : Option Nat} (h : IsS52 w0 W g f0 f1 f2) (hw : W.grownBy W1 row) (hne : some g ≠ row) : IsS52 w0 W1 g f0 f1 f2 := by
 obtain ⟨A0, c0, hb, hg, hr0⟩ := h
 exact ⟨A0, c0, blk_grown hb hw hne, hg, hr0⟩
theorem IsS52.below {w0 W : World} {g : Nat} {f0 : List Int} {f1 : Int} {f2 : Int} {W1 : World} (h : IsS52 w0 W g f0 f1 f2) (hw : Below W.heap.size W W1) : IsS52 w0 W1 g f0 f1 f2 := h.grown (grown_of_below hw none) (by simp)
theorem IsS52.alloc {w0 W : World} {g : Nat} {f0 : List Int} {f1 : Int} {f2 : Int} (h : IsS52 w0 W g f0 f1 f2) (o : Obj) : IsS52 w0 (W.alloc o) g f0 f1 f2 := h.below (ba_ (Below.refl _ _) o)
theorem IsS52.drewN {w0 W : World} {g : Nat} {f0 : List Int} {f1 : Int} {f2 : Int} (h : IsS52 w0 W g f0 f1 f2) (m : Nat) : IsS52 w0 (W.drewN m) g f0 f1 f2 := h
theorem IsS52.drew {w0 W : World} {g : Nat} {f0 : List Int} {f1 : Int} {f2 : Int} (h : IsS52 w0 W g f0 f1 f2) : IsS52 w0 W.drew g f0 f1 f2 := h
theorem IsS52.apart {w0 W : World} {g : Nat} {f0 : List Int} {f1 : Int} {f2 : Int} {α : Type} {d : Kd α} {e : Nat} {base : Nat} {ok : Nat → Prop} {v : Value} {xs : List α} (h : IsS52 w0 W g f0 f1 f2) (ho : d.R e W base ok v xs) (ht : ∀ q, q ∈ e :: d.E → q ≠ 52) : d.R e W base (fun k => ok k ∧ k ≠ g) v xs := by
 obtain ⟨A0, c0, hb, hg, hr0⟩ := h
 exact Kd.R_types ho hb ht
theorem IsS52.own_ne {w0 W : World} {g : Nat} {f0 : List Int} {f1 : Int} {f2 : Int} {α : Type} {d : Kd α} {e : Nat} {base : Nat} {ok : Nat → Prop} {v : Value} {xs : List α} (h : IsS52 w0 W g f0 f1 f2) (ho : d.R e W base ok v xs) (ht : e ≠ 52) : some g ≠ v.ownBlock := by
 obtain ⟨A0, c0, hb, hg, hr0⟩ := h
 exact Kd.R_ne ho hb ht
theorem IsS52.lt {w0 W : World} {g : Nat} {f0 : List Int} {f1 : Int} {f2 : Int} (h : IsS52 w0 W g f0 f1 f2) : g < W.heap.size := by
 obtain ⟨A0, c0, hb, hg, hr0⟩ := h
 exact blk_lt hb
theorem IsS52.ge {w0 W : World} {g : Nat} {f0 : List Int} {f1 : Int} {f2 : Int} (h : IsS52 w0 W g f0 f1 f2) : w0.heap.size ≤ g := by
 obtain ⟨A0, c0, hb, hg, hr0⟩ := h
 exact hg
theorem IsS52.far {w0 W : World} {g : Nat} {f0 : List Int} {f1 : Int} {f2 : Int} {p : Addr} (h : IsS52 w0 W g f0 f1 f2) (hne : g ≠ p.block) (u : Value) : IsS52 w0 (W.setCell p u) g f0 f1 f2 := by
 obtain ⟨A0, c0, hb, hg, hr0⟩ := h
 exact ⟨A0, c0, blk_far hb hne u, hg, hr0⟩
theorem cellS52_0 {W : World} {g : Nat} {A0 : Option Addr} {c0 : Nat} {f0 : List Int} {f1 : Int} {f2 : Int} (h : W.heap[g]? = some (.cells #[.slice A0 f0.length c0, .int .i64 f1, .int .i64 f2] 52 (0, 0))) : W.cell? ⟨g, 0, none⟩ = some (.slice A0 f0.length c0) := (bc_ h 0).trans rfl
theorem cellS52_1 {W : World} {g : Nat} {A0 : Option Addr} {c0 : Nat} {f0 : List Int} {f1 : Int} {f2 : Int} (h : W.heap[g]? = some (.cells #[.slice A0 f0.length c0, .int .i64 f1, .int .i64 f2] 52 (0, 0))) : W.cell? ⟨g, 1, none⟩ = some (.int .i64 f1) := (bc_ h 1).trans rfl
theorem IsS52.set_1 {w0 W : World} {g : Nat} {f0 : List Int} {f1 : Int} {f2 : Int} (h : IsS52 w0 W g f0 f1 f2) (x : Int) : IsS52 w0 (W.setCell ⟨g, 1, none⟩ (.int .i64 x)) g f0 x f2 := by
 obtain ⟨A0, c0, hb, hg, hr0⟩ := h
 exact ⟨A0, c0, by simpa using blk_set hb 1 (.int .i64 x), hg, hr0⟩
theorem cellS52_2 {W : World} {g : Nat} {A0 : Option Addr} {c0 : Nat} {f0 : List Int} {f1 : Int} {f2 : Int} (h : W.heap[g]? = some (.cells #[.slice A0 f0.length c0, .int .i64 f1, .int .i64 f2] 52 (0, 0))) : W.cell? ⟨g, 2, none⟩ = some (.int .i64 f2) := (bc_ h 2).trans rfl
theorem IsS52.set_2 {w0 W : World} {g : Nat} {f0 : List Int} {f1 : Int} {f2 : Int} (h : IsS52 w0 W g f0 f1 f2) (x : Int) : IsS52 w0 (W.setCell ⟨g, 2, none⟩ (.int .i64 x)) g f0 f1 x := by
 obtain ⟨A0, c0, hb, hg, hr0⟩ := h
 exact ⟨A0, c0, by simpa using blk_set hb 2 (.int .i64 x), hg, hr0⟩
/-! ### spec_l01Byte: function 43 -/
def spec_l01Byte.f (s0_0 : List Int) (s0_1 : Int) (s0_2 : Int) : Option (Int × Int × Int) := if s0_1 < (s0_0.length : Int) then (if 0 ≤ s0_1 then (some (Go.bits .and .i64 (wrap64 ((Go.bits .and .i64 (Go.bits .xor .i64 ((wrap64 ((wrap64 (s0_2 * 6364136223846793005)) + 1442695040888963407)) / 8589934592) ((wrap64 ((wrap64 (s0_2 * 6364136223846793005)) + 1442695040888963407)) / 35184372088832)) 255) + (wrap64 (rd s0_0 s0_1)))) 255, wrap64 (s0_1 + 1), wrap64 ((wrap64 (s0_2 * 6364136223846793005)) + 1442695040888963407))) else (none)) else (some (Go.bits .and .i64 (Go.bits .xor .i64 ((wrap64 ((wrap64 (s0_2 * 6364136223846793005)) + 1442695040888963407)) / 8589934592) ((wrap64 ((wrap64 (s0_2 * 6364136223846793005)) + 1442695040888963407)) / 35184372088832)) 255, s0_1, wrap64 ((wrap64 (s0_2 * 6364136223846793005)) + 1442695040888963407)))
set_option maxHeartbeats 8000000 in
set_option maxRecDepth 100000 in
theorem spec_l01Byte.calls (g : Nat) (s0_0 : List Int) (s0_1 : Int) (s0_2 : Int) (r1 : Int) (r2 : Int) (r3 : Int) (w0 w : World) (hI : IsS52 w0 w g s0_0 s0_1 s0_2) (hB : Below w0.heap.size w0 w) (h : spec_l01Byte.f s0_0 s0_1 s0_2 = some (r1, r2, r3)) :
  Calls Try.prog 43 #[.pointer (some ⟨g, 0, none⟩)] w fun e w' => e = .returned (.int .i64 r1) ∧ IsS52 w0 w' g s0_0 r2 r3 ∧ Below w0.heap.size w0 w' ∧ KB_ w w' g none := by
 have HI0 := A_.mk hI
 have HK := A_.mk (KB_.refl w g none)
 have HL := A_.mk hB.size
 clear hI
 have HW0 := A_.mk hB.size
 have HB := A_.mk hB
 clear hB
 have H : (if s0_1 < (s0_0.length : Int) then (if 0 ≤ s0_1 then (some (Go.bits .and .i64 (wrap64 ((Go.bits .and .i64 (Go.bits .xor .i64 ((wrap64 ((wrap64 (s0_2 * 6364136223846793005)) + 1442695040888963407)) / 8589934592) ((wrap64 ((wrap64 (s0_2 * 6364136223846793005)) + 1442695040888963407)) / 35184372088832)) 255) + (wrap64 (rd s0_0 s0_1)))) 255, wrap64 (s0_1 + 1), wrap64 ((wrap64 (s0_2 * 6364136223846793005)) + 1442695040888963407))) else (none)) else (some (Go.bits .and .i64 (Go.bits .xor .i64 ((wrap64 ((wrap64 (s0_2 * 6364136223846793005)) + 1442695040888963407)) / 8589934592) ((wrap64 ((wrap64 (s0_2 * 6364136223846793005)) + 1442695040888963407)) / 35184372088832)) 255, s0_1, wrap64 ((wrap64 (s0_2 * 6364136223846793005)) + 1442695040888963407)))) = some (r1, r2, r3) := h
 clear h
 by_cases c2 : s0_1 < (s0_0.length : Int)
 rotate_left
 ·rw [if_neg c2] at H
  have c2b0 : decide (s0_1 < (s0_0.length : Int)) = false := decide_eq_false c2
  clear c2
  simp only [Option.some.injEq, Prod.mk.injEq] at H
  obtain ⟨rfl, rfl, rfl⟩ := H
  obtain ⟨ASz5_0, cSz5_0, HGz5, hgz5, HSz5_0⟩ := HI0.out
  have hcz5_0 := cellS52_0 HGz5
  have hcz5_1 := cellS52_1 HGz5
  have hcz5_2 := cellS52_2 HGz5
  have hfz5_1 := bf_ HGz5 1
  have hfz5_2 := bf_ HGz5 2
  clear HGz5 hgz5
  go_enter Try.func43, Try.ntmps43
  go_wp2
  repeat (go_quiet (fail); try go_wp2)
  go_ret
  exact ⟨by first | rfl | (simp [errW_none, errW_some] <;> rfl) | (simp [*, errW_none, errW_some] <;> rfl), by repeat (first | (with_reducible first | exact HI0.out | apply IsS52.alloc | apply IsS52.drewN | apply IsS52.drew | apply IsS52.set_1 | apply IsS52.set_2) | exact HI0.out), by repeat (first | (with_reducible first | exact HB.out | apply ba_ | apply bd_ | apply be_ | refine bs_ ?_ (IsS52.ge HI0.out)) | exact HB.out), by repeat (first | (with_reducible first | exact HK.out | apply KB_.set_ | apply kn_ | apply kd_ | apply ka_) | exact HK.out)⟩
 rw [if_pos c2] at H
 have c2b0 : decide (s0_1 < (s0_0.length : Int)) = true := decide_eq_true c2
 clear c2
 by_cases c3 : 0 ≤ s0_1
 rotate_left
 ·rw [if_neg c3] at H
  exact absurd H (by simp)
 rw [if_pos c3] at H
 have c3b0 : decide (0 ≤ s0_1) = true := decide_eq_true c3
 clear c3
 simp only [Option.some.injEq, Prod.mk.injEq] at H
 obtain ⟨rfl, rfl, rfl⟩ := H
 obtain ⟨ASz4_0, cSz4_0, HGz4, hgz4, HSz4_0⟩ := HI0.out
 have hcz4_0 := cellS52_0 HGz4
 have hcz4_1 := cellS52_1 HGz4
 have hcz4_2 := cellS52_2 HGz4
 have hfz4_1 := bf_ HGz4 1
 have hfz4_2 := bf_ HGz4 2
 clear HGz4 hgz4
 have p101 : 0 ≤ (s0_1 : Int) := od_
 have q101 : s0_1 < (s0_0.length : Int) := od_
 obtain ⟨ad101, e101, hx101_0⟩ := Kd.at_int HSz4_0 s0_1 p101 q101
 cases e101
 have hn101_0 : ad101.block ≠ g := Nat.ne_of_lt (Nat.lt_of_lt_of_le (by have := wl_ _ _ hx101_0; first | rwa [add_block] at this | exact this) (IsS52.ge HI0.out))
 replace hx101_0 := pw_cell_below HB.out hx101_0
 replace hx101_0 := (cell_far (p := ⟨g, 2, none⟩) (by first | (rw [add_block]; exact hn101_0) | (show (Addr.add _ _).block ≠ _; rw [add_block]; exact hn101_0) | exact hn101_0) (.int .i64 (wrap64 ((wrap64 (s0_2 * 6364136223846793005)) + 1442695040888963407)))).trans hx101_0
 (try have hy101_0 := fun (n_ : Nat) => (show (((w.drewN n_).setCell ⟨g, 2, none⟩ (.int .i64 (wrap64 ((wrap64 (s0_2 * 6364136223846793005)) + 1442695040888963407))))).cell? _ = some _ from hx101_0))
 clear hn101_0
 replace p101 := eq_true p101
 replace q101 := eq_true q101
 go_enter Try.func43, Try.ntmps43
 go_wp2
 repeat (go_quiet (fail); try go_wp2)
 go_ret
 exact ⟨by first | rfl | (simp [errW_none, errW_some] <;> rfl) | (simp [*, errW_none, errW_some] <;> rfl), by repeat (first | (with_reducible first | exact HI0.out | apply IsS52.alloc | apply IsS52.drewN | apply IsS52.drew | apply IsS52.set_1 | apply IsS52.set_2) | exact HI0.out), by repeat (first | (with_reducible first | exact HB.out | apply ba_ | apply bd_ | apply be_ | refine bs_ ?_ (IsS52.ge HI0.out)) | exact HB.out), by repeat (first | (with_reducible first | exact HK.out | apply KB_.set_ | apply kn_ | apply kd_ | apply ka_) | exact HK.out)⟩
/-! ### spec_l01Below: function 19 -/
def spec_l01Below.f (s0_0 : List Int) (s0_1 : Int) (s0_2 : Int) (a1 : Int) : Option (Int × Int × Int) := if a1 ≤ 0 then (some (0, s0_1, s0_2)) else (if a1 ≤ 256 then ((spec_l01Byte.f s0_0 s0_1 s0_2).bind fun bt102 => (if a1 = 0 then (none) else (some (Int.tmod bt102.1 a1, bt102.2.1, bt102.2.2)))) else ((spec_l01Byte.f s0_0 s0_1 s0_2).bind fun bt105 => ((spec_l01Byte.f s0_0 bt105.2.1 bt105.2.2).bind fun bt108 => ((spec_l01Byte.f s0_0 bt108.2.1 bt108.2.2).bind fun bt111 => ((spec_l01Byte.f s0_0 bt111.2.1 bt111.2.2).bind fun bt114 => (if a1 = 0 then (none) else (some (Int.tmod (wrap64 ((wrap64 ((wrap64 ((wrap64 (bt105.1 * 16777216)) + (wrap64 (bt108.1 * 65536)))) + (wrap64 (bt111.1 * 256)))) + bt114.1)) a1, bt114.2.1, bt114.2.2))))))))
set_option maxHeartbeats 8000000 in
set_option maxRecDepth 100000 in
theorem spec_l01Below.calls (g : Nat) (s0_0 : List Int) (s0_1 : Int) (s0_2 : Int) (a1 : Int) (r1 : Int) (r2 : Int) (r3 : Int) (w0 w : World) (hI : IsS52 w0 w g s0_0 s0_1 s0_2) (hB : Below w0.heap.size w0 w) (h : spec_l01Below.f s0_0 s0_1 s0_2 a1 = some (r1, r2, r3)) :
  Calls Try.prog 19 #[.pointer (some ⟨g, 0, none⟩), .int .i64 a1] w fun e w' => e = .returned (.int .i64 r1) ∧ IsS52 w0 w' g s0_0 r2 r3 ∧ Below w0.heap.size w0 w' ∧ KB_ w w' g none := by
 have HI0 := A_.mk hI
 have HK := A_.mk (KB_.refl w g none)
 have HL := A_.mk hB.size
 clear hI
 have HW0 := A_.mk hB.size
 have HB := A_.mk hB
 clear hB
 have H : (if a1 ≤ 0 then (some (0, s0_1, s0_2)) else (if a1 ≤ 256 then ((spec_l01Byte.f s0_0 s0_1 s0_2).bind fun bt102 => (if a1 = 0 then (none) else (some (Int.tmod bt102.1 a1, bt102.2.1, bt102.2.2)))) else ((spec_l01Byte.f s0_0 s0_1 s0_2).bind fun bt105 => ((spec_l01Byte.f s0_0 bt105.2.1 bt105.2.2).bind fun bt108 => ((spec_l01Byte.f s0_0 bt108.2.1 bt108.2.2).bind fun bt111 => ((spec_l01Byte.f s0_0 bt111.2.1 bt111.2.2).bind fun bt114 => (if a1 = 0 then (none) else (some (Int.tmod (wrap64 ((wrap64 ((wrap64 ((wrap64 (bt105.1 * 16777216)) + (wrap64 (bt108.1 * 65536)))) + (wrap64 (bt111.1 * 256)))) + bt114.1)) a1, bt114.2.1, bt114.2.2))))))))) = some (r1, r2, r3) := h
 clear h
 by_cases c3 : a1 ≤ 0
 ·rw [if_pos c3] at H
  have c3b0 : decide (a1 ≤ 0) = true := decide_eq_true c3
  clear c3
  simp only [Option.some.injEq, Prod.mk.injEq] at H
  obtain ⟨rfl, rfl, rfl⟩ := H
  go_enter Try.func19, Try.ntmps19
  go_wp2
  go_ret
  exact ⟨by first | rfl | (simp [errW_none, errW_some] <;> rfl) | (simp [*, errW_none, errW_some] <;> rfl), by repeat (first | (with_reducible first | exact HI0.out | apply IsS52.alloc | apply IsS52.drewN | apply IsS52.drew | apply IsS52.set_1 | apply IsS52.set_2) | exact HI0.out), by repeat (first | (with_reducible first | exact HB.out | apply ba_ | apply bd_ | apply be_ | refine bs_ ?_ (IsS52.ge HI0.out)) | exact HB.out), by repeat (first | (with_reducible first | exact HK.out | apply KB_.set_ | apply kn_ | apply kd_ | apply ka_) | exact HK.out)⟩
 rw [if_neg c3] at H
 have c3b0 : decide (a1 ≤ 0) = false := decide_eq_false c3
 clear c3
 by_cases c4 : a1 ≤ 256
 ·rw [if_pos c4] at H
  have c4b0 : decide (a1 ≤ 256) = true := decide_eq_true c4
  clear c4
  replace H := ob_ H
  obtain ⟨⟨t102, t103, t104⟩, A50, H⟩ := H
  replace H : (if a1 = 0 then (none) else (some (Int.tmod t102 a1, t103, t104))) = some (r1, r2, r3) := H
  have A5 := A_.mk A50
  clear A50
  by_cases c6 : a1 = 0
  ·rw [if_pos c6] at H
   exact absurd H (by simp)
  rw [if_neg c6] at H
  have c6b0 : (a1 == 0) = false := beq_eq_false_iff_ne.mpr c6
  have c6b1 : (a1 != 0) = true := bne_iff_ne.mpr c6
  simp only [Option.some.injEq, Prod.mk.injEq] at H
  obtain ⟨rfl, rfl, rfl⟩ := H
  go_enter Try.func19, Try.ntmps19
  go_wp2_with (first | ((with_reducible refine gc_ (f := 43) rfl ?_); refine gl_ (some 14) Try.func43 #[.pointer (some ⟨g, 0, none⟩)] ?_; (with_reducible refine (spec_l01Byte.calls g s0_0 s0_1 s0_2 t102 t103 t104 w0 _ ?side1 ?side2 A5.out).mono ?_); (case side1 => repeat (first | (with_reducible first | exact HI0.out | apply IsS52.alloc | apply IsS52.drewN | apply IsS52.drew | apply IsS52.set_1 | apply IsS52.set_2) | exact HI0.out)); (case side2 => repeat (first | (with_reducible first | exact HB.out | apply ba_ | apply bd_ | apply be_ | refine bs_ ?_ (IsS52.ge HI0.out)) | exact HB.out)); rintro e w7 ⟨rfl, hi, hb, hk⟩; refine ⟨_, rfl, ?_⟩; have n0_ := A_.mk (KB_.trans (by repeat (first | (with_reducible first | exact HK.out | apply KB_.set_ | apply kn_ | apply kd_ | apply ka_) | exact HK.out)) hk (.inl rfl)); have n1_ := A_.mk (hb); have n2_ := A_.mk (hi); clear HK HB HI0; have HK := n0_; have HB := n1_; have HI0 := n2_; clear n0_ n1_ n2_; (try clear hb); (try clear hb2); (try clear hk); (try clear hi)))
  go_ret
  exact ⟨by first | rfl | (simp [errW_none, errW_some] <;> rfl) | (simp [*, errW_none, errW_some] <;> rfl), by repeat (first | (with_reducible first | exact HI0.out | apply IsS52.alloc | apply IsS52.drewN | apply IsS52.drew | apply IsS52.set_1 | apply IsS52.set_2) | exact HI0.out), by repeat (first | (with_reducible first | exact HB.out | apply ba_ | apply bd_ | apply be_ | refine bs_ ?_ (IsS52.ge HI0.out)) | exact HB.out), by repeat (first | (with_reducible first | exact HK.out | apply KB_.set_ | apply kn_ | apply kd_ | apply ka_) | exact HK.out)⟩
 rw [if_neg c4] at H
 have c4b0 : decide (a1 ≤ 256) = false := decide_eq_false c4
 clear c4
 replace H := ob_ H
 obtain ⟨⟨t105, t106, t107⟩, A80, H⟩ := H
 replace H : ((spec_l01Byte.f s0_0 t106 t107).bind fun bt108 => ((spec_l01Byte.f s0_0 bt108.2.1 bt108.2.2).bind fun bt111 => ((spec_l01Byte.f s0_0 bt111.2.1 bt111.2.2).bind fun bt114 => (if a1 = 0 then (none) else (some (Int.tmod (wrap64 ((wrap64 ((wrap64 ((wrap64 (t105 * 16777216)) + (wrap64 (bt108.1 * 65536)))) + (wrap64 (bt111.1 * 256)))) + bt114.1)) a1, bt114.2.1, bt114.2.2)))))) = some (r1, r2, r3) := H
 have A8 := A_.mk A80
 clear A80
 replace H := ob_ H
 obtain ⟨⟨t108, t109, t110⟩, A90, H⟩ := H
 replace H : ((spec_l01Byte.f s0_0 t109 t110).bind fun bt111 => ((spec_l01Byte.f s0_0 bt111.2.1 bt111.2.2).bind fun bt114 => (if a1 = 0 then (none) else (some (Int.tmod (wrap64 ((wrap64 ((wrap64 ((wrap64 (t105 * 16777216)) + (wrap64 (t108 * 65536)))) + (wrap64 (bt111.1 * 256)))) + bt114.1)) a1, bt114.2.1, bt114.2.2))))) = some (r1, r2, r3) := H
 have A9 := A_.mk A90
 clear A90
 replace H := ob_ H
 obtain ⟨⟨t111, t112, t113⟩, A100, H⟩ := H
 replace H : ((spec_l01Byte.f s0_0 t112 t113).bind fun bt114 => (if a1 = 0 then (none) else (some (Int.tmod (wrap64 ((wrap64 ((wrap64 ((wrap64 (t105 * 16777216)) + (wrap64 (t108 * 65536)))) + (wrap64 (t111 * 256)))) + bt114.1)) a1, bt114.2.1, bt114.2.2)))) = some (r1, r2, r3) := H
 have A10 := A_.mk A100
 clear A100
 replace H := ob_ H
 obtain ⟨⟨t114, t115, t116⟩, A110, H⟩ := H
 replace H : (if a1 = 0 then (none) else (some (Int.tmod (wrap64 ((wrap64 ((wrap64 ((wrap64 (t105 * 16777216)) + (wrap64 (t108 * 65536)))) + (wrap64 (t111 * 256)))) + t114)) a1, t115, t116))) = some (r1, r2, r3) := H
 have A11 := A_.mk A110
 clear A110
 by_cases c12 : a1 = 0
 ·rw [if_pos c12] at H
  exact absurd H (by simp)
 rw [if_neg c12] at H
 have c12b0 : (a1 == 0) = false := beq_eq_false_iff_ne.mpr c12
 have c12b1 : (a1 != 0) = true := bne_iff_ne.mpr c12
 simp only [Option.some.injEq, Prod.mk.injEq] at H
 obtain ⟨rfl, rfl, rfl⟩ := H
 go_enter Try.func19, Try.ntmps19
 go_wp2_with (first | ((with_reducible refine gc_ (f := 43) rfl ?_); refine gl_ (some 18) Try.func43 #[.pointer (some ⟨g, 0, none⟩)] ?_; (with_reducible refine (spec_l01Byte.calls g s0_0 s0_1 s0_2 t105 t106 t107 w0 _ ?side1 ?side2 A8.out).mono ?_); (case side1 => repeat (first | (with_reducible first | exact HI0.out | apply IsS52.alloc | apply IsS52.drewN | apply IsS52.drew | apply IsS52.set_1 | apply IsS52.set_2) | exact HI0.out)); (case side2 => repeat (first | (with_reducible first | exact HB.out | apply ba_ | apply bd_ | apply be_ | refine bs_ ?_ (IsS52.ge HI0.out)) | exact HB.out)); rintro e w13 ⟨rfl, hi, hb, hk⟩; refine ⟨_, rfl, ?_⟩; have n0_ := A_.mk (KB_.trans (by repeat (first | (with_reducible first | exact HK.out | apply KB_.set_ | apply kn_ | apply kd_ | apply ka_) | exact HK.out)) hk (.inl rfl)); have n1_ := A_.mk (hb); have n2_ := A_.mk (hi); clear HK HB HI0; have HK := n0_; have HB := n1_; have HI0 := n2_; clear n0_ n1_ n2_; (try clear hb); (try clear hb2); (try clear hk); (try clear hi)) | ((with_reducible refine gc_ (f := 43) rfl ?_); refine gl_ (some 20) Try.func43 #[.pointer (some ⟨g, 0, none⟩)] ?_; (with_reducible refine (spec_l01Byte.calls g s0_0 t106 t107 t108 t109 t110 w0 _ ?side1 ?side2 A9.out).mono ?_); (case side1 => repeat (first | (with_reducible first | exact HI0.out | apply IsS52.alloc | apply IsS52.drewN | apply IsS52.drew | apply IsS52.set_1 | apply IsS52.set_2) | exact HI0.out)); (case side2 => repeat (first | (with_reducible first | exact HB.out | apply ba_ | apply bd_ | apply be_ | refine bs_ ?_ (IsS52.ge HI0.out)) | exact HB.out)); rintro e w14 ⟨rfl, hi, hb, hk⟩; refine ⟨_, rfl, ?_⟩; have n0_ := A_.mk (KB_.trans (by repeat (first | (with_reducible first | exact HK.out | apply KB_.set_ | apply kn_ | apply kd_ | apply ka_) | exact HK.out)) hk (.inl rfl)); have n1_ := A_.mk (hb); have n2_ := A_.mk (hi); clear HK HB HI0; have HK := n0_; have HB := n1_; have HI0 := n2_; clear n0_ n1_ n2_; (try clear hb); (try clear hb2); (try clear hk); (try clear hi)) | ((with_reducible refine gc_ (f := 43) rfl ?_); refine gl_ (some 22) Try.func43 #[.pointer (some ⟨g, 0, none⟩)] ?_; (with_reducible refine (spec_l01Byte.calls g s0_0 t109 t110 t111 t112 t113 w0 _ ?side1 ?side2 A10.out).mono ?_); (case side1 => repeat (first | (with_reducible first | exact HI0.out | apply IsS52.alloc | apply IsS52.drewN | apply IsS52.drew | apply IsS52.set_1 | apply IsS52.set_2) | exact HI0.out)); (case side2 => repeat (first | (with_reducible first | exact HB.out | apply ba_ | apply bd_ | apply be_ | refine bs_ ?_ (IsS52.ge HI0.out)) | exact HB.out)); rintro e w15 ⟨rfl, hi, hb, hk⟩; refine ⟨_, rfl, ?_⟩; have n0_ := A_.mk (KB_.trans (by repeat (first | (with_reducible first | exact HK.out | apply KB_.set_ | apply kn_ | apply kd_ | apply ka_) | exact HK.out)) hk (.inl rfl)); have n1_ := A_.mk (hb); have n2_ := A_.mk (hi); clear HK HB HI0; have HK := n0_; have HB := n1_; have HI0 := n2_; clear n0_ n1_ n2_; (try clear hb); (try clear hb2); (try clear hk); (try clear hi)) | ((with_reducible refine gc_ (f := 43) rfl ?_); refine gl_ (some 24) Try.func43 #[.pointer (some ⟨g, 0, none⟩)] ?_; (with_reducible refine (spec_l01Byte.calls g s0_0 t112 t113 t114 t115 t116 w0 _ ?side1 ?side2 A11.out).mono ?_); (case side1 => repeat (first | (with_reducible first | exact HI0.out | apply IsS52.alloc | apply IsS52.drewN | apply IsS52.drew | apply IsS52.set_1 | apply IsS52.set_2) | exact HI0.out)); (case side2 => repeat (first | (with_reducible first | exact HB.out | apply ba_ | apply bd_ | apply be_ | refine bs_ ?_ (IsS52.ge HI0.out)) | exact HB.out)); rintro e w16 ⟨rfl, hi, hb, hk⟩; refine ⟨_, rfl, ?_⟩; have n0_ := A_.mk (KB_.trans (by repeat (first | (with_reducible first | exact HK.out | apply KB_.set_ | apply kn_ | apply kd_ | apply ka_) | exact HK.out)) hk (.inl rfl)); have n1_ := A_.mk (hb); have n2_ := A_.mk (hi); clear HK HB HI0; have HK := n0_; have HB := n1_; have HI0 := n2_; clear n0_ n1_ n2_; (try clear hb); (try clear hb2); (try clear hk); (try clear hi)))
 go_ret
 exact ⟨by first | rfl | (simp [errW_none, errW_some] <;> rfl) | (simp [*, errW_none, errW_some] <;> rfl), by repeat (first | (with_reducible first | exact HI0.out | apply IsS52.alloc | apply IsS52.drewN | apply IsS52.drew | apply IsS52.set_1 | apply IsS52.set_2) | exact HI0.out), by repeat (first | (with_reducible first | exact HB.out | apply ba_ | apply bd_ | apply be_ | refine bs_ ?_ (IsS52.ge HI0.out)) | exact HB.out), by repeat (first | (with_reducible first | exact HK.out | apply KB_.set_ | apply kn_ | apply kd_ | apply ka_) | exact HK.out)⟩
/-! ### spec_l01PickInt: function 44 -/
def spec_l01PickInt.f (s0_0 : List Int) (s0_1 : Int) (s0_2 : Int) (l1 : List Int) : Option (Int × Int × Int) := (spec_l01Below.f s0_0 s0_1 s0_2 (l1.length : Int)).bind fun bt117 => (if 0 ≤ bt117.1 then (if bt117.1 < (l1.length : Int) then (some (rd l1 bt117.1, bt117.2.1, bt117.2.2)) else (none)) else (none))
set_option maxHeartbeats 8000000 in
set_option maxRecDepth 100000 in
theorem spec_l01PickInt.calls (g : Nat) (s0_0 : List Int) (s0_1 : Int) (s0_2 : Int) (A1 : Option Addr) (c1 : Nat) (l1 : List Int) (r1 : Int) (r2 : Int) (r3 : Int) (w0 w : World) (hI : IsS52 w0 w g s0_0 s0_1 s0_2) (hB : Below w0.heap.size w0 w) (hr1 : Kd.C (Kd.int .i64) w A1 l1.length l1) (hc1 : l1.length ≤ c1) (hf1 : ∀ ad, A1 = some ad → 0 < l1.length → ad.block ≠ g) (h : spec_l01PickInt.f s0_0 s0_1 s0_2 l1 = some (r1, r2, r3)) :
  Calls Try.prog 44 #[.pointer (some ⟨g, 0, none⟩), .slice A1 l1.length c1] w fun e w' => e = .returned (.int .i64 r1) ∧ IsS52 w0 w' g s0_0 r2 r3 ∧ Below w0.heap.size w0 w' ∧ KB_ w w' g none := by
 have HR1 := A_.mk hr1
 have HC1 := A_.mk hc1
 clear hr1 hc1
 have HI0 := A_.mk hI
 have HK := A_.mk (KB_.refl w g none)
 have HL := A_.mk hB.size
 clear hI
 have HW0 := A_.mk hB.size
 have HB := A_.mk hB
 clear hB
 have H : ((spec_l01Below.f s0_0 s0_1 s0_2 (l1.length : Int)).bind fun bt117 => (if 0 ≤ bt117.1 then (if bt117.1 < (l1.length : Int) then (some (rd l1 bt117.1, bt117.2.1, bt117.2.2)) else (none)) else (none))) = some (r1, r2, r3) := h
 clear h
 replace H := ob_ H
 obtain ⟨⟨t117, t118, t119⟩, A30, H⟩ := H
 replace H : (if 0 ≤ t117 then (if t117 < (l1.length : Int) then (some (rd l1 t117, t118, t119)) else (none)) else (none)) = some (r1, r2, r3) := H
 have A3 := A_.mk A30
 clear A30
 by_cases c4 : 0 ≤ t117
 rotate_left
 ·rw [if_neg c4] at H
  exact absurd H (by simp)
 rw [if_pos c4] at H
 have c4b0 : decide (0 ≤ t117) = true := decide_eq_true c4
 clear c4
 by_cases c5 : t117 < (l1.length : Int)
 rotate_left
 ·rw [if_neg c5] at H
  exact absurd H (by simp)
 rw [if_pos c5] at H
 have c5b0 : decide (t117 < (l1.length : Int)) = true := decide_eq_true c5
 clear c5
 simp only [Option.some.injEq, Prod.mk.injEq] at H
 obtain ⟨rfl, rfl, rfl⟩ := H
 go_enter Try.func44, Try.ntmps44
 go_wp2_with (first | ((with_reducible refine gc_ (f := 19) rfl ?_); refine gl_ (some 9) Try.func19 #[.pointer (some ⟨g, 0, none⟩), .int .i64 (l1.length : Int)] ?_; (with_reducible refine (spec_l01Below.calls g s0_0 s0_1 s0_2 (l1.length : Int) t117 t118 t119 w0 _ ?side1 ?side2 A3.out).mono ?_); (case side1 => repeat (first | (with_reducible first | exact HI0.out | apply IsS52.alloc | apply IsS52.drewN | apply IsS52.drew | apply IsS52.set_1 | apply IsS52.set_2) | exact HI0.out)); (case side2 => repeat (first | (with_reducible first | exact HB.out | apply ba_ | apply bd_ | apply be_ | refine bs_ ?_ (IsS52.ge HI0.out)) | exact HB.out)); rintro e w6 ⟨rfl, hi, hb, hk⟩; refine ⟨_, rfl, ?_⟩; have n0_ := A_.mk (KB_.trans (by repeat (first | (with_reducible first | exact HK.out | apply KB_.set_ | apply kn_ | apply kd_ | apply ka_) | exact HK.out)) hk (.inl rfl)); have n1_ := A_.mk (hb); have n2_ := A_.mk (hi); clear HK HB HI0; have HK := n0_; have HB := n1_; have HI0 := n2_; clear n0_ n1_ n2_; (try clear hb); (try clear hb2); (try clear hk); (try clear hi); have p120 : 0 ≤ (t117 : Int) := od_; have q120 : t117 < (l1.length : Int) := od_; obtain ⟨ad120, e120, hx120_0⟩ := Kd.at_int HR1.out t117 p120 q120; cases e120; replace hx120_0 := keep_cell HK.out hx120_0 (by first | (rw [add_block]; exact hf1 _ rfl (by omega)) | exact hf1 _ rfl (by omega) | exact hf1 ad120 rfl (by omega)); replace p120 := eq_true p120; replace q120 := eq_true q120))
 go_ret
 exact ⟨by first | rfl | (simp [errW_none, errW_some] <;> rfl) | (simp [*, errW_none, errW_some] <;> rfl), by repeat (first | (with_reducible first | exact HI0.out | apply IsS52.alloc | apply IsS52.drewN | apply IsS52.drew | apply IsS52.set_1 | apply IsS52.set_2) | exact HI0.out), by repeat (first | (with_reducible first | exact HB.out | apply ba_ | apply bd_ | apply be_ | refine bs_ ?_ (IsS52.ge HI0.out)) | exact HB.out), by repeat (first | (with_reducible first | exact HK.out | apply KB_.set_ | apply kn_ | apply kd_ | apply ka_) | exact HK.out)⟩
/-! ### spec_l10Act: function 20 -/
def spec_l10Act.f (s0_0 : List Int) (s0_1 : Int) (s0_2 : Int) : Option (Int × Int × Int × Int) := (spec_l01PickInt.f s0_0 s0_1 s0_2 (([7, 7, 1, 1, 1, 2, 2, 2, 5, 5, 3, 4, 6] : List Int))).bind fun bt125 => (if bt125.1 = 7 then ((spec_l01Below.f s0_0 bt125.2.1 bt125.2.2 300).bind fun bt129 => (some (bt125.1, bt129.1, bt129.2.1, bt129.2.2))) else (if bt125.1 = 3 then ((spec_l01Below.f s0_0 bt125.2.1 bt125.2.2 3).bind fun bt132 => (some (bt125.1, bt132.1, bt132.2.1, bt132.2.2))) else (if bt125.1 = 4 then ((spec_l01Below.f s0_0 bt125.2.1 bt125.2.2 2).bind fun bt135 => ((spec_l01Below.f s0_0 bt135.2.1 bt135.2.2 40).bind fun bt138 => (some (bt125.1, wrap64 (bt135.1 + (wrap64 (8 * bt138.1))), bt138.2.1, bt138.2.2)))) else (some (bt125.1, 0, bt125.2.1, bt125.2.2)))))
set_option maxHeartbeats 8000000 in
set_option maxRecDepth 100000 in
theorem spec_l10Act.calls (g : Nat) (s0_0 : List Int) (s0_1 : Int) (s0_2 : Int) (r1 : Int) (r2 : Int) (r3 : Int) (r4 : Int) (w0 w : World) (hI : IsS52 w0 w g s0_0 s0_1 s0_2) (hB : Below w0.heap.size w0 w) (h : spec_l10Act.f s0_0 s0_1 s0_2 = some (r1, r2, r3, r4)) :
  Calls Try.prog 20 #[.pointer (some ⟨g, 0, none⟩)] w fun e w' => e = .returned (.agg #[.int .i64 r1, .int .i64 r2]) ∧ IsS52 w0 w' g s0_0 r3 r4 ∧ Below w0.heap.size w0 w' ∧ KB_ w w' g none := by
 have hu39 := Try.underlying39
 have HI0 := A_.mk hI
 have HK := A_.mk (KB_.refl w g none)
 have HL := A_.mk hB.size
 clear hI
 have HW0 := A_.mk hB.size
 have HB := A_.mk hB
 clear hB
 have H : ((spec_l01PickInt.f s0_0 s0_1 s0_2 (([7, 7, 1, 1, 1, 2, 2, 2, 5, 5, 3, 4, 6] : List Int))).bind fun bt125 => (if bt125.1 = 7 then ((spec_l01Below.f s0_0 bt125.2.1 bt125.2.2 300).bind fun bt129 => (some (bt125.1, bt129.1, bt129.2.1, bt129.2.2))) else (if bt125.1 = 3 then ((spec_l01Below.f s0_0 bt125.2.1 bt125.2.2 3).bind fun bt132 => (some (bt125.1, bt132.1, bt132.2.1, bt132.2.2))) else (if bt125.1 = 4 then ((spec_l01Below.f s0_0 bt125.2.1 bt125.2.2 2).bind fun bt135 => ((spec_l01Below.f s0_0 bt135.2.1 bt135.2.2 40).bind fun bt138 => (some (bt125.1, wrap64 (bt135.1 + (wrap64 (8 * bt138.1))), bt138.2.1, bt138.2.2)))) else (some (bt125.1, 0, bt125.2.1, bt125.2.2)))))) = some (r1, r2, r3, r4) := h
 clear h
 obtain ⟨y122, hy122⟩ : ∃ y_ : List Int, y_ = (([7, 7, 1, 1, 1, 2, 2, 2, 5, 5, 3, 4, 6] : List Int)) := ⟨_, rfl⟩
 replace H : ((spec_l01PickInt.f s0_0 s0_1 s0_2 y122).bind fun bt125 => (if bt125.1 = 7 then ((spec_l01Below.f s0_0 bt125.2.1 bt125.2.2 300).bind fun bt129 => (some (bt125.1, bt129.1, bt129.2.1, bt129.2.2))) else (if bt125.1 = 3 then ((spec_l01Below.f s0_0 bt125.2.1 bt125.2.2 3).bind fun bt132 => (some (bt125.1, bt132.1, bt132.2.1, bt132.2.2))) else (if bt125.1 = 4 then ((spec_l01Below.f s0_0 bt125.2.1 bt125.2.2 2).bind fun bt135 => ((spec_l01Below.f s0_0 bt135.2.1 bt135.2.2 40).bind fun bt138 => (some (bt125.1, wrap64 (bt135.1 + (wrap64 (8 * bt138.1))), bt138.2.1, bt138.2.2)))) else (some (bt125.1, 0, bt125.2.1, bt125.2.2)))))) = some (r1, r2, r3, r4) := by first | (rw [hy122]; with_reducible exact H) | (have H2_ := (Option.bind_some _ _).symm.trans H; rw [hy122]; with_reducible exact H2_) | (have H2_ := (Option.bind_some _ _).symm.trans H; with_reducible exact H2_) | with_reducible exact H | (rw [hy122]; exact H) | exact H
 have Ny122 := A_.mk hy122
 clear hy122
 replace H := ob_ H
 obtain ⟨⟨t125, t126, t127⟩, A20, H⟩ := H
 replace H : (if t125 = 7 then ((spec_l01Below.f s0_0 t126 t127 300).bind fun bt129 => (some (t125, bt129.1, bt129.2.1, bt129.2.2))) else (if t125 = 3 then ((spec_l01Below.f s0_0 t126 t127 3).bind fun bt132 => (some (t125, bt132.1, bt132.2.1, bt132.2.2))) else (if t125 = 4 then ((spec_l01Below.f s0_0 t126 t127 2).bind fun bt135 => ((spec_l01Below.f s0_0 bt135.2.1 bt135.2.2 40).bind fun bt138 => (some (t125, wrap64 (bt135.1 + (wrap64 (8 * bt138.1))), bt138.2.1, bt138.2.2)))) else (some (t125, 0, t126, t127))))) = some (r1, r2, r3, r4) := H
 have A2 := A_.mk A20
 clear A20
 by_cases c3 : t125 = 7
 ·rw [if_pos c3] at H
  have c3b0 : (t125 == 7) = true := beq_iff_eq.mpr c3
  have c3b1 : (t125 != 7) = false := bne_eq_false_iff_eq.mpr c3
  clear c3
  replace H := ob_ H
  obtain ⟨⟨t129, t130, t131⟩, A40, H⟩ := H
  replace H : (some (t125, t129, t130, t131)) = some (r1, r2, r3, r4) := H
  have A4 := A_.mk A40
  clear A40
  simp only [Option.some.injEq, Prod.mk.injEq] at H
  obtain ⟨rfl, rfl, rfl, rfl⟩ := H
  go_enter Try.func20, Try.ntmps20
  go_wp2_with (first | ((with_reducible refine gd_ (N := 2) rfl ?_); refine by_ 2 (cs := #[.int .i64 0, .int .i64 0]) (t := 39) ?_; intro gb121 hg w5 hbox hb; have n0_ := A_.mk (IsS52.below (by repeat (first | (with_reducible first | exact HI0.out | apply IsS52.alloc | apply IsS52.drewN | apply IsS52.drew | apply IsS52.set_1 | apply IsS52.set_2) | exact HI0.out)) hb); have n1_ := A_.mk (KB_.trans (by repeat (first | (with_reducible first | exact HK.out | apply KB_.set_ | apply kn_ | apply kd_ | apply ka_) | exact HK.out)) (KB_.of_below hb g none) (.inl rfl)); have n2_ := A_.mk (bt_ (by repeat (first | (with_reducible first | exact HB.out | apply ba_ | apply bd_ | apply be_ | refine bs_ ?_ (IsS52.ge HI0.out)) | exact HB.out)) hb); have n3_ := A_.mk (hbox); have n4_ := A_.mk ((by rw [hg]; exact (keep_size (w := w) (g := g) (row := none) (by repeat (first | (with_reducible first | exact HK.out | apply KB_.set_ | apply kn_ | apply kd_ | apply ka_) | exact HK.out))) : w.heap.size ≤ gb121)); have n5_ := A_.mk ((Nat.le_trans HW0.out (by rw [hg]; exact (keep_size (w := w) (g := g) (row := none) (by repeat (first | (with_reducible first | exact HK.out | apply KB_.set_ | apply kn_ | apply kd_ | apply ka_) | exact HK.out))) : w.heap.size ≤ gb121) : w0.heap.size ≤ gb121)); have n6_ := A_.mk ((by rw [hg]; exact Nat.ne_of_lt (IsS52.lt (show IsS52 w0 _ g s0_0 s0_1 s0_2 from by repeat (first | (with_reducible first | exact HI0.out | apply IsS52.alloc | apply IsS52.drewN | apply IsS52.drew | apply IsS52.set_1 | apply IsS52.set_2) | exact HI0.out))) : g ≠ gb121)); have n7_ := A_.mk ((by rw [hg]; exact Nat.ne_of_gt (IsS52.lt (show IsS52 w0 _ g s0_0 s0_1 s0_2 from by repeat (first | (with_reducible first | exact HI0.out | apply IsS52.alloc | apply IsS52.drewN | apply IsS52.drew | apply IsS52.set_1 | apply IsS52.set_2) | exact HI0.out))) : gb121 ≠ g)); clear HI0 HK HB; have HI0 := n0_; have HK := n1_; have HB := n2_; have BK121 := n3_; have GW121 := n4_; have GE121 := n5_; have NB0_121 := n6_; have NB121_0 := n7_; clear n0_ n1_ n2_ n3_ n4_ n5_ n6_ n7_ hb hbox hg) | ((with_reducible refine gd_ (N := 5) rfl ?_); refine Kd.R_lit (Kd.int .i64) _ 3 ?hg (N := 5) ?hd (xs := ([7, 7, 1, 1, 1, 2, 2, 2, 5, 5, 3, 4, 6] : List Int)) (inner := [.int .i64 7, .int .i64 7, .int .i64 1, .int .i64 1, .int .i64 1, .int .i64 2, .int .i64 2, .int .i64 2, .int .i64 5, .int .i64 5, .int .i64 3, .int .i64 4, .int .i64 6]) (ok := fun _ => True) (okp := fun _ => True) ?hr ?hp (fun _ hk => hk) trivial (Below.refl _ _) (Nat.le_refl _) (by simp) ?_; (case hd => rfl); (case hg => rfl); (case hr => first | (go_simp; done) | (go_simp; rfl)); (case hp => exact (Reps.one (show Kd.M (Kd.int .i64) _ _ _ 7 [.int .i64 7] from rfl) (Reps.one (show Kd.M (Kd.int .i64) _ _ _ 7 [.int .i64 7] from rfl) (Reps.one (show Kd.M (Kd.int .i64) _ _ _ 1 [.int .i64 1] from rfl) (Reps.one (show Kd.M (Kd.int .i64) _ _ _ 1 [.int .i64 1] from rfl) (Reps.one (show Kd.M (Kd.int .i64) _ _ _ 1 [.int .i64 1] from rfl) (Reps.one (show Kd.M (Kd.int .i64) _ _ _ 2 [.int .i64 2] from rfl) (Reps.one (show Kd.M (Kd.int .i64) _ _ _ 2 [.int .i64 2] from rfl) (Reps.one (show Kd.M (Kd.int .i64) _ _ _ 2 [.int .i64 2] from rfl) (Reps.one (show Kd.M (Kd.int .i64) _ _ _ 5 [.int .i64 5] from rfl) (Reps.one (show Kd.M (Kd.int .i64) _ _ _ 5 [.int .i64 5] from rfl) (Reps.one (show Kd.M (Kd.int .i64) _ _ _ 3 [.int .i64 3] from rfl) (Reps.one (show Kd.M (Kd.int .i64) _ _ _ 4 [.int .i64 4] from rfl) (Reps.one (show Kd.M (Kd.int .i64) _ _ _ 6 [.int .i64 6] from rfl) (Reps.none _ _))))))))))))))); intro v123 w6 ho7 hb hg_ hnew_; clear hg_ hnew_; (first | rw [← Ny122.out] at ho7 | (simp only [Int.reduceToNat] at ho7; rw [← Ny122.out] at ho7)); have n0_ := A_.mk (Kd.R_lower ho7 (keep_size (w := w) (g := g) (row := none) (by repeat (first | (with_reducible first | exact HK.out | apply KB_.set_ | apply kn_ | apply kd_ | apply ka_ | refine kf_ ?_ GW121.out _) | exact HK.out)))); have n1_ := A_.mk (IsS52.below (by repeat (first | (with_reducible first | exact HI0.out | apply IsS52.alloc | apply IsS52.drewN | apply IsS52.drew | apply IsS52.set_1 | apply IsS52.set_2 | refine IsS52.far ?_ NB0_121.out _) | exact HI0.out)) hb); have n2_ := A_.mk (bb_ (bY BK121.out) hb); have n3_ := A_.mk (KB_.trans (by repeat (first | (with_reducible first | exact HK.out | apply KB_.set_ | apply kn_ | apply kd_ | apply ka_ | refine kf_ ?_ GW121.out _) | exact HK.out)) (KB_.of_below hb g none) (.inl rfl)); have n4_ := A_.mk (bt_ (by repeat (first | (with_reducible first | exact HB.out | apply ba_ | apply bd_ | apply be_ | refine bs_ ?_ (IsS52.ge HI0.out) | refine bs_ ?_ GE121.out) | exact HB.out)) hb); clear HI0 BK121 HK HB; have HO124 := n0_; have HI0 := n1_; have BK121 := n2_; have HK := n3_; have HB := n4_; clear n0_ n1_ n2_ n3_ n4_ hb ho7; obtain ⟨Ao8, co8, eo8⟩ := Kd.R_slice HO124.out; subst eo8) | ((with_reducible refine gc_ (f := 44) rfl ?_); refine gl_ (some 6) Try.func44 #[.pointer (some ⟨g, 0, none⟩), .slice Ao8 y122.length co8] ?_; (with_reducible refine (spec_l01PickInt.calls g s0_0 s0_1 s0_2 _ _ y122 t125 t126 t127 w0 _ ?side1 ?side2 ?side3 ?side4 ?side5 A2.out).mono ?_); (case side1 => repeat (first | (with_reducible first | exact HI0.out | apply IsS52.alloc | apply IsS52.drewN | apply IsS52.drew | apply IsS52.set_1 | apply IsS52.set_2 | refine IsS52.far ?_ NB0_121.out _) | exact HI0.out)); (case side2 => repeat (first | (with_reducible first | exact HB.out | apply ba_ | apply bd_ | apply be_ | refine bs_ ?_ (IsS52.ge HI0.out) | refine bs_ ?_ GE121.out) | exact HB.out)); (case side3 => exact cY ((Kd.R_reads' HO124.out).2.2)); (case side4 => exact (Kd.R_reads' HO124.out).2.1); (case side5 => exact far_slice (IsS52.own_ne HI0.out HO124.out (by decide))); rintro e w9 ⟨rfl, hi, hb, hk⟩; refine ⟨_, rfl, ?_⟩; have n0_ := A_.mk (KB_.blk hk (g' := gb121) (o := .cells #[.int .i64 0, .int .i64 0] 39 (0, 0)) (bY BK121.out) NB121_0.out (by simp)); have n1_ := A_.mk (Kd.R_mono (Kd.R_keep (IsS52.apart (show IsS52 w0 _ g s0_0 s0_1 s0_2 from by repeat (first | (with_reducible first | exact HI0.out | apply IsS52.alloc | apply IsS52.drewN | apply IsS52.drew | apply IsS52.set_1 | apply IsS52.set_2 | refine IsS52.far ?_ NB0_121.out _) | exact HI0.out)) (rY HO124.out) (by decide)) hk (fun _ h => h.2)) (fun _ h => h.1)); have n2_ := A_.mk (KB_.trans (by repeat (first | (with_reducible first | exact HK.out | apply KB_.set_ | apply kn_ | apply kd_ | apply ka_ | refine kf_ ?_ GW121.out _) | exact HK.out)) hk (.inl rfl)); have n3_ := A_.mk (hb); have n4_ := A_.mk (hi); clear BK121 HO124 HK HB HI0; have BK121 := n0_; have HO124 := n1_; have HK := n2_; have HB := n3_; have HI0 := n4_; clear n0_ n1_ n2_ n3_ n4_; (try clear hb); (try clear hb2); (try clear hk); (try clear hi)) | ((with_reducible refine gd_ (N := 3) rfl ?_); refine by_ 3 (cs := #[.int .i64 0, .int .i64 0]) (t := 39) ?_; intro gb128 hg w10 hbox hb; have n0_ := A_.mk (Kd.R_below (rY HO124.out) hb); have n1_ := A_.mk (IsS52.below (by repeat (first | (with_reducible first | exact HI0.out | apply IsS52.alloc | apply IsS52.drewN | apply IsS52.drew | apply IsS52.set_1 | apply IsS52.set_2 | refine IsS52.far ?_ NB0_121.out _) | exact HI0.out)) hb); have n2_ := A_.mk (bb_ (bY BK121.out) hb); have n3_ := A_.mk (KB_.trans (by repeat (first | (with_reducible first | exact HK.out | apply KB_.set_ | apply kn_ | apply kd_ | apply ka_ | refine kf_ ?_ GW121.out _) | exact HK.out)) (KB_.of_below hb g none) (.inl rfl)); have n4_ := A_.mk (bt_ (by repeat (first | (with_reducible first | exact HB.out | apply ba_ | apply bd_ | apply be_ | refine bs_ ?_ (IsS52.ge HI0.out) | refine bs_ ?_ GE121.out) | exact HB.out)) hb); have n5_ := A_.mk (hbox); have n6_ := A_.mk ((by rw [hg]; exact (keep_size (w := w) (g := g) (row := none) (by repeat (first | (with_reducible first | exact HK.out | apply KB_.set_ | apply kn_ | apply kd_ | apply ka_ | refine kf_ ?_ GW121.out _) | exact HK.out))) : w.heap.size ≤ gb128)); have n7_ := A_.mk ((Nat.le_trans HW0.out (by rw [hg]; exact (keep_size (w := w) (g := g) (row := none) (by repeat (first | (with_reducible first | exact HK.out | apply KB_.set_ | apply kn_ | apply kd_ | apply ka_ | refine kf_ ?_ GW121.out _) | exact HK.out))) : w.heap.size ≤ gb128) : w0.heap.size ≤ gb128)); have n8_ := A_.mk ((by rw [hg]; exact Nat.ne_of_lt (blk_lt (bY BK121.out)) : gb121 ≠ gb128)); have n9_ := A_.mk ((by rw [hg]; exact Nat.ne_of_gt (blk_lt (bY BK121.out)) : gb128 ≠ gb121)); have n10_ := A_.mk ((by rw [hg]; exact Nat.ne_of_lt (IsS52.lt (show IsS52 w0 _ g s0_0 t126 t127 from by repeat (first | (with_reducible first | exact HI0.out | apply IsS52.alloc | apply IsS52.drewN | apply IsS52.drew | apply IsS52.set_1 | apply IsS52.set_2 | refine IsS52.far ?_ NB0_121.out _) | exact HI0.out))) : g ≠ gb128)); have n11_ := A_.mk ((by rw [hg]; exact Nat.ne_of_gt (IsS52.lt (show IsS52 w0 _ g s0_0 t126 t127 from by repeat (first | (with_reducible first | exact HI0.out | apply IsS52.alloc | apply IsS52.drewN | apply IsS52.drew | apply IsS52.set_1 | apply IsS52.set_2 | refine IsS52.far ?_ NB0_121.out _) | exact HI0.out))) : gb128 ≠ g)); clear HO124 HI0 BK121 HK HB; have HO124 := n0_; have HI0 := n1_; have BK121 := n2_; have HK := n3_; have HB := n4_; have BK128 := n5_; have GW128 := n6_; have GE128 := n7_; have NB121_128 := n8_; have NB128_121 := n9_; have NB0_128 := n10_; have NB128_0 := n11_; clear n0_ n1_ n2_ n3_ n4_ n5_ n6_ n7_ n8_ n9_ n10_ n11_ hb hbox hg; have hnb11 := NB128_121.out; have hnc11 := NB121_128.out; have hnb12 := NB128_0.out; have hnc12 := NB0_128.out; have hcz13_0 : w10.cell? ⟨gb128, 0, none⟩ = some (.int .i64 0) := (bc_ BK128.out 0).trans rfl; have hcz13_1 : w10.cell? ⟨gb128, 1, none⟩ = some (.int .i64 0) := (bc_ BK128.out 1).trans rfl; have hfz13_0 := bf_ BK128.out 0; have hfz13_1 := bf_ BK128.out 1) | ((with_reducible refine gc_ (f := 19) rfl ?_); refine gl_ (some 13) Try.func19 #[.pointer (some ⟨g, 0, none⟩), .int .i64 300] ?_; (with_reducible refine (spec_l01Below.calls g s0_0 t126 t127 300 t129 t130 t131 w0 _ ?side1 ?side2 A4.out).mono ?_); (case side1 => repeat (first | (with_reducible first | exact HI0.out | apply IsS52.alloc | apply IsS52.drewN | apply IsS52.drew | apply IsS52.set_1 | apply IsS52.set_2 | refine IsS52.far ?_ NB0_121.out _ | refine IsS52.far ?_ NB0_128.out _) | exact HI0.out)); (case side2 => repeat (first | (with_reducible first | exact HB.out | apply ba_ | apply bd_ | apply be_ | refine bs_ ?_ (IsS52.ge HI0.out) | refine bs_ ?_ GE121.out | refine bs_ ?_ GE128.out) | exact HB.out)); rintro e w14 ⟨rfl, hi, hb, hk⟩; refine ⟨_, rfl, ?_⟩; have n0_ := A_.mk (KB_.blk hk (g' := gb121) (o := .cells #[.int .i64 0, .int .i64 0] 39 (0, 0)) (by (repeat apply bX); refine blk_far ?_ NB121_128.out _; (repeat apply bX); refine blk_far ?_ NB121_128.out _; (repeat apply bX); exact BK121.out) NB121_0.out (by simp)); have n1_ := A_.mk (Kd.R_mono (Kd.R_keep (IsS52.apart (show IsS52 w0 _ g s0_0 t126 t127 from by repeat (first | (with_reducible first | exact HI0.out | apply IsS52.alloc | apply IsS52.drewN | apply IsS52.drew | apply IsS52.set_1 | apply IsS52.set_2 | refine IsS52.far ?_ NB0_121.out _ | refine IsS52.far ?_ NB0_128.out _) | exact HI0.out)) (by (repeat apply rX); exact (Kd.R_mono (Kd.R_far (p := ⟨gb128, 1, none⟩) (Kd.R_far (p := ⟨gb128, 0, none⟩) (Kd.R_types HO124.out BK128.out (by decide)) (fun _ hk => hk.2) (.int .i64 t125)) (fun _ hk => hk.2) (.int .i64 0)) (fun _ h_ => h_.1))) (by decide)) hk (fun _ h => h.2)) (fun _ h => h.1)); have n2_ := A_.mk (KB_.blk hk (g' := gb128) (o := .cells #[.int .i64 t125, .int .i64 0] 39 (0, 0)) (by (repeat apply bX); refine bp_ (cs := #[.int .i64 t125, .int .i64 0]) ?_ 1 _ rfl; (repeat apply bX); refine bp_ (cs := #[.int .i64 0, .int .i64 0]) ?_ 0 _ rfl; (repeat apply bX); exact BK128.out) NB128_0.out (by simp)); have n3_ := A_.mk (KB_.trans (by repeat (first | (with_reducible first | exact HK.out | apply KB_.set_ | apply kn_ | apply kd_ | apply ka_ | refine kf_ ?_ GW121.out _ | refine kf_ ?_ GW128.out _) | exact HK.out)) hk (.inl rfl)); have n4_ := A_.mk (hb); have n5_ := A_.mk (hi); clear BK121 HO124 BK128 HK HB HI0; have BK121 := n0_; have HO124 := n1_; have BK128 := n2_; have HK := n3_; have HB := n4_; have HI0 := n5_; clear n0_ n1_ n2_ n3_ n4_ n5_; (try clear hb); (try clear hb2); (try clear hk); (try clear hi); have hcz15_0 : w14.cell? ⟨gb128, 0, none⟩ = some (.int .i64 t125) := (bc_ BK128.out 0).trans rfl; have hcz15_1 : w14.cell? ⟨gb128, 1, none⟩ = some (.int .i64 0) := (bc_ BK128.out 1).trans rfl; have hfz15_0 := bf_ BK128.out 0; have hfz15_1 := bf_ BK128.out 1; have hnb16 := NB121_0.out; have hnc16 := NB0_121.out; have hcz17_0 : w14.cell? ⟨gb121, 0, none⟩ = some (.int .i64 0) := (bc_ BK121.out 0).trans rfl; have hcz17_1 : w14.cell? ⟨gb121, 1, none⟩ = some (.int .i64 0) := (bc_ BK121.out 1).trans rfl; have hfz17_0 := bf_ BK121.out 0; have hfz17_1 := bf_ BK121.out 1))
  refine bodyPost_ret (results_cell_row rfl _ _ gb121 39 #[.int .i64 t125, .int .i64 t129] (0, 0) _ rfl (by (repeat apply bX); refine bp_ (cs := #[.int .i64 t125, .int .i64 0]) ?_ 1 _ rfl; (repeat apply bX); refine bp_ (cs := #[.int .i64 0, .int .i64 0]) ?_ 0 _ rfl; (repeat apply bX); refine blk_far ?_ NB121_128.out _; (repeat apply bX); exact BK121.out) Try.underlying39 rfl (by kernel_rfl)) rfl ?_
  exact ⟨by first | rfl | (simp [errW_none, errW_some] <;> rfl) | (simp [*, errW_none, errW_some] <;> rfl), by repeat (first | (with_reducible first | exact HI0.out | apply IsS52.alloc | apply IsS52.drewN | apply IsS52.drew | apply IsS52.set_1 | apply IsS52.set_2 | refine IsS52.far ?_ NB0_121.out _ | refine IsS52.far ?_ NB0_128.out _) | exact HI0.out), by repeat (first | (with_reducible first | exact HB.out | apply ba_ | apply bd_ | apply be_ | refine bs_ ?_ (IsS52.ge HI0.out) | refine bs_ ?_ GE121.out | refine bs_ ?_ GE128.out) | exact HB.out), by repeat (first | (with_reducible first | exact HK.out | apply KB_.set_ | apply kn_ | apply kd_ | apply ka_ | refine kf_ ?_ GW121.out _ | refine kf_ ?_ GW128.out _) | exact HK.out)⟩
 rw [if_neg c3] at H
 have c3b0 : (t125 == 7) = false := beq_eq_false_iff_ne.mpr c3
 have c3b1 : (t125 != 7) = true := bne_iff_ne.mpr c3
 by_cases c18 : t125 = 3
 ·rw [if_pos c18] at H
  have c18b0 : (t125 == 3) = true := beq_iff_eq.mpr c18
  have c18b1 : (t125 != 3) = false := bne_eq_false_iff_eq.mpr c18
  clear c18
  replace H := ob_ H
  obtain ⟨⟨t132, t133, t134⟩, A190, H⟩ := H
  replace H : (some (t125, t132, t133, t134)) = some (r1, r2, r3, r4) := H
  have A19 := A_.mk A190
  clear A190
  simp only [Option.some.injEq, Prod.mk.injEq] at H
  obtain ⟨rfl, rfl, rfl, rfl⟩ := H
  go_enter Try.func20, Try.ntmps20
  go_wp2_with (first | ((with_reducible refine gd_ (N := 2) rfl ?_); refine by_ 2 (cs := #[.int .i64 0, .int .i64 0]) (t := 39) ?_; intro gb121 hg w20 hbox hb; have n0_ := A_.mk (IsS52.below (by repeat (first | (with_reducible first | exact HI0.out | apply IsS52.alloc | apply IsS52.drewN | apply IsS52.drew | apply IsS52.set_1 | apply IsS52.set_2) | exact HI0.out)) hb); have n1_ := A_.mk (KB_.trans (by repeat (first | (with_reducible first | exact HK.out | apply KB_.set_ | apply kn_ | apply kd_ | apply ka_) | exact HK.out)) (KB_.of_below hb g none) (.inl rfl)); have n2_ := A_.mk (bt_ (by repeat (first | (with_reducible first | exact HB.out | apply ba_ | apply bd_ | apply be_ | refine bs_ ?_ (IsS52.ge HI0.out)) | exact HB.out)) hb); have n3_ := A_.mk (hbox); have n4_ := A_.mk ((by rw [hg]; exact (keep_size (w := w) (g := g) (row := none) (by repeat (first | (with_reducible first | exact HK.out | apply KB_.set_ | apply kn_ | apply kd_ | apply ka_) | exact HK.out))) : w.heap.size ≤ gb121)); have n5_ := A_.mk ((Nat.le_trans HW0.out (by rw [hg]; exact (keep_size (w := w) (g := g) (row := none) (by repeat (first | (with_reducible first | exact HK.out | apply KB_.set_ | apply kn_ | apply kd_ | apply ka_) | exact HK.out))) : w.heap.size ≤ gb121) : w0.heap.size ≤ gb121)); have n6_ := A_.mk ((by rw [hg]; exact Nat.ne_of_lt (IsS52.lt (show IsS52 w0 _ g s0_0 s0_1 s0_2 from by repeat (first | (with_reducible first | exact HI0.out | apply IsS52.alloc | apply IsS52.drewN | apply IsS52.drew | apply IsS52.set_1 | apply IsS52.set_2) | exact HI0.out))) : g ≠ gb121)); have n7_ := A_.mk ((by rw [hg]; exact Nat.ne_of_gt (IsS52.lt (show IsS52 w0 _ g s0_0 s0_1 s0_2 from by repeat (first | (with_reducible first | exact HI0.out | apply IsS52.alloc | apply IsS52.drewN | apply IsS52.drew | apply IsS52.set_1 | apply IsS52.set_2) | exact HI0.out))) : gb121 ≠ g)); clear HI0 HK HB; have HI0 := n0_; have HK := n1_; have HB := n2_; have BK121 := n3_; have GW121 := n4_; have GE121 := n5_; have NB0_121 := n6_; have NB121_0 := n7_; clear n0_ n1_ n2_ n3_ n4_ n5_ n6_ n7_ hb hbox hg) | ((with_reducible refine gd_ (N := 5) rfl ?_); refine Kd.R_lit (Kd.int .i64) _ 3 ?hg (N := 5) ?hd (xs := ([7, 7, 1, 1, 1, 2, 2, 2, 5, 5, 3, 4, 6] : List Int)) (inner := [.int .i64 7, .int .i64 7, .int .i64 1, .int .i64 1, .int .i64 1, .int .i64 2, .int .i64 2, .int .i64 2, .int .i64 5, .int .i64 5, .int .i64 3, .int .i64 4, .int .i64 6]) (ok := fun _ => True) (okp := fun _ => True) ?hr ?hp (fun _ hk => hk) trivial (Below.refl _ _) (Nat.le_refl _) (by simp) ?_; (case hd => rfl); (case hg => rfl); (case hr => first | (go_simp; done) | (go_simp; rfl)); (case hp => exact (Reps.one (show Kd.M (Kd.int .i64) _ _ _ 7 [.int .i64 7] from rfl) (Reps.one (show Kd.M (Kd.int .i64) _ _ _ 7 [.int .i64 7] from rfl) (Reps.one (show Kd.M (Kd.int .i64) _ _ _ 1 [.int .i64 1] from rfl) (Reps.one (show Kd.M (Kd.int .i64) _ _ _ 1 [.int .i64 1] from rfl) (Reps.one (show Kd.M (Kd.int .i64) _ _ _ 1 [.int .i64 1] from rfl) (Reps.one (show Kd.M (Kd.int .i64) _ _ _ 2 [.int .i64 2] from rfl) (Reps.one (show Kd.M (Kd.int .i64) _ _ _ 2 [.int .i64 2] from rfl) (Reps.one (show Kd.M (Kd.int .i64) _ _ _ 2 [.int .i64 2] from rfl) (Reps.one (show Kd.M (Kd.int .i64) _ _ _ 5 [.int .i64 5] from rfl) (Reps.one (show Kd.M (Kd.int .i64) _ _ _ 5 [.int .i64 5] from rfl) (Reps.one (show Kd.M (Kd.int .i64) _ _ _ 3 [.int .i64 3] from rfl) (Reps.one (show Kd.M (Kd.int .i64) _ _ _ 4 [.int .i64 4] from rfl) (Reps.one (show Kd.M (Kd.int .i64) _ _ _ 6 [.int .i64 6] from rfl) (Reps.none _ _))))))))))))))); intro v123 w21 ho22 hb hg_ hnew_; clear hg_ hnew_; (first | rw [← Ny122.out] at ho22 | (simp only [Int.reduceToNat] at ho22; rw [← Ny122.out] at ho22)); have n0_ := A_.mk (Kd.R_lower ho22 (keep_size (w := w) (g := g) (row := none) (by repeat (first | (with_reducible first | exact HK.out | apply KB_.set_ | apply kn_ | apply kd_ | apply ka_ | refine kf_ ?_ GW121.out _) | exact HK.out)))); have n1_ := A_.mk (IsS52.below (by repeat (first | (with_reducible first | exact HI0.out | apply IsS52.alloc | apply IsS52.drewN | apply IsS52.drew | apply IsS52.set_1 | apply IsS52.set_2 | refine IsS52.far ?_ NB0_121.out _) | exact HI0.out)) hb); have n2_ := A_.mk (bb_ (bY BK121.out) hb); have n3_ := A_.mk (KB_.trans (by repeat (first | (with_reducible first | exact HK.out | apply KB_.set_ | apply kn_ | apply kd_ | apply ka_ | refine kf_ ?_ GW121.out _) | exact HK.out)) (KB_.of_below hb g none) (.inl rfl)); have n4_ := A_.mk (bt_ (by repeat (first | (with_reducible first | exact HB.out | apply ba_ | apply bd_ | apply be_ | refine bs_ ?_ (IsS52.ge HI0.out) | refine bs_ ?_ GE121.out) | exact HB.out)) hb); clear HI0 BK121 HK HB; have HO124 := n0_; have HI0 := n1_; have BK121 := n2_; have HK := n3_; have HB := n4_; clear n0_ n1_ n2_ n3_ n4_ hb ho22; obtain ⟨Ao23, co23, eo23⟩ := Kd.R_slice HO124.out; subst eo23) | ((with_reducible refine gc_ (f := 44) rfl ?_); refine gl_ (some 6) Try.func44 #[.pointer (some ⟨g, 0, none⟩), .slice Ao23 y122.length co23] ?_; (with_reducible refine (spec_l01PickInt.calls g s0_0 s0_1 s0_2 _ _ y122 t125 t126 t127 w0 _ ?side1 ?side2 ?side3 ?side4 ?side5 A2.out).mono ?_); (case side1 => repeat (first | (with_reducible first | exact HI0.out | apply IsS52.alloc | apply IsS52.drewN | apply IsS52.drew | apply IsS52.set_1 | apply IsS52.set_2 | refine IsS52.far ?_ NB0_121.out _) | exact HI0.out)); (case side2 => repeat (first | (with_reducible first | exact HB.out | apply ba_ | apply bd_ | apply be_ | refine bs_ ?_ (IsS52.ge HI0.out) | refine bs_ ?_ GE121.out) | exact HB.out)); (case side3 => exact cY ((Kd.R_reads' HO124.out).2.2)); (case side4 => exact (Kd.R_reads' HO124.out).2.1); (case side5 => exact far_slice (IsS52.own_ne HI0.out HO124.out (by decide))); rintro e w24 ⟨rfl, hi, hb, hk⟩; refine ⟨_, rfl, ?_⟩; have n0_ := A_.mk (KB_.blk hk (g' := gb121) (o := .cells #[.int .i64 0, .int .i64 0] 39 (0, 0)) (bY BK121.out) NB121_0.out (by simp)); have n1_ := A_.mk (Kd.R_mono (Kd.R_keep (IsS52.apart (show IsS52 w0 _ g s0_0 s0_1 s0_2 from by repeat (first | (with_reducible first | exact HI0.out | apply IsS52.alloc | apply IsS52.drewN | apply IsS52.drew | apply IsS52.set_1 | apply IsS52.set_2 | refine IsS52.far ?_ NB0_121.out _) | exact HI0.out)) (rY HO124.out) (by decide)) hk (fun _ h => h.2)) (fun _ h => h.1)); have n2_ := A_.mk (KB_.trans (by repeat (first | (with_reducible first | exact HK.out | apply KB_.set_ | apply kn_ | apply kd_ | apply ka_ | refine kf_ ?_ GW121.out _) | exact HK.out)) hk (.inl rfl)); have n3_ := A_.mk (hb); have n4_ := A_.mk (hi); clear BK121 HO124 HK HB HI0; have BK121 := n0_; have HO124 := n1_; have HK := n2_; have HB := n3_; have HI0 := n4_; clear n0_ n1_ n2_ n3_ n4_; (try clear hb); (try clear hb2); (try clear hk); (try clear hi)) | ((with_reducible refine gd_ (N := 3) rfl ?_); refine by_ 3 (cs := #[.int .i64 0, .int .i64 0]) (t := 39) ?_; intro gb128 hg w25 hbox hb; have n0_ := A_.mk (Kd.R_below (rY HO124.out) hb); have n1_ := A_.mk (IsS52.below (by repeat (first | (with_reducible first | exact HI0.out | apply IsS52.alloc | apply IsS52.drewN | apply IsS52.drew | apply IsS52.set_1 | apply IsS52.set_2 | refine IsS52.far ?_ NB0_121.out _) | exact HI0.out)) hb); have n2_ := A_.mk (bb_ (bY BK121.out) hb); have n3_ := A_.mk (KB_.trans (by repeat (first | (with_reducible first | exact HK.out | apply KB_.set_ | apply kn_ | apply kd_ | apply ka_ | refine kf_ ?_ GW121.out _) | exact HK.out)) (KB_.of_below hb g none) (.inl rfl)); have n4_ := A_.mk (bt_ (by repeat (first | (with_reducible first | exact HB.out | apply ba_ | apply bd_ | apply be_ | refine bs_ ?_ (IsS52.ge HI0.out) | refine bs_ ?_ GE121.out) | exact HB.out)) hb); have n5_ := A_.mk (hbox); have n6_ := A_.mk ((by rw [hg]; exact (keep_size (w := w) (g := g) (row := none) (by repeat (first | (with_reducible first | exact HK.out | apply KB_.set_ | apply kn_ | apply kd_ | apply ka_ | refine kf_ ?_ GW121.out _) | exact HK.out))) : w.heap.size ≤ gb128)); have n7_ := A_.mk ((Nat.le_trans HW0.out (by rw [hg]; exact (keep_size (w := w) (g := g) (row := none) (by repeat (first | (with_reducible first | exact HK.out | apply KB_.set_ | apply kn_ | apply kd_ | apply ka_ | refine kf_ ?_ GW121.out _) | exact HK.out))) : w.heap.size ≤ gb128) : w0.heap.size ≤ gb128)); have n8_ := A_.mk ((by rw [hg]; exact Nat.ne_of_lt (blk_lt (bY BK121.out)) : gb121 ≠ gb128)); have n9_ := A_.mk ((by rw [hg]; exact Nat.ne_of_gt (blk_lt (bY BK121.out)) : gb128 ≠ gb121)); have n10_ := A_.mk ((by rw [hg]; exact Nat.ne_of_lt (IsS52.lt (show IsS52 w0 _ g s0_0 t126 t127 from by repeat (first | (with_reducible first | exact HI0.out | apply IsS52.alloc | apply IsS52.drewN | apply IsS52.drew | apply IsS52.set_1 | apply IsS52.set_2 | refine IsS52.far ?_ NB0_121.out _) | exact HI0.out))) : g ≠ gb128)); have n11_ := A_.mk ((by rw [hg]; exact Nat.ne_of_gt (IsS52.lt (show IsS52 w0 _ g s0_0 t126 t127 from by repeat (first | (with_reducible first | exact HI0.out | apply IsS52.alloc | apply IsS52.drewN | apply IsS52.drew | apply IsS52.set_1 | apply IsS52.set_2 | refine IsS52.far ?_ NB0_121.out _) | exact HI0.out))) : gb128 ≠ g)); clear HO124 HI0 BK121 HK HB; have HO124 := n0_; have HI0 := n1_; have BK121 := n2_; have HK := n3_; have HB := n4_; have BK128 := n5_; have GW128 := n6_; have GE128 := n7_; have NB121_128 := n8_; have NB128_121 := n9_; have NB0_128 := n10_; have NB128_0 := n11_; clear n0_ n1_ n2_ n3_ n4_ n5_ n6_ n7_ n8_ n9_ n10_ n11_ hb hbox hg; have hnb26 := NB128_121.out; have hnc26 := NB121_128.out; have hnb27 := NB128_0.out; have hnc27 := NB0_128.out; have hcz28_0 : w25.cell? ⟨gb128, 0, none⟩ = some (.int .i64 0) := (bc_ BK128.out 0).trans rfl; have hcz28_1 : w25.cell? ⟨gb128, 1, none⟩ = some (.int .i64 0) := (bc_ BK128.out 1).trans rfl; have hfz28_0 := bf_ BK128.out 0; have hfz28_1 := bf_ BK128.out 1) | ((with_reducible refine gc_ (f := 19) rfl ?_); refine gl_ (some 18) Try.func19 #[.pointer (some ⟨g, 0, none⟩), .int .i64 3] ?_; (with_reducible refine (spec_l01Below.calls g s0_0 t126 t127 3 t132 t133 t134 w0 _ ?side1 ?side2 A19.out).mono ?_); (case side1 => repeat (first | (with_reducible first | exact HI0.out | apply IsS52.alloc | apply IsS52.drewN | apply IsS52.drew | apply IsS52.set_1 | apply IsS52.set_2 | refine IsS52.far ?_ NB0_121.out _ | refine IsS52.far ?_ NB0_128.out _) | exact HI0.out)); (case side2 => repeat (first | (with_reducible first | exact HB.out | apply ba_ | apply bd_ | apply be_ | refine bs_ ?_ (IsS52.ge HI0.out) | refine bs_ ?_ GE121.out | refine bs_ ?_ GE128.out) | exact HB.out)); rintro e w29 ⟨rfl, hi, hb, hk⟩; refine ⟨_, rfl, ?_⟩; have n0_ := A_.mk (KB_.blk hk (g' := gb121) (o := .cells #[.int .i64 0, .int .i64 0] 39 (0, 0)) (by (repeat apply bX); refine blk_far ?_ NB121_128.out _; (repeat apply bX); refine blk_far ?_ NB121_128.out _; (repeat apply bX); exact BK121.out) NB121_0.out (by simp)); have n1_ := A_.mk (Kd.R_mono (Kd.R_keep (IsS52.apart (show IsS52 w0 _ g s0_0 t126 t127 from by repeat (first | (with_reducible first | exact HI0.out | apply IsS52.alloc | apply IsS52.drewN | apply IsS52.drew | apply IsS52.set_1 | apply IsS52.set_2 | refine IsS52.far ?_ NB0_121.out _ | refine IsS52.far ?_ NB0_128.out _) | exact HI0.out)) (by (repeat apply rX); exact (Kd.R_mono (Kd.R_far (p := ⟨gb128, 1, none⟩) (Kd.R_far (p := ⟨gb128, 0, none⟩) (Kd.R_types HO124.out BK128.out (by decide)) (fun _ hk => hk.2) (.int .i64 t125)) (fun _ hk => hk.2) (.int .i64 0)) (fun _ h_ => h_.1))) (by decide)) hk (fun _ h => h.2)) (fun _ h => h.1)); have n2_ := A_.mk (KB_.blk hk (g' := gb128) (o := .cells #[.int .i64 t125, .int .i64 0] 39 (0, 0)) (by (repeat apply bX); refine bp_ (cs := #[.int .i64 t125, .int .i64 0]) ?_ 1 _ rfl; (repeat apply bX); refine bp_ (cs := #[.int .i64 0, .int .i64 0]) ?_ 0 _ rfl; (repeat apply bX); exact BK128.out) NB128_0.out (by simp)); have n3_ := A_.mk (KB_.trans (by repeat (first | (with_reducible first | exact HK.out | apply KB_.set_ | apply kn_ | apply kd_ | apply ka_ | refine kf_ ?_ GW121.out _ | refine kf_ ?_ GW128.out _) | exact HK.out)) hk (.inl rfl)); have n4_ := A_.mk (hb); have n5_ := A_.mk (hi); clear BK121 HO124 BK128 HK HB HI0; have BK121 := n0_; have HO124 := n1_; have BK128 := n2_; have HK := n3_; have HB := n4_; have HI0 := n5_; clear n0_ n1_ n2_ n3_ n4_ n5_; (try clear hb); (try clear hb2); (try clear hk); (try clear hi); have hcz30_0 : w29.cell? ⟨gb128, 0, none⟩ = some (.int .i64 t125) := (bc_ BK128.out 0).trans rfl; have hcz30_1 : w29.cell? ⟨gb128, 1, none⟩ = some (.int .i64 0) := (bc_ BK128.out 1).trans rfl; have hfz30_0 := bf_ BK128.out 0; have hfz30_1 := bf_ BK128.out 1; have hnb31 := NB121_0.out; have hnc31 := NB0_121.out; have hcz32_0 : w29.cell? ⟨gb121, 0, none⟩ = some (.int .i64 0) := (bc_ BK121.out 0).trans rfl; have hcz32_1 : w29.cell? ⟨gb121, 1, none⟩ = some (.int .i64 0) := (bc_ BK121.out 1).trans rfl; have hfz32_0 := bf_ BK121.out 0; have hfz32_1 := bf_ BK121.out 1))
  refine bodyPost_ret (results_cell_row rfl _ _ gb121 39 #[.int .i64 t125, .int .i64 t132] (0, 0) _ rfl (by (repeat apply bX); refine bp_ (cs := #[.int .i64 t125, .int .i64 0]) ?_ 1 _ rfl; (repeat apply bX); refine bp_ (cs := #[.int .i64 0, .int .i64 0]) ?_ 0 _ rfl; (repeat apply bX); refine blk_far ?_ NB121_128.out _; (repeat apply bX); exact BK121.out) Try.underlying39 rfl (by kernel_rfl)) rfl ?_
  exact ⟨by first | rfl | (simp [errW_none, errW_some] <;> rfl) | (simp [*, errW_none, errW_some] <;> rfl), by repeat (first | (with_reducible first | exact HI0.out | apply IsS52.alloc | apply IsS52.drewN | apply IsS52.drew | apply IsS52.set_1 | apply IsS52.set_2 | refine IsS52.far ?_ NB0_121.out _ | refine IsS52.far ?_ NB0_128.out _) | exact HI0.out), by repeat (first | (with_reducible first | exact HB.out | apply ba_ | apply bd_ | apply be_ | refine bs_ ?_ (IsS52.ge HI0.out) | refine bs_ ?_ GE121.out | refine bs_ ?_ GE128.out) | exact HB.out), by repeat (first | (with_reducible first | exact HK.out | apply KB_.set_ | apply kn_ | apply kd_ | apply ka_ | refine kf_ ?_ GW121.out _ | refine kf_ ?_ GW128.out _) | exact HK.out)⟩
 rw [if_neg c18] at H
 have c18b0 : (t125 == 3) = false := beq_eq_false_iff_ne.mpr c18
 have c18b1 : (t125 != 3) = true := bne_iff_ne.mpr c18
 by_cases c33 : t125 = 4
 rotate_left
 ·rw [if_neg c33] at H
  have c33b0 : (t125 == 4) = false := beq_eq_false_iff_ne.mpr c33
  have c33b1 : (t125 != 4) = true := bne_iff_ne.mpr c33
  simp only [Option.some.injEq, Prod.mk.injEq] at H
  obtain ⟨rfl, rfl, rfl, rfl⟩ := H
  go_enter Try.func20, Try.ntmps20
  go_wp2_with (first | ((with_reducible refine gd_ (N := 2) rfl ?_); refine by_ 2 (cs := #[.int .i64 0, .int .i64 0]) (t := 39) ?_; intro gb121 hg w50 hbox hb; have n0_ := A_.mk (IsS52.below (by repeat (first | (with_reducible first | exact HI0.out | apply IsS52.alloc | apply IsS52.drewN | apply IsS52.drew | apply IsS52.set_1 | apply IsS52.set_2) | exact HI0.out)) hb); have n1_ := A_.mk (KB_.trans (by repeat (first | (with_reducible first | exact HK.out | apply KB_.set_ | apply kn_ | apply kd_ | apply ka_) | exact HK.out)) (KB_.of_below hb g none) (.inl rfl)); have n2_ := A_.mk (bt_ (by repeat (first | (with_reducible first | exact HB.out | apply ba_ | apply bd_ | apply be_ | refine bs_ ?_ (IsS52.ge HI0.out)) | exact HB.out)) hb); have n3_ := A_.mk (hbox); have n4_ := A_.mk ((by rw [hg]; exact (keep_size (w := w) (g := g) (row := none) (by repeat (first | (with_reducible first | exact HK.out | apply KB_.set_ | apply kn_ | apply kd_ | apply ka_) | exact HK.out))) : w.heap.size ≤ gb121)); have n5_ := A_.mk ((Nat.le_trans HW0.out (by rw [hg]; exact (keep_size (w := w) (g := g) (row := none) (by repeat (first | (with_reducible first | exact HK.out | apply KB_.set_ | apply kn_ | apply kd_ | apply ka_) | exact HK.out))) : w.heap.size ≤ gb121) : w0.heap.size ≤ gb121)); have n6_ := A_.mk ((by rw [hg]; exact Nat.ne_of_lt (IsS52.lt (show IsS52 w0 _ g s0_0 s0_1 s0_2 from by repeat (first | (with_reducible first | exact HI0.out | apply IsS52.alloc | apply IsS52.drewN | apply IsS52.drew | apply IsS52.set_1 | apply IsS52.set_2) | exact HI0.out))) : g ≠ gb121)); have n7_ := A_.mk ((by rw [hg]; exact Nat.ne_of_gt (IsS52.lt (show IsS52 w0 _ g s0_0 s0_1 s0_2 from by repeat (first | (with_reducible first | exact HI0.out | apply IsS52.alloc | apply IsS52.drewN | apply IsS52.drew | apply IsS52.set_1 | apply IsS52.set_2) | exact HI0.out))) : gb121 ≠ g)); clear HI0 HK HB; have HI0 := n0_; have HK := n1_; have HB := n2_; have BK121 := n3_; have GW121 := n4_; have GE121 := n5_; have NB0_121 := n6_; have NB121_0 := n7_; clear n0_ n1_ n2_ n3_ n4_ n5_ n6_ n7_ hb hbox hg) | ((with_reducible refine gd_ (N := 5) rfl ?_); refine Kd.R_lit (Kd.int .i64) _ 3 ?hg (N := 5) ?hd (xs := ([7, 7, 1, 1, 1, 2, 2, 2, 5, 5, 3, 4, 6] : List Int)) (inner := [.int .i64 7, .int .i64 7, .int .i64 1, .int .i64 1, .int .i64 1, .int .i64 2, .int .i64 2, .int .i64 2, .int .i64 5, .int .i64 5, .int .i64 3, .int .i64 4, .int .i64 6]) (ok := fun _ => True) (okp := fun _ => True) ?hr ?hp (fun _ hk => hk) trivial (Below.refl _ _) (Nat.le_refl _) (by simp) ?_; (case hd => rfl); (case hg => rfl); (case hr => first | (go_simp; done) | (go_simp; rfl)); (case hp => exact (Reps.one (show Kd.M (Kd.int .i64) _ _ _ 7 [.int .i64 7] from rfl) (Reps.one (show Kd.M (Kd.int .i64) _ _ _ 7 [.int .i64 7] from rfl) (Reps.one (show Kd.M (Kd.int .i64) _ _ _ 1 [.int .i64 1] from rfl) (Reps.one (show Kd.M (Kd.int .i64) _ _ _ 1 [.int .i64 1] from rfl) (Reps.one (show Kd.M (Kd.int .i64) _ _ _ 1 [.int .i64 1] from rfl) (Reps.one (show Kd.M (Kd.int .i64) _ _ _ 2 [.int .i64 2] from rfl) (Reps.one (show Kd.M (Kd.int .i64) _ _ _ 2 [.int .i64 2] from rfl) (Reps.one (show Kd.M (Kd.int .i64) _ _ _ 2 [.int .i64 2] from rfl) (Reps.one (show Kd.M (Kd.int .i64) _ _ _ 5 [.int .i64 5] from rfl) (Reps.one (show Kd.M (Kd.int .i64) _ _ _ 5 [.int .i64 5] from rfl) (Reps.one (show Kd.M (Kd.int .i64) _ _ _ 3 [.int .i64 3] from rfl) (Reps.one (show Kd.M (Kd.int .i64) _ _ _ 4 [.int .i64 4] from rfl) (Reps.one (show Kd.M (Kd.int .i64) _ _ _ 6 [.int .i64 6] from rfl) (Reps.none _ _))))))))))))))); intro v123 w51 ho52 hb hg_ hnew_; clear hg_ hnew_; (first | rw [← Ny122.out] at ho52 | (simp only [Int.reduceToNat] at ho52; rw [← Ny122.out] at ho52)); have n0_ := A_.mk (Kd.R_lower ho52 (keep_size (w := w) (g := g) (row := none) (by repeat (first | (with_reducible first | exact HK.out | apply KB_.set_ | apply kn_ | apply kd_ | apply ka_ | refine kf_ ?_ GW121.out _) | exact HK.out)))); have n1_ := A_.mk (IsS52.below (by repeat (first | (with_reducible first | exact HI0.out | apply IsS52.alloc | apply IsS52.drewN | apply IsS52.drew | apply IsS52.set_1 | apply IsS52.set_2 | refine IsS52.far ?_ NB0_121.out _) | exact HI0.out)) hb); have n2_ := A_.mk (bb_ (bY BK121.out) hb); have n3_ := A_.mk (KB_.trans (by repeat (first | (with_reducible first | exact HK.out | apply KB_.set_ | apply kn_ | apply kd_ | apply ka_ | refine kf_ ?_ GW121.out _) | exact HK.out)) (KB_.of_below hb g none) (.inl rfl)); have n4_ := A_.mk (bt_ (by repeat (first | (with_reducible first | exact HB.out | apply ba_ | apply bd_ | apply be_ | refine bs_ ?_ (IsS52.ge HI0.out) | refine bs_ ?_ GE121.out) | exact HB.out)) hb); clear HI0 BK121 HK HB; have HO124 := n0_; have HI0 := n1_; have BK121 := n2_; have HK := n3_; have HB := n4_; clear n0_ n1_ n2_ n3_ n4_ hb ho52; obtain ⟨Ao53, co53, eo53⟩ := Kd.R_slice HO124.out; subst eo53) | ((with_reducible refine gc_ (f := 44) rfl ?_); refine gl_ (some 6) Try.func44 #[.pointer (some ⟨g, 0, none⟩), .slice Ao53 y122.length co53] ?_; (with_reducible refine (spec_l01PickInt.calls g s0_0 s0_1 s0_2 _ _ y122 t125 t126 t127 w0 _ ?side1 ?side2 ?side3 ?side4 ?side5 A2.out).mono ?_); (case side1 => repeat (first | (with_reducible first | exact HI0.out | apply IsS52.alloc | apply IsS52.drewN | apply IsS52.drew | apply IsS52.set_1 | apply IsS52.set_2 | refine IsS52.far ?_ NB0_121.out _) | exact HI0.out)); (case side2 => repeat (first | (with_reducible first | exact HB.out | apply ba_ | apply bd_ | apply be_ | refine bs_ ?_ (IsS52.ge HI0.out) | refine bs_ ?_ GE121.out) | exact HB.out)); (case side3 => exact cY ((Kd.R_reads' HO124.out).2.2)); (case side4 => exact (Kd.R_reads' HO124.out).2.1); (case side5 => exact far_slice (IsS52.own_ne HI0.out HO124.out (by decide))); rintro e w54 ⟨rfl, hi, hb, hk⟩; refine ⟨_, rfl, ?_⟩; have n0_ := A_.mk (KB_.blk hk (g' := gb121) (o := .cells #[.int .i64 0, .int .i64 0] 39 (0, 0)) (bY BK121.out) NB121_0.out (by simp)); have n1_ := A_.mk (Kd.R_mono (Kd.R_keep (IsS52.apart (show IsS52 w0 _ g s0_0 s0_1 s0_2 from by repeat (first | (with_reducible first | exact HI0.out | apply IsS52.alloc | apply IsS52.drewN | apply IsS52.drew | apply IsS52.set_1 | apply IsS52.set_2 | refine IsS52.far ?_ NB0_121.out _) | exact HI0.out)) (rY HO124.out) (by decide)) hk (fun _ h => h.2)) (fun _ h => h.1)); have n2_ := A_.mk (KB_.trans (by repeat (first | (with_reducible first | exact HK.out | apply KB_.set_ | apply kn_ | apply kd_ | apply ka_ | refine kf_ ?_ GW121.out _) | exact HK.out)) hk (.inl rfl)); have n3_ := A_.mk (hb); have n4_ := A_.mk (hi); clear BK121 HO124 HK HB HI0; have BK121 := n0_; have HO124 := n1_; have HK := n2_; have HB := n3_; have HI0 := n4_; clear n0_ n1_ n2_ n3_ n4_; (try clear hb); (try clear hb2); (try clear hk); (try clear hi)) | ((with_reducible refine gd_ (N := 3) rfl ?_); refine by_ 3 (cs := #[.int .i64 0, .int .i64 0]) (t := 39) ?_; intro gb128 hg w55 hbox hb; have n0_ := A_.mk (Kd.R_below (rY HO124.out) hb); have n1_ := A_.mk (IsS52.below (by repeat (first | (with_reducible first | exact HI0.out | apply IsS52.alloc | apply IsS52.drewN | apply IsS52.drew | apply IsS52.set_1 | apply IsS52.set_2 | refine IsS52.far ?_ NB0_121.out _) | exact HI0.out)) hb); have n2_ := A_.mk (bb_ (bY BK121.out) hb); have n3_ := A_.mk (KB_.trans (by repeat (first | (with_reducible first | exact HK.out | apply KB_.set_ | apply kn_ | apply kd_ | apply ka_ | refine kf_ ?_ GW121.out _) | exact HK.out)) (KB_.of_below hb g none) (.inl rfl)); have n4_ := A_.mk (bt_ (by repeat (first | (with_reducible first | exact HB.out | apply ba_ | apply bd_ | apply be_ | refine bs_ ?_ (IsS52.ge HI0.out) | refine bs_ ?_ GE121.out) | exact HB.out)) hb); have n5_ := A_.mk (hbox); have n6_ := A_.mk ((by rw [hg]; exact (keep_size (w := w) (g := g) (row := none) (by repeat (first | (with_reducible first | exact HK.out | apply KB_.set_ | apply kn_ | apply kd_ | apply ka_ | refine kf_ ?_ GW121.out _) | exact HK.out))) : w.heap.size ≤ gb128)); have n7_ := A_.mk ((Nat.le_trans HW0.out (by rw [hg]; exact (keep_size (w := w) (g := g) (row := none) (by repeat (first | (with_reducible first | exact HK.out | apply KB_.set_ | apply kn_ | apply kd_ | apply ka_ | refine kf_ ?_ GW121.out _) | exact HK.out))) : w.heap.size ≤ gb128) : w0.heap.size ≤ gb128)); have n8_ := A_.mk ((by rw [hg]; exact Nat.ne_of_lt (blk_lt (bY BK121.out)) : gb121 ≠ gb128)); have n9_ := A_.mk ((by rw [hg]; exact Nat.ne_of_gt (blk_lt (bY BK121.out)) : gb128 ≠ gb121)); have n10_ := A_.mk ((by rw [hg]; exact Nat.ne_of_lt (IsS52.lt (show IsS52 w0 _ g s0_0 t126 t127 from by repeat (first | (with_reducible first | exact HI0.out | apply IsS52.alloc | apply IsS52.drewN | apply IsS52.drew | apply IsS52.set_1 | apply IsS52.set_2 | refine IsS52.far ?_ NB0_121.out _) | exact HI0.out))) : g ≠ gb128)); have n11_ := A_.mk ((by rw [hg]; exact Nat.ne_of_gt (IsS52.lt (show IsS52 w0 _ g s0_0 t126 t127 from by repeat (first | (with_reducible first | exact HI0.out | apply IsS52.alloc | apply IsS52.drewN | apply IsS52.drew | apply IsS52.set_1 | apply IsS52.set_2 | refine IsS52.far ?_ NB0_121.out _) | exact HI0.out))) : gb128 ≠ g)); clear HO124 HI0 BK121 HK HB; have HO124 := n0_; have HI0 := n1_; have BK121 := n2_; have HK := n3_; have HB := n4_; have BK128 := n5_; have GW128 := n6_; have GE128 := n7_; have NB121_128 := n8_; have NB128_121 := n9_; have NB0_128 := n10_; have NB128_0 := n11_; clear n0_ n1_ n2_ n3_ n4_ n5_ n6_ n7_ n8_ n9_ n10_ n11_ hb hbox hg; have hnb56 := NB128_121.out; have hnc56 := NB121_128.out; have hnb57 := NB128_0.out; have hnc57 := NB0_128.out; have hcz58_0 : w55.cell? ⟨gb128, 0, none⟩ = some (.int .i64 0) := (bc_ BK128.out 0).trans rfl; have hcz58_1 : w55.cell? ⟨gb128, 1, none⟩ = some (.int .i64 0) := (bc_ BK128.out 1).trans rfl; have hfz58_0 := bf_ BK128.out 0; have hfz58_1 := bf_ BK128.out 1; have hnb59 := NB121_0.out; have hnc59 := NB0_121.out; have hcz60_0 : w55.cell? ⟨gb121, 0, none⟩ = some (.int .i64 0) := (bc_ BK121.out 0).trans rfl; have hcz60_1 : w55.cell? ⟨gb121, 1, none⟩ = some (.int .i64 0) := (bc_ BK121.out 1).trans rfl; have hfz60_0 := bf_ BK121.out 0; have hfz60_1 := bf_ BK121.out 1))
  refine bodyPost_ret (results_cell_row rfl _ _ gb121 39 #[.int .i64 t125, .int .i64 0] (0, 0) _ rfl (by (repeat apply bX); refine bp_ (cs := #[.int .i64 t125, .int .i64 0]) ?_ 1 _ rfl; (repeat apply bX); refine bp_ (cs := #[.int .i64 0, .int .i64 0]) ?_ 0 _ rfl; (repeat apply bX); refine blk_far ?_ NB121_128.out _; (repeat apply bX); refine blk_far ?_ NB121_128.out _; (repeat apply bX); exact BK121.out) Try.underlying39 rfl (by kernel_rfl)) rfl ?_
  exact ⟨by first | rfl | (simp [errW_none, errW_some] <;> rfl) | (simp [*, errW_none, errW_some] <;> rfl), by repeat (first | (with_reducible first | exact HI0.out | apply IsS52.alloc | apply IsS52.drewN | apply IsS52.drew | apply IsS52.set_1 | apply IsS52.set_2 | refine IsS52.far ?_ NB0_121.out _ | refine IsS52.far ?_ NB0_128.out _) | exact HI0.out), by repeat (first | (with_reducible first | exact HB.out | apply ba_ | apply bd_ | apply be_ | refine bs_ ?_ (IsS52.ge HI0.out) | refine bs_ ?_ GE121.out | refine bs_ ?_ GE128.out) | exact HB.out), by repeat (first | (with_reducible first | exact HK.out | apply KB_.set_ | apply kn_ | apply kd_ | apply ka_ | refine kf_ ?_ GW121.out _ | refine kf_ ?_ GW128.out _) | exact HK.out)⟩
 rw [if_pos c33] at H
 have c33b0 : (t125 == 4) = true := beq_iff_eq.mpr c33
 have c33b1 : (t125 != 4) = false := bne_eq_false_iff_eq.mpr c33
 clear c33
 replace H := ob_ H
 obtain ⟨⟨t135, t136, t137⟩, A340, H⟩ := H
 replace H : ((spec_l01Below.f s0_0 t136 t137 40).bind fun bt138 => (some (t125, wrap64 (t135 + (wrap64 (8 * bt138.1))), bt138.2.1, bt138.2.2))) = some (r1, r2, r3, r4) := H
 have A34 := A_.mk A340
 clear A340
 replace H := ob_ H
 obtain ⟨⟨t138, t139, t140⟩, A350, H⟩ := H
 replace H : (some (t125, wrap64 (t135 + (wrap64 (8 * t138))), t139, t140)) = some (r1, r2, r3, r4) := H
 have A35 := A_.mk A350
 clear A350
 simp only [Option.some.injEq, Prod.mk.injEq] at H
 obtain ⟨rfl, rfl, rfl, rfl⟩ := H
 go_enter Try.func20, Try.ntmps20
 go_wp2_with (first | ((with_reducible refine gd_ (N := 2) rfl ?_); refine by_ 2 (cs := #[.int .i64 0, .int .i64 0]) (t := 39) ?_; intro gb121 hg w36 hbox hb; have n0_ := A_.mk (IsS52.below (by repeat (first | (with_reducible first | exact HI0.out | apply IsS52.alloc | apply IsS52.drewN | apply IsS52.drew | apply IsS52.set_1 | apply IsS52.set_2) | exact HI0.out)) hb); have n1_ := A_.mk (KB_.trans (by repeat (first | (with_reducible first | exact HK.out | apply KB_.set_ | apply kn_ | apply kd_ | apply ka_) | exact HK.out)) (KB_.of_below hb g none) (.inl rfl)); have n2_ := A_.mk (bt_ (by repeat (first | (with_reducible first | exact HB.out | apply ba_ | apply bd_ | apply be_ | refine bs_ ?_ (IsS52.ge HI0.out)) | exact HB.out)) hb); have n3_ := A_.mk (hbox); have n4_ := A_.mk ((by rw [hg]; exact (keep_size (w := w) (g := g) (row := none) (by repeat (first | (with_reducible first | exact HK.out | apply KB_.set_ | apply kn_ | apply kd_ | apply ka_) | exact HK.out))) : w.heap.size ≤ gb121)); have n5_ := A_.mk ((Nat.le_trans HW0.out (by rw [hg]; exact (keep_size (w := w) (g := g) (row := none) (by repeat (first | (with_reducible first | exact HK.out | apply KB_.set_ | apply kn_ | apply kd_ | apply ka_) | exact HK.out))) : w.heap.size ≤ gb121) : w0.heap.size ≤ gb121)); have n6_ := A_.mk ((by rw [hg]; exact Nat.ne_of_lt (IsS52.lt (show IsS52 w0 _ g s0_0 s0_1 s0_2 from by repeat (first | (with_reducible first | exact HI0.out | apply IsS52.alloc | apply IsS52.drewN | apply IsS52.drew | apply IsS52.set_1 | apply IsS52.set_2) | exact HI0.out))) : g ≠ gb121)); have n7_ := A_.mk ((by rw [hg]; exact Nat.ne_of_gt (IsS52.lt (show IsS52 w0 _ g s0_0 s0_1 s0_2 from by repeat (first | (with_reducible first | exact HI0.out | apply IsS52.alloc | apply IsS52.drewN | apply IsS52.drew | apply IsS52.set_1 | apply IsS52.set_2) | exact HI0.out))) : gb121 ≠ g)); clear HI0 HK HB; have HI0 := n0_; have HK := n1_; have HB := n2_; have BK121 := n3_; have GW121 := n4_; have GE121 := n5_; have NB0_121 := n6_; have NB121_0 := n7_; clear n0_ n1_ n2_ n3_ n4_ n5_ n6_ n7_ hb hbox hg) | ((with_reducible refine gd_ (N := 5) rfl ?_); refine Kd.R_lit (Kd.int .i64) _ 3 ?hg (N := 5) ?hd (xs := ([7, 7, 1, 1, 1, 2, 2, 2, 5, 5, 3, 4, 6] : List Int)) (inner := [.int .i64 7, .int .i64 7, .int .i64 1, .int .i64 1, .int .i64 1, .int .i64 2, .int .i64 2, .int .i64 2, .int .i64 5, .int .i64 5, .int .i64 3, .int .i64 4, .int .i64 6]) (ok := fun _ => True) (okp := fun _ => True) ?hr ?hp (fun _ hk => hk) trivial (Below.refl _ _) (Nat.le_refl _) (by simp) ?_; (case hd => rfl); (case hg => rfl); (case hr => first | (go_simp; done) | (go_simp; rfl)); (case hp => exact (Reps.one (show Kd.M (Kd.int .i64) _ _ _ 7 [.int .i64 7] from rfl) (Reps.one (show Kd.M (Kd.int .i64) _ _ _ 7 [.int .i64 7] from rfl) (Reps.one (show Kd.M (Kd.int .i64) _ _ _ 1 [.int .i64 1] from rfl) (Reps.one (show Kd.M (Kd.int .i64) _ _ _ 1 [.int .i64 1] from rfl) (Reps.one (show Kd.M (Kd.int .i64) _ _ _ 1 [.int .i64 1] from rfl) (Reps.one (show Kd.M (Kd.int .i64) _ _ _ 2 [.int .i64 2] from rfl) (Reps.one (show Kd.M (Kd.int .i64) _ _ _ 2 [.int .i64 2] from rfl) (Reps.one (show Kd.M (Kd.int .i64) _ _ _ 2 [.int .i64 2] from rfl) (Reps.one (show Kd.M (Kd.int .i64) _ _ _ 5 [.int .i64 5] from rfl) (Reps.one (show Kd.M (Kd.int .i64) _ _ _ 5 [.int .i64 5] from rfl) (Reps.one (show Kd.M (Kd.int .i64) _ _ _ 3 [.int .i64 3] from rfl) (Reps.one (show Kd.M (Kd.int .i64) _ _ _ 4 [.int .i64 4] from rfl) (Reps.one (show Kd.M (Kd.int .i64) _ _ _ 6 [.int .i64 6] from rfl) (Reps.none _ _))))))))))))))); intro v123 w37 ho38 hb hg_ hnew_; clear hg_ hnew_; (first | rw [← Ny122.out] at ho38 | (simp only [Int.reduceToNat] at ho38; rw [← Ny122.out] at ho38)); have n0_ := A_.mk (Kd.R_lower ho38 (keep_size (w := w) (g := g) (row := none) (by repeat (first | (with_reducible first | exact HK.out | apply KB_.set_ | apply kn_ | apply kd_ | apply ka_ | refine kf_ ?_ GW121.out _) | exact HK.out)))); have n1_ := A_.mk (IsS52.below (by repeat (first | (with_reducible first | exact HI0.out | apply IsS52.alloc | apply IsS52.drewN | apply IsS52.drew | apply IsS52.set_1 | apply IsS52.set_2 | refine IsS52.far ?_ NB0_121.out _) | exact HI0.out)) hb); have n2_ := A_.mk (bb_ (bY BK121.out) hb); have n3_ := A_.mk (KB_.trans (by repeat (first | (with_reducible first | exact HK.out | apply KB_.set_ | apply kn_ | apply kd_ | apply ka_ | refine kf_ ?_ GW121.out _) | exact HK.out)) (KB_.of_below hb g none) (.inl rfl)); have n4_ := A_.mk (bt_ (by repeat (first | (with_reducible first | exact HB.out | apply ba_ | apply bd_ | apply be_ | refine bs_ ?_ (IsS52.ge HI0.out) | refine bs_ ?_ GE121.out) | exact HB.out)) hb); clear HI0 BK121 HK HB; have HO124 := n0_; have HI0 := n1_; have BK121 := n2_; have HK := n3_; have HB := n4_; clear n0_ n1_ n2_ n3_ n4_ hb ho38; obtain ⟨Ao39, co39, eo39⟩ := Kd.R_slice HO124.out; subst eo39) | ((with_reducible refine gc_ (f := 44) rfl ?_); refine gl_ (some 6) Try.func44 #[.pointer (some ⟨g, 0, none⟩), .slice Ao39 y122.length co39] ?_; (with_reducible refine (spec_l01PickInt.calls g s0_0 s0_1 s0_2 _ _ y122 t125 t126 t127 w0 _ ?side1 ?side2 ?side3 ?side4 ?side5 A2.out).mono ?_); (case side1 => repeat (first | (with_reducible first | exact HI0.out | apply IsS52.alloc | apply IsS52.drewN | apply IsS52.drew | apply IsS52.set_1 | apply IsS52.set_2 | refine IsS52.far ?_ NB0_121.out _) | exact HI0.out)); (case side2 => repeat (first | (with_reducible first | exact HB.out | apply ba_ | apply bd_ | apply be_ | refine bs_ ?_ (IsS52.ge HI0.out) | refine bs_ ?_ GE121.out) | exact HB.out)); (case side3 => exact cY ((Kd.R_reads' HO124.out).2.2)); (case side4 => exact (Kd.R_reads' HO124.out).2.1); (case side5 => exact far_slice (IsS52.own_ne HI0.out HO124.out (by decide))); rintro e w40 ⟨rfl, hi, hb, hk⟩; refine ⟨_, rfl, ?_⟩; have n0_ := A_.mk (KB_.blk hk (g' := gb121) (o := .cells #[.int .i64 0, .int .i64 0] 39 (0, 0)) (bY BK121.out) NB121_0.out (by simp)); have n1_ := A_.mk (Kd.R_mono (Kd.R_keep (IsS52.apart (show IsS52 w0 _ g s0_0 s0_1 s0_2 from by repeat (first | (with_reducible first | exact HI0.out | apply IsS52.alloc | apply IsS52.drewN | apply IsS52.drew | apply IsS52.set_1 | apply IsS52.set_2 | refine IsS52.far ?_ NB0_121.out _) | exact HI0.out)) (rY HO124.out) (by decide)) hk (fun _ h => h.2)) (fun _ h => h.1)); have n2_ := A_.mk (KB_.trans (by repeat (first | (with_reducible first | exact HK.out | apply KB_.set_ | apply kn_ | apply kd_ | apply ka_ | refine kf_ ?_ GW121.out _) | exact HK.out)) hk (.inl rfl)); have n3_ := A_.mk (hb); have n4_ := A_.mk (hi); clear BK121 HO124 HK HB HI0; have BK121 := n0_; have HO124 := n1_; have HK := n2_; have HB := n3_; have HI0 := n4_; clear n0_ n1_ n2_ n3_ n4_; (try clear hb); (try clear hb2); (try clear hk); (try clear hi)) | ((with_reducible refine gd_ (N := 3) rfl ?_); refine by_ 3 (cs := #[.int .i64 0, .int .i64 0]) (t := 39) ?_; intro gb128 hg w41 hbox hb; have n0_ := A_.mk (Kd.R_below (rY HO124.out) hb); have n1_ := A_.mk (IsS52.below (by repeat (first | (with_reducible first | exact HI0.out | apply IsS52.alloc | apply IsS52.drewN | apply IsS52.drew | apply IsS52.set_1 | apply IsS52.set_2 | refine IsS52.far ?_ NB0_121.out _) | exact HI0.out)) hb); have n2_ := A_.mk (bb_ (bY BK121.out) hb); have n3_ := A_.mk (KB_.trans (by repeat (first | (with_reducible first | exact HK.out | apply KB_.set_ | apply kn_ | apply kd_ | apply ka_ | refine kf_ ?_ GW121.out _) | exact HK.out)) (KB_.of_below hb g none) (.inl rfl)); have n4_ := A_.mk (bt_ (by repeat (first | (with_reducible first | exact HB.out | apply ba_ | apply bd_ | apply be_ | refine bs_ ?_ (IsS52.ge HI0.out) | refine bs_ ?_ GE121.out) | exact HB.out)) hb); have n5_ := A_.mk (hbox); have n6_ := A_.mk ((by rw [hg]; exact (keep_size (w := w) (g := g) (row := none) (by repeat (first | (with_reducible first | exact HK.out | apply KB_.set_ | apply kn_ | apply kd_ | apply ka_ | refine kf_ ?_ GW121.out _) | exact HK.out))) : w.heap.size ≤ gb128)); have n7_ := A_.mk ((Nat.le_trans HW0.out (by rw [hg]; exact (keep_size (w := w) (g := g) (row := none) (by repeat (first | (with_reducible first | exact HK.out | apply KB_.set_ | apply kn_ | apply kd_ | apply ka_ | refine kf_ ?_ GW121.out _) | exact HK.out))) : w.heap.size ≤ gb128) : w0.heap.size ≤ gb128)); have n8_ := A_.mk ((by rw [hg]; exact Nat.ne_of_lt (blk_lt (bY BK121.out)) : gb121 ≠ gb128)); have n9_ := A_.mk ((by rw [hg]; exact Nat.ne_of_gt (blk_lt (bY BK121.out)) : gb128 ≠ gb121)); have n10_ := A_.mk ((by rw [hg]; exact Nat.ne_of_lt (IsS52.lt (show IsS52 w0 _ g s0_0 t126 t127 from by repeat (first | (with_reducible first | exact HI0.out | apply IsS52.alloc | apply IsS52.drewN | apply IsS52.drew | apply IsS52.set_1 | apply IsS52.set_2 | refine IsS52.far ?_ NB0_121.out _) | exact HI0.out))) : g ≠ gb128)); have n11_ := A_.mk ((by rw [hg]; exact Nat.ne_of_gt (IsS52.lt (show IsS52 w0 _ g s0_0 t126 t127 from by repeat (first | (with_reducible first | exact HI0.out | apply IsS52.alloc | apply IsS52.drewN | apply IsS52.drew | apply IsS52.set_1 | apply IsS52.set_2 | refine IsS52.far ?_ NB0_121.out _) | exact HI0.out))) : gb128 ≠ g)); clear HO124 HI0 BK121 HK HB; have HO124 := n0_; have HI0 := n1_; have BK121 := n2_; have HK := n3_; have HB := n4_; have BK128 := n5_; have GW128 := n6_; have GE128 := n7_; have NB121_128 := n8_; have NB128_121 := n9_; have NB0_128 := n10_; have NB128_0 := n11_; clear n0_ n1_ n2_ n3_ n4_ n5_ n6_ n7_ n8_ n9_ n10_ n11_ hb hbox hg; have hnb42 := NB128_121.out; have hnc42 := NB121_128.out; have hnb43 := NB128_0.out; have hnc43 := NB0_128.out; have hcz44_0 : w41.cell? ⟨gb128, 0, none⟩ = some (.int .i64 0) := (bc_ BK128.out 0).trans rfl; have hcz44_1 : w41.cell? ⟨gb128, 1, none⟩ = some (.int .i64 0) := (bc_ BK128.out 1).trans rfl; have hfz44_0 := bf_ BK128.out 0; have hfz44_1 := bf_ BK128.out 1) | ((with_reducible refine gc_ (f := 19) rfl ?_); refine gl_ (some 23) Try.func19 #[.pointer (some ⟨g, 0, none⟩), .int .i64 2] ?_; (with_reducible refine (spec_l01Below.calls g s0_0 t126 t127 2 t135 t136 t137 w0 _ ?side1 ?side2 A34.out).mono ?_); (case side1 => repeat (first | (with_reducible first | exact HI0.out | apply IsS52.alloc | apply IsS52.drewN | apply IsS52.drew | apply IsS52.set_1 | apply IsS52.set_2 | refine IsS52.far ?_ NB0_121.out _ | refine IsS52.far ?_ NB0_128.out _) | exact HI0.out)); (case side2 => repeat (first | (with_reducible first | exact HB.out | apply ba_ | apply bd_ | apply be_ | refine bs_ ?_ (IsS52.ge HI0.out) | refine bs_ ?_ GE121.out | refine bs_ ?_ GE128.out) | exact HB.out)); rintro e w45 ⟨rfl, hi, hb, hk⟩; refine ⟨_, rfl, ?_⟩; have n0_ := A_.mk (KB_.blk hk (g' := gb121) (o := .cells #[.int .i64 0, .int .i64 0] 39 (0, 0)) (by (repeat apply bX); refine blk_far ?_ NB121_128.out _; (repeat apply bX); refine blk_far ?_ NB121_128.out _; (repeat apply bX); exact BK121.out) NB121_0.out (by simp)); have n1_ := A_.mk (Kd.R_mono (Kd.R_keep (IsS52.apart (show IsS52 w0 _ g s0_0 t126 t127 from by repeat (first | (with_reducible first | exact HI0.out | apply IsS52.alloc | apply IsS52.drewN | apply IsS52.drew | apply IsS52.set_1 | apply IsS52.set_2 | refine IsS52.far ?_ NB0_121.out _ | refine IsS52.far ?_ NB0_128.out _) | exact HI0.out)) (by (repeat apply rX); exact (Kd.R_mono (Kd.R_far (p := ⟨gb128, 1, none⟩) (Kd.R_far (p := ⟨gb128, 0, none⟩) (Kd.R_types HO124.out BK128.out (by decide)) (fun _ hk => hk.2) (.int .i64 t125)) (fun _ hk => hk.2) (.int .i64 0)) (fun _ h_ => h_.1))) (by decide)) hk (fun _ h => h.2)) (fun _ h => h.1)); have n2_ := A_.mk (KB_.blk hk (g' := gb128) (o := .cells #[.int .i64 t125, .int .i64 0] 39 (0, 0)) (by (repeat apply bX); refine bp_ (cs := #[.int .i64 t125, .int .i64 0]) ?_ 1 _ rfl; (repeat apply bX); refine bp_ (cs := #[.int .i64 0, .int .i64 0]) ?_ 0 _ rfl; (repeat apply bX); exact BK128.out) NB128_0.out (by simp)); have n3_ := A_.mk (KB_.trans (by repeat (first | (with_reducible first | exact HK.out | apply KB_.set_ | apply kn_ | apply kd_ | apply ka_ | refine kf_ ?_ GW121.out _ | refine kf_ ?_ GW128.out _) | exact HK.out)) hk (.inl rfl)); have n4_ := A_.mk (hb); have n5_ := A_.mk (hi); clear BK121 HO124 BK128 HK HB HI0; have BK121 := n0_; have HO124 := n1_; have BK128 := n2_; have HK := n3_; have HB := n4_; have HI0 := n5_; clear n0_ n1_ n2_ n3_ n4_ n5_; (try clear hb); (try clear hb2); (try clear hk); (try clear hi)) | ((with_reducible refine gc_ (f := 19) rfl ?_); refine gl_ (some 25) Try.func19 #[.pointer (some ⟨g, 0, none⟩), .int .i64 40] ?_; (with_reducible refine (spec_l01Below.calls g s0_0 t136 t137 40 t138 t139 t140 w0 _ ?side1 ?side2 A35.out).mono ?_); (case side1 => repeat (first | (with_reducible first | exact HI0.out | apply IsS52.alloc | apply IsS52.drewN | apply IsS52.drew | apply IsS52.set_1 | apply IsS52.set_2 | refine IsS52.far ?_ NB0_121.out _ | refine IsS52.far ?_ NB0_128.out _) | exact HI0.out)); (case side2 => repeat (first | (with_reducible first | exact HB.out | apply ba_ | apply bd_ | apply be_ | refine bs_ ?_ (IsS52.ge HI0.out) | refine bs_ ?_ GE121.out | refine bs_ ?_ GE128.out) | exact HB.out)); rintro e w46 ⟨rfl, hi, hb, hk⟩; refine ⟨_, rfl, ?_⟩; have n0_ := A_.mk (KB_.blk hk (g' := gb121) (o := .cells #[.int .i64 0, .int .i64 0] 39 (0, 0)) (bY BK121.out) NB121_0.out (by simp)); have n1_ := A_.mk (Kd.R_mono (Kd.R_keep (IsS52.apart (show IsS52 w0 _ g s0_0 t136 t137 from by repeat (first | (with_reducible first | exact HI0.out | apply IsS52.alloc | apply IsS52.drewN | apply IsS52.drew | apply IsS52.set_1 | apply IsS52.set_2 | refine IsS52.far ?_ NB0_121.out _ | refine IsS52.far ?_ NB0_128.out _) | exact HI0.out)) (rY HO124.out) (by decide)) hk (fun _ h => h.2)) (fun _ h => h.1)); have n2_ := A_.mk (KB_.blk hk (g' := gb128) (o := .cells #[.int .i64 t125, .int .i64 0] 39 (0, 0)) (bY BK128.out) NB128_0.out (by simp)); have n3_ := A_.mk (KB_.trans (by repeat (first | (with_reducible first | exact HK.out | apply KB_.set_ | apply kn_ | apply kd_ | apply ka_ | refine kf_ ?_ GW121.out _ | refine kf_ ?_ GW128.out _) | exact HK.out)) hk (.inl rfl)); have n4_ := A_.mk (hb); have n5_ := A_.mk (hi); clear BK121 HO124 BK128 HK HB HI0; have BK121 := n0_; have HO124 := n1_; have BK128 := n2_; have HK := n3_; have HB := n4_; have HI0 := n5_; clear n0_ n1_ n2_ n3_ n4_ n5_; (try clear hb); (try clear hb2); (try clear hk); (try clear hi); have hcz47_0 : w46.cell? ⟨gb128, 0, none⟩ = some (.int .i64 t125) := (bc_ BK128.out 0).trans rfl; have hcz47_1 : w46.cell? ⟨gb128, 1, none⟩ = some (.int .i64 0) := (bc_ BK128.out 1).trans rfl; have hfz47_0 := bf_ BK128.out 0; have hfz47_1 := bf_ BK128.out 1; have hnb48 := NB121_0.out; have hnc48 := NB0_121.out; have hcz49_0 : w46.cell? ⟨gb121, 0, none⟩ = some (.int .i64 0) := (bc_ BK121.out 0).trans rfl; have hcz49_1 : w46.cell? ⟨gb121, 1, none⟩ = some (.int .i64 0) := (bc_ BK121.out 1).trans rfl; have hfz49_0 := bf_ BK121.out 0; have hfz49_1 := bf_ BK121.out 1))
 refine bodyPost_ret (results_cell_row rfl _ _ gb121 39 #[.int .i64 t125, .int .i64 (wrap64 (t135 + (wrap64 (8 * t138))))] (0, 0) _ rfl (by (repeat apply bX); refine bp_ (cs := #[.int .i64 t125, .int .i64 0]) ?_ 1 _ rfl; (repeat apply bX); refine bp_ (cs := #[.int .i64 0, .int .i64 0]) ?_ 0 _ rfl; (repeat apply bX); refine blk_far ?_ NB121_128.out _; (repeat apply bX); exact BK121.out) Try.underlying39 rfl (by kernel_rfl)) rfl ?_
 exact ⟨by first | rfl | (simp [errW_none, errW_some] <;> rfl) | (simp [*, errW_none, errW_some] <;> rfl), by repeat (first | (with_reducible first | exact HI0.out | apply IsS52.alloc | apply IsS52.drewN | apply IsS52.drew | apply IsS52.set_1 | apply IsS52.set_2 | refine IsS52.far ?_ NB0_121.out _ | refine IsS52.far ?_ NB0_128.out _) | exact HI0.out), by repeat (first | (with_reducible first | exact HB.out | apply ba_ | apply bd_ | apply be_ | refine bs_ ?_ (IsS52.ge HI0.out) | refine bs_ ?_ GE121.out | refine bs_ ?_ GE128.out) | exact HB.out), by repeat (first | (with_reducible first | exact HK.out | apply KB_.set_ | apply kn_ | apply kd_ | apply ka_ | refine kf_ ?_ GW121.out _ | refine kf_ ?_ GW128.out _) | exact HK.out)⟩
/-! ### spec_l10Acts: function 11 -/
def spec_l10Acts.l0 : Nat → List (S39) → Int → Int → List Int → Int → Int → Option ((List (S39)) × Int × Int)
 | 0, _, _, _, _, _, _ => none
 | k + 1, x5, x6, x7, x1000, x1001, x1002 => if x7 < x6 then ((spec_l10Act.f x1000 x1001 x1002).bind fun bt147 => (if x5.length < 8796093022208 then (spec_l10Acts.l0 k (x5 ++ [(⟨bt147.1, bt147.2.1⟩ : S39)]) x6 (wrap64 (x7 + 1)) x1000 bt147.2.2.1 bt147.2.2.2) else (none))) else (some (x5, x1001, x1002))
def spec_l10Acts.f (k : Nat) (s0_0 : List Int) (s0_1 : Int) (s0_2 : Int) (a1 : Int) : Option ((List (S39)) × Int × Int) := (spec_l01Below.f s0_0 s0_1 s0_2 a1).bind fun bt144 => (spec_l10Acts.l0 k (([] : List (S39))) bt144.1 0 s0_0 bt144.2.1 bt144.2.2)
set_option maxHeartbeats 8000000 in
set_option maxRecDepth 100000 in
theorem spec_l10Acts.calls (k : Nat) (g : Nat) (s0_0 : List Int) (s0_1 : Int) (s0_2 : Int) (a1 : Int) (r1 : List (S39)) (r2 : Int) (r3 : Int) (w0 w : World) (hI : IsS52 w0 w g s0_0 s0_1 s0_2) (hB : Below w0.heap.size w0 w) (h : spec_l10Acts.f k s0_0 s0_1 s0_2 a1 = some (r1, r2, r3)) :
  Calls Try.prog 11 #[.pointer (some ⟨g, 0, none⟩), .int .i64 a1] w fun e w' => ∃ v0_ : Value, e = .returned (v0_) ∧ Kd.R k39 39 w' w.heap.size (fun _ => True) v0_ r1 ∧ IsS52 w0 w' g s0_0 r2 r3 ∧ Below w0.heap.size w0 w' ∧ KB_ w w' g none := by
 have HI0 := A_.mk hI
 have HK := A_.mk (KB_.refl w g none)
 have HL := A_.mk hB.size
 clear hI
 have HW0 := A_.mk hB.size
 have HB := A_.mk hB
 clear hB
 have H : ((spec_l01Below.f s0_0 s0_1 s0_2 a1).bind fun bt144 => (spec_l10Acts.l0 k (([] : List (S39))) bt144.1 0 s0_0 bt144.2.1 bt144.2.2)) = some (r1, r2, r3) := h
 clear h
 obtain ⟨y141, hy141⟩ : ∃ y_ : List (S39), y_ = (([] : List (S39))) := ⟨_, rfl⟩
 replace H : ((spec_l01Below.f s0_0 s0_1 s0_2 a1).bind fun bt144 => (spec_l10Acts.l0 k y141 bt144.1 0 s0_0 bt144.2.1 bt144.2.2)) = some (r1, r2, r3) := by first | (rw [hy141]; with_reducible exact H) | (have H2_ := (Option.bind_some _ _).symm.trans H; rw [hy141]; with_reducible exact H2_) | (have H2_ := (Option.bind_some _ _).symm.trans H; with_reducible exact H2_) | with_reducible exact H | (rw [hy141]; exact H) | exact H
 have Ny141 := A_.mk hy141
 clear hy141
 replace H := ob_ H
 obtain ⟨⟨t144, t145, t146⟩, A30, H⟩ := H
 replace H : (spec_l10Acts.l0 k y141 t144 0 s0_0 t145 t146) = some (r1, r2, r3) := H
 have A3 := A_.mk A30
 clear A30
 have H' := A_.mk H
 clear H
 go_enter Try.func11, Try.ntmps11
 go_wp2_with (first | ((with_reducible refine gd_ (N := 8) rfl ?_); refine Kd.R_lit k39 _ 39 ?hg (N := 8) ?hd (xs := ([] : List (S39))) (inner := []) (ok := fun _ => True) (okp := fun _ => True) ?hr ?hp (fun _ hk => hk) trivial (Below.refl _ _) (Nat.le_refl _) (by simp) ?_; (case hd => rfl); (case hg => rfl); (case hr => first | (go_simp; done) | (go_simp; rfl)); (case hp => exact (Reps.none _ _)); intro v142 w4 ho5 hb hg_ hnew_; clear hg_ hnew_; (first | rw [← Ny141.out] at ho5 | (simp only [Int.reduceToNat] at ho5; rw [← Ny141.out] at ho5)); have n0_ := A_.mk (Kd.R_lower ho5 (keep_size (w := w) (g := g) (row := none) (by repeat (first | (with_reducible first | exact HK.out | apply KB_.set_ | apply kn_ | apply kd_ | apply ka_) | exact HK.out)))); have n1_ := A_.mk (IsS52.below (by repeat (first | (with_reducible first | exact HI0.out | apply IsS52.alloc | apply IsS52.drewN | apply IsS52.drew | apply IsS52.set_1 | apply IsS52.set_2) | exact HI0.out)) hb); have n2_ := A_.mk (KB_.trans (by repeat (first | (with_reducible first | exact HK.out | apply KB_.set_ | apply kn_ | apply kd_ | apply ka_) | exact HK.out)) (KB_.of_below hb g none) (.inl rfl)); have n3_ := A_.mk (bt_ (by repeat (first | (with_reducible first | exact HB.out | apply ba_ | apply bd_ | apply be_ | refine bs_ ?_ (IsS52.ge HI0.out)) | exact HB.out)) hb); clear HI0 HK HB; have HO143 := n0_; have HI0 := n1_; have HK := n2_; have HB := n3_; clear n0_ n1_ n2_ n3_ hb ho5) | ((with_reducible refine gc_ (f := 19) rfl ?_); refine gl_ (some 11) Try.func19 #[.pointer (some ⟨g, 0, none⟩), .int .i64 a1] ?_; (with_reducible refine (spec_l01Below.calls g s0_0 s0_1 s0_2 a1 t144 t145 t146 w0 _ ?side1 ?side2 A3.out).mono ?_); (case side1 => repeat (first | (with_reducible first | exact HI0.out | apply IsS52.alloc | apply IsS52.drewN | apply IsS52.drew | apply IsS52.set_1 | apply IsS52.set_2) | exact HI0.out)); (case side2 => repeat (first | (with_reducible first | exact HB.out | apply ba_ | apply bd_ | apply be_ | refine bs_ ?_ (IsS52.ge HI0.out)) | exact HB.out)); rintro e w6 ⟨rfl, hi, hb, hk⟩; refine ⟨_, rfl, ?_⟩; have n0_ := A_.mk (Kd.R_mono (Kd.R_keep (IsS52.apart (show IsS52 w0 _ g s0_0 s0_1 s0_2 from by repeat (first | (with_reducible first | exact HI0.out | apply IsS52.alloc | apply IsS52.drewN | apply IsS52.drew | apply IsS52.set_1 | apply IsS52.set_2) | exact HI0.out)) (rY HO143.out) (by decide)) hk (fun _ h => h.2)) (fun _ h => h.1)); have n1_ := A_.mk (KB_.trans (by repeat (first | (with_reducible first | exact HK.out | apply KB_.set_ | apply kn_ | apply kd_ | apply ka_) | exact HK.out)) hk (.inl rfl)); have n2_ := A_.mk (hb); have n3_ := A_.mk (hi); clear HO143 HK HB HI0; have HO143 := n0_; have HK := n1_; have HB := n2_; have HI0 := n3_; clear n0_ n1_ n2_ n3_; (try clear hb); (try clear hb2); (try clear hk); (try clear hi)))
 go_loopg [5, 7] k (fun kq v5 v7 w' => ∃ (x5_1 : List (S39)) (x7_1 : Int) (x1001_1 : Int) (x1002_1 : Int), v7 = .int .i64 x7_1 ∧ A_ (spec_l10Acts.l0 kq x5_1 t144 x7_1 s0_0 x1001_1 x1002_1 = some (r1, r2, r3)) ∧ A_ (kq ≤ k) ∧ A_ (Kd.R k39 39 w' w.heap.size (fun _ => True) v5 x5_1) ∧ A_ (IsS52 w0 w' g s0_0 x1001_1 x1002_1) ∧ A_ (KB_ w w' g none) ∧ A_ (Below w0.heap.size w0 w'))
 case atStart => exact ⟨(y141), (0), (t145), (t146), (by first | rfl | (simp; done) | (simp [*]; done)), H', ⟨Nat.le_refl _⟩, ⟨by (repeat apply rX); exact HO143.out⟩, ⟨by repeat (first | (with_reducible first | exact HI0.out | apply IsS52.alloc | apply IsS52.drewN | apply IsS52.drew | apply IsS52.set_1 | apply IsS52.set_2) | exact HI0.out)⟩, ⟨by repeat (first | (with_reducible first | exact HK.out | apply KB_.set_ | apply kn_ | apply kd_ | apply ka_) | exact HK.out)⟩, ⟨by repeat (first | (with_reducible first | exact HB.out | apply ba_ | apply bd_ | apply be_ | refine bs_ ?_ (IsS52.ge HI0.out)) | exact HB.out)⟩⟩
 case round =>
  clear H'
  obtain ⟨x5_1, x7_1, x1001_1, x1002_1, rfl, HA, HK1, HO_5, HI0, HK, HB⟩ := hrel
  cases gk with
  | zero => exact absurd HA.out (by simp [spec_l10Acts.l0])
  | succ k1 =>
   have H := HA.out
   clear HA
   simp only [spec_l10Acts.l0] at H
   by_cases c7 : x7_1 < t144
   rotate_left
   ·rw [if_neg c7] at H
    have c7b0 : decide (x7_1 < t144) = false := decide_eq_false c7
    clear c7
    simp only [Option.some.injEq, Prod.mk.injEq] at H
    obtain ⟨rfl, rfl, rfl⟩ := H
    go_wp2
    go_ret
    exact ⟨_, by first | rfl | (simp [errW_none, errW_some] <;> rfl) | (simp [*, errW_none, errW_some] <;> rfl), by (repeat apply rX); exact HO_5.out, by repeat (first | (with_reducible first | exact HI0.out | apply IsS52.alloc | apply IsS52.drewN | apply IsS52.drew | apply IsS52.set_1 | apply IsS52.set_2) | exact HI0.out), by repeat (first | (with_reducible first | exact HB.out | apply ba_ | apply bd_ | apply be_ | refine bs_ ?_ (IsS52.ge HI0.out)) | exact HB.out), by repeat (first | (with_reducible first | exact HK.out | apply KB_.set_ | apply kn_ | apply kd_ | apply ka_) | exact HK.out)⟩
   rw [if_pos c7] at H
   have c7b0 : decide (x7_1 < t144) = true := decide_eq_true c7
   clear c7
   replace H := ob_ H
   obtain ⟨⟨t147, t148, t149, t150⟩, A80, H⟩ := H
   replace H : (if x5_1.length < 8796093022208 then (spec_l10Acts.l0 k1 (x5_1 ++ [(⟨t147, t148⟩ : S39)]) t144 (wrap64 (x7_1 + 1)) s0_0 t149 t150) else (none)) = some (r1, r2, r3) := H
   have A8 := A_.mk A80
   clear A80
   by_cases c9 : x5_1.length < 8796093022208
   rotate_left
   ·rw [if_neg c9] at H
    exact absurd H (by simp)
   rw [if_pos c9] at H
   have LMc9 := A_.mk c9
   clear c9
   obtain ⟨y151, hy151⟩ : ∃ y_ : List (S39), y_ = (x5_1 ++ [(⟨t147, t148⟩ : S39)]) := ⟨_, rfl⟩
   replace H : (spec_l10Acts.l0 k1 y151 t144 (wrap64 (x7_1 + 1)) s0_0 t149 t150) = some (r1, r2, r3) := by first | (rw [hy151]; with_reducible exact H) | (have H2_ := (Option.bind_some _ _).symm.trans H; rw [hy151]; with_reducible exact H2_) | (have H2_ := (Option.bind_some _ _).symm.trans H; with_reducible exact H2_) | with_reducible exact H | (rw [hy151]; exact H) | exact H
   have Ny151 := A_.mk hy151
   clear hy151
   have H' := A_.mk H
   clear H
   go_wp2_with (first | ((with_reducible refine gc_ (f := 20) rfl ?_); refine gl_ (some 19) Try.func20 #[.pointer (some ⟨g, 0, none⟩)] ?_; (with_reducible refine (spec_l10Act.calls g s0_0 x1001_1 x1002_1 t147 t148 t149 t150 w0 _ ?side1 ?side2 A8.out).mono ?_); (case side1 => repeat (first | (with_reducible first | exact HI0.out | apply IsS52.alloc | apply IsS52.drewN | apply IsS52.drew | apply IsS52.set_1 | apply IsS52.set_2) | exact HI0.out)); (case side2 => repeat (first | (with_reducible first | exact HB.out | apply ba_ | apply bd_ | apply be_ | refine bs_ ?_ (IsS52.ge HI0.out)) | exact HB.out)); rintro e w10 ⟨rfl, hi, hb, hk⟩; refine ⟨_, rfl, ?_⟩; have n0_ := A_.mk (Kd.R_mono (Kd.R_keep (IsS52.apart (show IsS52 w0 _ g s0_0 x1001_1 x1002_1 from by repeat (first | (with_reducible first | exact HI0.out | apply IsS52.alloc | apply IsS52.drewN | apply IsS52.drew | apply IsS52.set_1 | apply IsS52.set_2) | exact HI0.out)) (rY HO_5.out) (by decide)) hk (fun _ h => h.2)) (fun _ h => h.1)); have n1_ := A_.mk (KB_.trans (by repeat (first | (with_reducible first | exact HK.out | apply KB_.set_ | apply kn_ | apply kd_ | apply ka_) | exact HK.out)) hk (.inl rfl)); have n2_ := A_.mk (hb); have n3_ := A_.mk (hi); clear HO_5 HK HB HI0; have HO_5 := n0_; have HK := n1_; have HB := n2_; have HI0 := n3_; clear n0_ n1_ n2_ n3_; (try clear hb); (try clear hb2); (try clear hk); (try clear hi)) | ((with_reducible refine gate_builtin (b := .append) (xs := #[.tmp 17, .tmp 20]) rfl ?_); at_builtin; refine Kd.R_append k39 w.heap.size rfl (.tmp 17) (.tmp 20) 24 39 (.agg #[(.int .i64 0), (.int .i64 0)]) 16 rfl Try.underlying24 info39 rfl (by decide) (by omega) u5 x5_1 (⟨t147, t148⟩ : S39) [.int .i64 t147, .int .i64 t148] (fun _ => True) (fun _ => False) rfl rfl ?aP (fun _ hk => hk.elim) ?aF ?aO (Below.refl _ _) ?aS ?aL ?_; (case aP => exact k39_mkM _ _ _ (⟨t147, t148⟩ : S39)); (case aF => exact (fun _ _ => trivial)); (case aO => exact (rY HO_5.out)); (case aS => exact (keep_size (w := w) (g := g) (row := none) (by repeat (first | (with_reducible first | exact HK.out | apply KB_.set_ | apply kn_ | apply kd_ | apply ka_) | exact HK.out)))); (case aL => have := LMc9.out; omega); intro v152 w11 ho hb hg hat; rw [← Ny151.out] at ho; have n0_ := A_.mk (IsS52.grown (by repeat (first | (with_reducible first | exact HI0.out | apply IsS52.alloc | apply IsS52.drewN | apply IsS52.drew | apply IsS52.set_1 | apply IsS52.set_2) | exact HI0.out)) hg (IsS52.own_ne HI0.out HO_5.out (by decide))); have n1_ := A_.mk (below_weaken (by repeat (first | (with_reducible first | exact HB.out | apply ba_ | apply bd_ | apply be_ | refine bs_ ?_ (IsS52.ge HI0.out)) | exact HB.out)) HL.out hb); have n2_ := A_.mk (KB_.trans (by repeat (first | (with_reducible first | exact HK.out | apply KB_.set_ | apply kn_ | apply kd_ | apply ka_) | exact HK.out)) (KB_.of_grown hg g) (Kd.R_base2 HO_5.out)); have n3_ := A_.mk (ho); clear HI0 HB HK HO_5; have HI0 := n0_; have HB := n1_; have HK := n2_; have HO153 := n3_; clear n0_ n1_ n2_ n3_ ho hb hg hat))
   go_roundg k1
   case measure => have := HK1.out; omega
   case rel => exact ⟨(y151), (wrap64 (x7_1 + 1)), (t149), (t150), (by first | rfl | (simp; done) | (simp [*]; done)), H', ⟨by have := HK1.out; omega⟩, ⟨by (repeat apply rX); exact HO153.out⟩, ⟨by repeat (first | (with_reducible first | exact HI0.out | apply IsS52.alloc | apply IsS52.drewN | apply IsS52.drew | apply IsS52.set_1 | apply IsS52.set_2) | exact HI0.out)⟩, ⟨by repeat (first | (with_reducible first | exact HK.out | apply KB_.set_ | apply kn_ | apply kd_ | apply ka_) | exact HK.out)⟩, ⟨by repeat (first | (with_reducible first | exact HB.out | apply ba_ | apply bd_ | apply be_ | refine bs_ ?_ (IsS52.ge HI0.out)) | exact HB.out)⟩⟩
/-! ### spec_l01New: function 12 -/
def spec_l01New.l0 : Nat → List Int → Int → Int → Option (List Int × Int × Int)
 | 0, _, _, _ => none
 | k + 1, x0, x3, x4 => if x4 < (x0.length : Int) then (if x4 < 4000 then (if 0 ≤ x4 then (spec_l01New.l0 k x0 (Go.bits .and .i64 (wrap64 ((wrap64 ((wrap64 (x3 * 131)) + (wrap64 (rd x0 x4)))) + 7)) 1073741823) (wrap64 (x4 + 1))) else (none)) else (some (x0, 0, x3))) else (some (x0, 0, x3))
def spec_l01New.f (k : Nat) (l0 : List Int) : Option (List Int × Int × Int) := spec_l01New.l0 k l0 (wrap64 (98663 + (l0.length : Int))) 0
set_option maxHeartbeats 8000000 in
set_option maxRecDepth 100000 in
theorem spec_l01New.calls (k : Nat) (A0 : Option Addr) (c0 : Nat) (l0 : List Int) (r1 : List Int) (r2 : Int) (r3 : Int) (w0 w : World) (hB : Below w0.heap.size w0 w) (hr0 : Kd.C (Kd.int .u8) w0 A0 l0.length l0) (hc0 : l0.length ≤ c0) (h : spec_l01New.f k l0 = some (r1, r2, r3)) :
  Calls Try.prog 12 #[.slice A0 l0.length c0] w fun e w' => ∃ g_ : Nat, e = .returned (.pointer (some ⟨g_, 0, none⟩)) ∧ IsS52 w0 w' g_ r1 r2 r3 ∧ Below w0.heap.size w0 w' ∧ Below w.heap.size w w' := by
 have hu52 := Try.underlying52
 have HR0 := A_.mk hr0
 have HC0 := A_.mk hc0
 clear hr0 hc0
 have HBW := A_.mk (Below.refl w.heap.size w)
 have HW0 := A_.mk hB.size
 have HB := A_.mk hB
 clear hB
 have H : (spec_l01New.l0 k l0 (wrap64 (98663 + (l0.length : Int))) 0) = some (r1, r2, r3) := h
 clear h
 have H' := A_.mk H
 clear H
 go_enter Try.func12, Try.ntmps12
 go_wp2
 go_loopg [3, 4] k (fun kq v3 v4 w' => ∃ (x3_1 : Int) (x4_1 : Int), v3 = .int .i64 x3_1 ∧ v4 = .int .i64 x4_1 ∧ A_ (spec_l01New.l0 kq l0 x3_1 x4_1 = some (r1, r2, r3)) ∧ A_ (kq ≤ k) ∧ A_ (Below w0.heap.size w0 w') ∧ A_ (Below w.heap.size w w'))
 case atStart => exact ⟨(wrap64 (98663 + (l0.length : Int))), (0), (by first | rfl | (simp; done) | (simp [*]; done)), (by first | rfl | (simp; done) | (simp [*]; done)), H', ⟨Nat.le_refl _⟩, ⟨beY HB.out⟩, ⟨by repeat (first | (with_reducible first | exact HBW.out | apply ba_ | apply bd_ | apply be_) | exact HBW.out)⟩⟩
 case round =>
  clear H'
  obtain ⟨x3_1, x4_1, rfl, rfl, HA, HK1, HB, HBW⟩ := hrel
  cases gk with
  | zero => exact absurd HA.out (by simp [spec_l01New.l0])
  | succ k1 =>
   have H := HA.out
   clear HA
   simp only [spec_l01New.l0] at H
   by_cases c2 : x4_1 < (l0.length : Int)
   rotate_left
   ·rw [if_neg c2] at H
    have c2b0 : decide (x4_1 < (l0.length : Int)) = false := decide_eq_false c2
    clear c2
    simp only [Option.some.injEq, Prod.mk.injEq] at H
    obtain ⟨rfl, rfl, rfl⟩ := H
    go_wp2_with (first | ((with_reducible refine gd_ (N := 31) rfl ?_); refine by_ 31 (cs := #[.slice A0 l0.length c0, .int .i64 0, .int .i64 x3_1]) (t := 52) ?_; intro gb156 hg w6 hbox hb; have n0_ := A_.mk (bt_ HBW.out hb); have n1_ := A_.mk (bt_ (beY HB.out) hb); have n2_ := A_.mk (hbox); have n3_ := A_.mk ((by rw [hg]; exact (bz_ (by repeat (first | (with_reducible first | exact HBW.out | apply ba_ | apply bd_ | apply be_) | exact HBW.out))) : w.heap.size ≤ gb156)); have n4_ := A_.mk ((Nat.le_trans HW0.out (by rw [hg]; exact (bz_ (by repeat (first | (with_reducible first | exact HBW.out | apply ba_ | apply bd_ | apply be_) | exact HBW.out))) : w.heap.size ≤ gb156) : w0.heap.size ≤ gb156)); clear HBW HB; have HBW := n0_; have HB := n1_; have BK156 := n2_; have GW156 := n3_; have GE156 := n4_; clear n0_ n1_ n2_ n3_ n4_ hb hbox hg))
    go_ret
    exact ⟨_, rfl, (show IsS52 w0 _ gb156 l0 0 x3_1 from ⟨_, _, by (repeat apply bX); exact BK156.out, GE156.out, HR0.out⟩), by repeat (first | (with_reducible first | exact HB.out | apply ba_ | apply bd_ | apply be_ | refine bs_ ?_ GE156.out) | exact HB.out), by repeat (first | (with_reducible first | exact HBW.out | apply ba_ | apply bd_ | apply be_ | refine bs_ ?_ GW156.out) | exact HBW.out)⟩
   rw [if_pos c2] at H
   have c2b0 : decide (x4_1 < (l0.length : Int)) = true := decide_eq_true c2
   clear c2
   by_cases c3 : x4_1 < 4000
   ·rw [if_pos c3] at H
    have c3b0 : decide (x4_1 < 4000) = true := decide_eq_true c3
    clear c3
    by_cases c4 : 0 ≤ x4_1
    rotate_left
    ·rw [if_neg c4] at H
     exact absurd H (by simp)
    rw [if_pos c4] at H
    have c4b0 : decide (0 ≤ x4_1) = true := decide_eq_true c4
    clear c4
    have H' := A_.mk H
    clear H
    have p154 : 0 ≤ (x4_1 : Int) := od_
    have q154 : x4_1 < (l0.length : Int) := od_
    obtain ⟨ad154, e154, hx154_0⟩ := Kd.at_int HR0.out x4_1 p154 q154
    cases e154
    replace hx154_0 := pw_cell_below HB.out hx154_0
    replace p154 := eq_true p154
    replace q154 := eq_true q154
    go_wp2
    go_roundg k1
    case measure => have := HK1.out; omega
    case rel => exact ⟨(Go.bits .and .i64 (wrap64 ((wrap64 ((wrap64 (x3_1 * 131)) + (wrap64 (rd l0 x4_1)))) + 7)) 1073741823), (wrap64 (x4_1 + 1)), (by first | rfl | (simp; done) | (simp [*]; done)), (by first | rfl | (simp; done) | (simp [*]; done)), H', ⟨by have := HK1.out; omega⟩, ⟨beY HB.out⟩, ⟨by repeat (first | (with_reducible first | exact HBW.out | apply ba_ | apply bd_ | apply be_) | exact HBW.out)⟩⟩
   rw [if_neg c3] at H
   have c3b0 : decide (x4_1 < 4000) = false := decide_eq_false c3
   clear c3
   simp only [Option.some.injEq, Prod.mk.injEq] at H
   obtain ⟨rfl, rfl, rfl⟩ := H
   go_wp2_with (first | ((with_reducible refine gd_ (N := 31) rfl ?_); refine by_ 31 (cs := #[.slice A0 l0.length c0, .int .i64 0, .int .i64 x3_1]) (t := 52) ?_; intro gb155 hg w5 hbox hb; have n0_ := A_.mk (bt_ HBW.out hb); have n1_ := A_.mk (bt_ (beY HB.out) hb); have n2_ := A_.mk (hbox); have n3_ := A_.mk ((by rw [hg]; exact (bz_ (by repeat (first | (with_reducible first | exact HBW.out | apply ba_ | apply bd_ | apply be_) | exact HBW.out))) : w.heap.size ≤ gb155)); have n4_ := A_.mk ((Nat.le_trans HW0.out (by rw [hg]; exact (bz_ (by repeat (first | (with_reducible first | exact HBW.out | apply ba_ | apply bd_ | apply be_) | exact HBW.out))) : w.heap.size ≤ gb155) : w0.heap.size ≤ gb155)); clear HBW HB; have HBW := n0_; have HB := n1_; have BK155 := n2_; have GW155 := n3_; have GE155 := n4_; clear n0_ n1_ n2_ n3_ n4_ hb hbox hg))
   go_ret
   exact ⟨_, rfl, (show IsS52 w0 _ gb155 l0 0 x3_1 from ⟨_, _, by (repeat apply bX); exact BK155.out, GE155.out, HR0.out⟩), by repeat (first | (with_reducible first | exact HB.out | apply ba_ | apply bd_ | apply be_ | refine bs_ ?_ GE155.out) | exact HB.out), by repeat (first | (with_reducible first | exact HBW.out | apply ba_ | apply bd_ | apply be_ | refine bs_ ?_ GW155.out) | exact HBW.out)⟩
/-! ### spec_DrawLinkActs: function 5 -/
def spec_DrawLinkActs.f (k : Nat) (l0 : List Int) : Option ((List (S39))) := (spec_l01New.f k l0).bind fun bt157 => ((spec_l10Acts.f k bt157.1 bt157.2.1 bt157.2.2 60).bind fun bt161 => (some bt161.1))
set_option maxHeartbeats 8000000 in
set_option maxRecDepth 100000 in
theorem spec_DrawLinkActs.calls (k : Nat) (A0 : Option Addr) (c0 : Nat) (l0 : List Int) (r : List (S39)) (w : World) (hr0 : Kd.C (Kd.int .u8) w A0 l0.length l0) (hc0 : l0.length ≤ c0) (h : spec_DrawLinkActs.f k l0 = some r) :
  Calls Try.prog 5 #[.slice A0 l0.length c0] w fun e w' => ∃ v0_ : Value, e = .returned (v0_) ∧ Kd.R k39 39 w' w.heap.size (fun _ => True) v0_ r ∧ Below w.heap.size w w' := by
 have HR0 := A_.mk hr0
 have HC0 := A_.mk hc0
 clear hr0 hc0
 have HB := A_.mk (Below.refl w.heap.size w)
 have H : ((spec_l01New.f k l0).bind fun bt157 => ((spec_l10Acts.f k bt157.1 bt157.2.1 bt157.2.2 60).bind fun bt161 => (some bt161.1))) = some r := h
 clear h
 replace H := ob_ H
 obtain ⟨⟨t157, t158, t159⟩, A20, H⟩ := H
 replace H : ((spec_l10Acts.f k t157 t158 t159 60).bind fun bt161 => (some bt161.1)) = some r := H
 have A2 := A_.mk A20
 clear A20
 replace H := ob_ H
 obtain ⟨⟨t161, t164, t165⟩, A30, H⟩ := H
 replace H : (some t161) = some r := H
 have A3 := A_.mk A30
 clear A30
 obtain rfl := Option.some.inj H
 go_enter Try.func5, Try.ntmps5
 go_wp2_with (first | ((with_reducible refine gc_ (f := 12) rfl ?_); refine gl_ (some 4) Try.func12 #[.slice A0 l0.length c0] ?_; (with_reducible refine (spec_l01New.calls k _ _ l0 t157 t158 t159 w _ ?side1 ?side2 ?side3 A2.out).mono ?_); (case side1 => repeat (first | (with_reducible first | exact HB.out | apply ba_ | apply bd_ | apply be_) | exact HB.out)); (case side2 => exact HR0.out); (case side3 => exact HC0.out); rintro e w4 ⟨g160, rfl, hi, hb, hb2⟩; refine ⟨_, rfl, ?_⟩; have n0_ := A_.mk (hb); have n1_ := A_.mk (hi); clear HB; have HB := n0_; have HI160 := n1_; clear n0_ n1_; (try clear hb); (try clear hb2); (try clear hk); (try clear hi)) | ((with_reducible refine gc_ (f := 11) rfl ?_); refine gl_ (some 5) Try.func11 #[.pointer (some ⟨g160, 0, none⟩), .int .i64 60] ?_; (with_reducible refine (spec_l10Acts.calls k g160 t157 t158 t159 60 t161 t164 t165 w _ ?side1 ?side2 A3.out).mono ?_); (case side1 => repeat (first | (with_reducible first | exact HI160.out | apply IsS52.alloc | apply IsS52.drewN | apply IsS52.drew | apply IsS52.set_1 | apply IsS52.set_2) | exact HI160.out)); (case side2 => repeat (first | (with_reducible first | exact HB.out | apply ba_ | apply bd_ | apply be_ | refine bs_ ?_ (IsS52.ge HI160.out)) | exact HB.out)); rintro e w5 ⟨v162, rfl, ho0, hi, hb, hk⟩; refine ⟨_, rfl, ?_⟩; have n0_ := A_.mk (Kd.R_lower ho0 (bz_ (by repeat (first | (with_reducible first | exact HB.out | apply ba_ | apply bd_ | apply be_ | refine bs_ ?_ (IsS52.ge HI160.out)) | exact HB.out)))); have n1_ := A_.mk (hb); have n2_ := A_.mk (hi); clear HB HI160; have HO163 := n0_; have HB := n1_; have HI160 := n2_; clear n0_ n1_ n2_; (try clear hb); (try clear hb2); (try clear hk); (try clear hi); (try clear ho0)))
 go_ret
 exact ⟨_, by first | rfl | (simp [errW_none, errW_some] <;> rfl) | (simp [*, errW_none, errW_some] <;> rfl), by (repeat apply rX); exact HO163.out, by repeat (first | (with_reducible first | exact HB.out | apply ba_ | apply bd_ | apply be_ | refine bs_ ?_ (IsS52.ge HI160.out)) | exact HB.out)⟩
theorem calls_cast {P : Program} {n : Nat} {a b : Array Value} {w : World} {Q : Ending → World → Prop} (h : a = b) (hc : Calls P n a w Q) : Calls P n b w Q := h ▸ hc
theorem Kept.of_set {W W' : World} {g : Nat} (h : Kept W W' (fun k_ => k_ = g)) (j : Nat) (u : Value) : Kept W (W'.setCell ⟨g, j, none⟩ u) (fun k_ => k_ = g) := h.setCell (.inl rfl) u
theorem blk1_ {W : World} {g t : Nat} {a0 : Value} (h : W.heap[g]? = some (.cells #[a0] t (0, 0))) : W.cell? ⟨g, 0, none⟩ = some a0 := (bc_ h 0).trans rfl
theorem blk2_ {W : World} {g t : Nat} {a0 a1 : Value} (h : W.heap[g]? = some (.cells #[a0, a1] t (0, 0))) : W.cell? ⟨g, 0, none⟩ = some a0 ∧ W.cell? ⟨g, 1, none⟩ = some a1 :=
 ⟨(bc_ h 0).trans rfl, (bc_ h 1).trans rfl⟩
theorem blk3_ {W : World} {g t : Nat} {a0 a1 a2 : Value} (h : W.heap[g]? = some (.cells #[a0, a1, a2] t (0, 0))) : W.cell? ⟨g, 0, none⟩ = some a0 ∧ W.cell? ⟨g, 1, none⟩ = some a1 ∧ W.cell? ⟨g, 2, none⟩ = some a2 :=
 ⟨(bc_ h 0).trans rfl, (bc_ h 1).trans rfl, (bc_ h 2).trans rfl⟩
theorem blk7_ {W : World} {g t : Nat} {a0 a1 a2 a3 a4 a5 a6 : Value} (h : W.heap[g]? = some (.cells #[a0, a1, a2, a3, a4, a5, a6] t (0, 0))) : W.cell? ⟨g, 0, none⟩ = some a0 ∧ W.cell? ⟨g, 1, none⟩ = some a1 ∧ W.cell? ⟨g, 2, none⟩ = some a2 ∧ W.cell? ⟨g, 3, none⟩ = some a3 ∧ W.cell? ⟨g, 4, none⟩ = some a4 ∧ W.cell? ⟨g, 5, none⟩ = some a5 ∧ W.cell? ⟨g, 6, none⟩ = some a6 :=
 ⟨(bc_ h 0).trans rfl, (bc_ h 1).trans rfl, (bc_ h 2).trans rfl, (bc_ h 3).trans rfl, (bc_ h 4).trans rfl, (bc_ h 5).trans rfl, (bc_ h 6).trans rfl⟩
abbrev ch2_ (W : World) (g : Nat) (v0 v1 : Value) : World := ((W.setCell ⟨g, 0, none⟩ v0).setCell ⟨g, 1, none⟩ v1)
theorem st2_ {w W W' : World} {g : Nat} {t : TypeId} {a0 a1 v0 v1 : Value} (hw : W' = ch2_ W g v0 v1) (h : A_ (W.heap[g]? = some (.cells #[a0, a1] t (0, 0)))) (hb : A_ (Below w.heap.size w W)) (hge : w.heap.size ≤ g) :
  W'.heap[g]? = some (.cells #[v0, v1] t (0, 0)) ∧ Kept W W' (fun k_ => k_ = g) ∧ Below w.heap.size w W' := by
 subst hw
 exact ⟨(bp_ (cs := #[v0, a1]) (bp_ (cs := #[a0, a1]) h.out 0 _ rfl) 1 _ rfl), (Kept.of_set (Kept.of_set (Kept.refl _ _) 0 _) 1 _), (bs_ (bs_ hb.out hge) hge)⟩
abbrev ch3_ (W : World) (g : Nat) (v0 v1 v2 : Value) : World := (((W.setCell ⟨g, 0, none⟩ v0).setCell ⟨g, 1, none⟩ v1).setCell ⟨g, 2, none⟩ v2)
theorem st3_ {w W W' : World} {g : Nat} {t : TypeId} {a0 a1 a2 v0 v1 v2 : Value} (hw : W' = ch3_ W g v0 v1 v2) (h : A_ (W.heap[g]? = some (.cells #[a0, a1, a2] t (0, 0)))) (hb : A_ (Below w.heap.size w W)) (hge : w.heap.size ≤ g) :
  W'.heap[g]? = some (.cells #[v0, v1, v2] t (0, 0)) ∧ Kept W W' (fun k_ => k_ = g) ∧ Below w.heap.size w W' := by
 subst hw
 exact ⟨(bp_ (cs := #[v0, v1, a2]) (bp_ (cs := #[v0, a1, a2]) (bp_ (cs := #[a0, a1, a2]) h.out 0 _ rfl) 1 _ rfl) 2 _ rfl), (Kept.of_set (Kept.of_set (Kept.of_set (Kept.refl _ _) 0 _) 1 _) 2 _), (bs_ (bs_ (bs_ hb.out hge) hge) hge)⟩
abbrev ch7_ (W : World) (g : Nat) (v0 v1 v2 v3 v4 v5 v6 : Value) : World := (((((((W.setCell ⟨g, 0, none⟩ v0).setCell ⟨g, 1, none⟩ v1).setCell ⟨g, 2, none⟩ v2).setCell ⟨g, 3, none⟩ v3).setCell ⟨g, 4, none⟩ v4).setCell ⟨g, 5, none⟩ v5).setCell ⟨g, 6, none⟩ v6)
theorem st7_ {w W W' : World} {g : Nat} {t : TypeId} {a0 a1 a2 a3 a4 a5 a6 v0 v1 v2 v3 v4 v5 v6 : Value} (hw : W' = ch7_ W g v0 v1 v2 v3 v4 v5 v6) (h : A_ (W.heap[g]? = some (.cells #[a0, a1, a2, a3, a4, a5, a6] t (0, 0)))) (hb : A_ (Below w.heap.size w W)) (hge : w.heap.size ≤ g) :
  W'.heap[g]? = some (.cells #[v0, v1, v2, v3, v4, v5, v6] t (0, 0)) ∧ Kept W W' (fun k_ => k_ = g) ∧ Below w.heap.size w W' := by
 subst hw
 exact ⟨(bp_ (cs := #[v0, v1, v2, v3, v4, v5, a6]) (bp_ (cs := #[v0, v1, v2, v3, v4, a5, a6]) (bp_ (cs := #[v0, v1, v2, v3, a4, a5, a6]) (bp_ (cs := #[v0, v1, v2, a3, a4, a5, a6]) (bp_ (cs := #[v0, v1, a2, a3, a4, a5, a6]) (bp_ (cs := #[v0, a1, a2, a3, a4, a5, a6]) (bp_ (cs := #[a0, a1, a2, a3, a4, a5, a6]) h.out 0 _ rfl) 1 _ rfl) 2 _ rfl) 3 _ rfl) 4 _ rfl) 5 _ rfl) 6 _ rfl), (Kept.of_set (Kept.of_set (Kept.of_set (Kept.of_set (Kept.of_set (Kept.of_set (Kept.of_set (Kept.refl _ _) 0 _) 1 _) 2 _) 3 _) 4 _) 5 _) 6 _), (bs_ (bs_ (bs_ (bs_ (bs_ (bs_ (bs_ hb.out hge) hge) hge) hge) hge) hge) hge)⟩
section
variable {α : Type} {d : Kd α} {e base j : Nat} {ok S : Nat → Prop} {W W2 w : World} {v : Value} {xs : List α} {p : Prop} {f : Nat → Nat}
theorem aRk (h : A_ (Kd.R d e W base ok v xs)) (hk : Kept W W2 S) (hs : A_ p) (hn : p → ∀ k, ok k → ¬ S k := by intro h1_ k_ h2_ h3_; first | omega | (subst h3_; omega)) : A_ (Kd.R d e W2 base ok v xs) := ⟨Kd.R_kept h.out hk (hn hs.out)⟩
theorem aRb (h : A_ (Kd.R d e W base ok v xs)) (hb : Below W.heap.size W W2) : A_ (Kd.R d e W2 base ok v xs) := ⟨Kd.R_below h.out hb⟩
theorem aSk (h : A_ (Kd.S d e W base ok v xs)) (hk : Kept W W2 S) (hs : A_ p) (hn : p → ∀ k, ok k → ¬ S k := by intro h1_ k_ h2_ h3_; first | omega | (subst h3_; omega)) : A_ (Kd.S d e W2 base ok v xs) := ⟨Kd.S_kept h.out hk (hn hs.out)⟩
theorem aSb (h : A_ (Kd.S d e W base ok v xs)) (hb : Below W.heap.size W W2) : A_ (Kd.S d e W2 base ok v xs) := ⟨Kd.S_below h.out hb⟩
theorem aRn (h : Kd.R d e W2 W.heap.size (fun k => f k = j) v xs) (hB : base ≤ W.heap.size) : A_ (Kd.R d e W2 base (fun k_ => (W.heap.size ≤ k_ ∧ k_ < W2.heap.size) ∧ f k_ = j) v xs) := ⟨Kd.R_lower (Kd.R_mono (Kd.R_bound h) (fun k_ hk_ => ⟨⟨hk_.2.1, hk_.2.2.1⟩, hk_.1⟩)) hB⟩
theorem aRm (h : Kd.R d e W2 W.heap.size ok v xs) (hB : base ≤ W.heap.size) : A_ (Kd.R d e W2 base (fun k_ => (W.heap.size ≤ k_ ∧ k_ < W2.heap.size)) v xs) := ⟨Kd.R_lower (Kd.R_mono (Kd.R_bound h) (fun k_ hk_ => ⟨hk_.2.1, hk_.2.2.1⟩)) hB⟩
theorem aSn (h : Kd.S d e W2 W.heap.size (fun k => f k = j) v xs) (hB : base ≤ W.heap.size) : A_ (Kd.S d e W2 base (fun k_ => (W.heap.size ≤ k_ ∧ k_ < W2.heap.size) ∧ f k_ = j) v xs) := ⟨Kd.S_lower (Kd.S_mono (Kd.S_bound h) (fun k_ hk_ => ⟨⟨hk_.2.1, hk_.2.2.1⟩, hk_.1⟩)) hB⟩
theorem aSm (h : Kd.S d e W2 W.heap.size ok v xs) (hB : base ≤ W.heap.size) : A_ (Kd.S d e W2 base (fun k_ => (W.heap.size ≤ k_ ∧ k_ < W2.heap.size)) v xs) := ⟨Kd.S_lower (Kd.S_mono (Kd.S_bound h) (fun k_ hk_ => ⟨hk_.2.1, hk_.2.2.1⟩)) hB⟩
theorem aBk {g : Nat} {o : Obj} (h : A_ (W.heap[g]? = some o)) (hk : Kept W W2 S) (hs : A_ p) (hn : p → ¬ S g := by intro h1_ h2_; omega) : A_ (W2.heap[g]? = some o) := ⟨(hk.2 _ (blk_lt h.out) (hn hs.out)).trans h.out⟩
theorem aBb {g : Nat} {o : Obj} (h : A_ (W.heap[g]? = some o)) (hb : Below W.heap.size W W2) : A_ (W2.heap[g]? = some o) := ⟨bb_ h.out hb⟩
theorem aHs {q : Prop} (h : A_ p) (hq : q) : A_ (p ∧ q) := ⟨⟨h.out, hq⟩⟩
theorem aHB (h : A_ (Below w.heap.size w W)) (hb : Below W.heap.size W W2) : A_ (Below w.heap.size w W2) := ⟨below_then h.out h.out.size hb⟩
end
/-! ### impl_NewLink: function 6, its calls in a row -/
def impl_NewLink.f (k : Nat)  : Option ((Int) × (List (S68)) × (Int) × (Int) × (List (List Int)) × (List (List Int)) × (List Int)) := (some (0, [], 0, 0, [], [], []))
set_option maxHeartbeats 8000000 in
set_option maxRecDepth 100000 in
theorem impl_NewLink.calls (k : Nat)  (r1 : Int) (r2 : List (S68)) (r3 : Int) (r4 : Int) (r5 : List (List Int)) (r6 : List (List Int)) (r7 : List Int) (w : World)  (h : impl_NewLink.f k  = some (r1, r2, r3, r4, r5, r6, r7)) :
  Calls Try.prog 6 #[] w fun e w' => ∃ f_ : Nat → Nat, ∃ v0_ v1_ v2_ v3_ : Value, e = .returned (.agg #[.int .i64 r1, v0_, .int .i64 r3, .int .i64 r4, v1_, v2_, v3_]) ∧ Kd.S k68 68 w' w.heap.size (fun k_ => f_ k_ = 0) v0_ r2 ∧ Kd.S (Kd.slice 3 (Kd.int .i64)) 32 w' w.heap.size (fun k_ => f_ k_ = 1) v1_ r5 ∧ Kd.S (Kd.slice 3 (Kd.int .i64)) 32 w' w.heap.size (fun k_ => f_ k_ = 2) v2_ r6 ∧ Kd.R (Kd.int .i64) 3 w' w.heap.size (fun k_ => f_ k_ = 3) v3_ r7 ∧ Below w.heap.size w w' := by
 have HB := A_.mk (Below.refl w.heap.size w)
 unfold impl_NewLink.f at h
 have H := h
 clear h
 simp only [Option.some.injEq, Prod.mk.injEq] at H
 obtain ⟨rfl, rfl, rfl, rfl, rfl, rfl, rfl⟩ := H
 have hu34 := Try.underlying34
 go_enter Try.func6, Try.ntmps6
 have HS := A_.mk (Nat.le_refl w.heap.size)
 go_wp2_with (first | ((with_reducible refine gd_ (N := 0) rfl ?_); refine by_ 0 (cs := #[.int .i64 0, .slice none 0 0, .int .i64 0, .int .i64 0, .slice none 0 0, .slice none 0 0, .slice none 0 0]) (t := 34) ?_; intro gb1_ hg w1_ hbox hb; replace HS := A_.mk (And.intro HS.out (show gb1_ = w.heap.size ∧ gb1_ < w1_.heap.size from ⟨hg, blk_lt hbox⟩)); replace HB := aHB HB hb; have BK1 := A_.mk hbox; clear hbox hb hg; have Q1 := blk7_ BK1.out) | ((with_reducible refine gate_store (t := 34) (p := 0) rfl ?_); have qf0 := bf_ BK1.out 0; have qf1 := bf_ BK1.out 1; have qf2 := bf_ BK1.out 2; have qf3 := bf_ BK1.out 3; have qf4 := bf_ BK1.out 4; have qf5 := bf_ BK1.out 5; have qf6 := bf_ BK1.out 6; refine se_ (t := 34) (p := 0) (v := ?vo_2) (w1 := (ch7_ w1_ gb1_ (.int .i64 0) (.slice none 0 0) (.int .i64 0) (.int .i64 0) (.slice none 0 0) (.slice none 0 0) (.slice none 0 0))) ?hg ?ho ?hn ?hr ?_; (case ho => rfl); (case hg => rfl); (case hn => rfl); (case hr => first | (go_simp; done) | (go_simp; rfl)); intro w2_ hw; clear qf0 qf1 qf2 qf3 qf4 qf5 qf6; obtain ⟨hbx, hkp, hbb⟩ := st7_ hw BK1 HB (by have := HS.out; omega); clear hw; replace BK1 := A_.mk hbx; replace HB := A_.mk hbb; replace HS := aHs HS hkp.1; clear hkp hbb hbx Q1; have Q1 := blk7_ BK1.out))
 refine bodyPost_ret (results_cell_row rfl _ _ gb1_ 34 #[.int .i64 0, .slice none 0 0, .int .i64 0, .int .i64 0, .slice none 0 0, .slice none 0 0, .slice none 0 0] (0, 0) _ rfl BK1.out Try.underlying34 rfl (by kernel_rfl)) rfl ?_
 obtain ⟨f_, hf_⟩ : ∃ f_ : Nat → Nat, ∀ k_, f_ k_ = 0 := ⟨fun k_ => 0, fun _ => rfl⟩
 exact ⟨f_, _, _, _, _, rfl, Kd.S_nil _ _ _ _ _, Kd.S_nil _ _ _ _ _, Kd.S_nil _ _ _ _ _, Kd.R_nil _ _ _ _ _, HB.out⟩


/-! ### slices_Clone_int_int: function 24 -/
def slices_Clone_int_int.f (l0 : List Int) : Option (List Int) := (some (([] : List Int) : List Int)).bind fun y166 => (if y166.length + l0.length < 17592186044416 then (some (y166 ++ l0)) else (none))
set_option maxHeartbeats 8000000 in
set_option maxRecDepth 100000 in
theorem slices_Clone_int_int.calls_some (A0 : Addr) (c0 : Nat) (l0 : List Int) (r : List Int) (w : World) (hr0 : Kd.C (Kd.int .i64) w (some A0) l0.length l0) (hc0 : l0.length ≤ c0) (h : slices_Clone_int_int.f l0 = some r) :
  Calls Try.prog 24 #[.slice (some A0) l0.length c0] w fun e w' => ∃ v0_ : Value, e = .returned (v0_) ∧ Kd.R (Kd.int .i64) 3 w' w.heap.size (fun _ => True) v0_ r ∧ Below w.heap.size w w' := by
 have HR0 := A_.mk hr0
 have HC0 := A_.mk hc0
 clear hr0 hc0
 have HB := A_.mk (Below.refl w.heap.size w)
 have H : ((some (([] : List Int) : List Int)).bind fun y166 => (if y166.length + l0.length < 17592186044416 then (some (y166 ++ l0)) else (none))) = some r := h
 clear h
 obtain ⟨y166, hy166⟩ : ∃ y_ : List Int, y_ = (([] : List Int)) := ⟨_, rfl⟩
 replace H : (if y166.length + l0.length < 17592186044416 then (some (y166 ++ l0)) else (none)) = some r := by first | (rw [hy166]; with_reducible exact H) | (have H2_ := (Option.bind_some _ _).symm.trans H; rw [hy166]; with_reducible exact H2_) | (have H2_ := (Option.bind_some _ _).symm.trans H; with_reducible exact H2_) | with_reducible exact H | (rw [hy166]; exact H) | exact H
 have Ny166 := A_.mk hy166
 clear hy166
 by_cases c2 : y166.length + l0.length < 17592186044416
 rotate_left
 ·rw [if_neg c2] at H
  exact absurd H (by simp)
 rw [if_pos c2] at H
 have LMc2 := A_.mk c2
 clear c2
 obtain ⟨y169, hy169⟩ : ∃ y_ : List Int, y_ = (y166 ++ l0) := ⟨_, rfl⟩
 replace H : (some y169) = some r := by first | (rw [hy169]; with_reducible exact H) | (have H2_ := (Option.bind_some _ _).symm.trans H; rw [hy169]; with_reducible exact H2_) | (have H2_ := (Option.bind_some _ _).symm.trans H; with_reducible exact H2_) | with_reducible exact H | (rw [hy169]; exact H) | exact H
 have Ny169 := A_.mk hy169
 clear hy169
 obtain rfl := Option.some.inj H
 have hb_ : ∀ w, (binOp .eql 32 (.slice (some A0) l0.length c0) (.slice none 0 0)).run Try.prog w = .ok (.bool false) w := fun _ => by kernel_rfl
 go_enter Try.func24, Try.ntmps24
 go_wp2_with (first | ((with_reducible refine gd_ (N := 5) rfl ?_); refine Kd.R_lit (Kd.int .i64) _ 3 ?hg (N := 5) ?hd (xs := ([] : List Int)) (inner := []) (ok := fun _ => True) (okp := fun _ => True) ?hr ?hp (fun _ hk => hk) trivial (Below.refl _ _) (Nat.le_refl _) (by simp) ?_; (case hd => rfl); (case hg => rfl); (case hr => first | (go_simp; done) | (go_simp; rfl)); (case hp => exact (Reps.none _ _)); intro v167 w3 ho4 hb hg_ hnew_; clear hg_ hnew_; (first | rw [← Ny166.out] at ho4 | (simp only [Int.reduceToNat] at ho4; rw [← Ny166.out] at ho4)); have n0_ := A_.mk (Kd.R_lower ho4 (bz_ (beY HB.out))); have n1_ := A_.mk (bt_ (beY HB.out) hb); clear HB; have HO168 := n0_; have HB := n1_; clear n0_ n1_ hb ho4) | ((with_reducible refine gate_builtin (b := .append) (xs := #[.tmp 5, .tmp 6]) rfl ?_); at_builtin; refine Kd.R_append_rows (Kd.int .i64) (w0 := w) w.heap.size rfl (.tmp 5) (.tmp 6) 32 3 (.int .i64 0) 8 rfl Try.underlying32 info3 rfl (by decide) (by omega) v167 y166 l0 _ _ _ (fun _ => True) (fun _ => False) rfl rfl ?aO ?aR (fun _ _ h => h) (fun _ h => h.elim) ?aF ?aB ?aS ?aL ?_; (case aR => repeat (first | exact (Kd.C_below HR0.out HB.out) | (with_reducible refine Kd.C_alloc ?_ _) | (with_reducible refine Kd.C_drewN ?_ _) | (with_reducible refine Kd.C_drew ?_))); (case aB => exact (beY HB.out)); (case aF => exact (fun _ _ => trivial)); (case aO => exact (rY HO168.out)); (case aS => exact (bz_ (beY HB.out))); (case aL => have := LMc2.out; omega); intro v170 w5 ho hb hg hat; rw [← Ny169.out] at ho; have n0_ := A_.mk (hb); have n1_ := A_.mk (ho); clear HB HO168; have HB := n0_; have HO171 := n1_; clear n0_ n1_ ho hb hg hat))
 go_ret
 exact ⟨_, by first | rfl | (simp [errW_none, errW_some] <;> rfl) | (simp [*, errW_none, errW_some] <;> rfl), by (repeat apply rX); exact HO171.out, beY HB.out⟩
set_option maxHeartbeats 8000000 in
set_option maxRecDepth 100000 in
theorem slices_Clone_int_int.calls (A0 : Option Addr) (c0 : Nat) (l0 : List Int) (r : List Int) (w : World) (hr0 : Kd.C (Kd.int .i64) w A0 l0.length l0) (hc0 : l0.length ≤ c0) (h : slices_Clone_int_int.f l0 = some r) :
  Calls Try.prog 24 #[.slice A0 l0.length c0] w fun e w' => ∃ v0_ : Value, e = .returned (v0_) ∧ Kd.R (Kd.int .i64) 3 w' w.heap.size (fun _ => True) v0_ r ∧ Below w.heap.size w w' := by
 cases A0 with
 | some A0 => exact slices_Clone_int_int.calls_some A0 c0 l0 r w hr0 hc0 h
 | none =>
  have hz : l0.length = 0 := by
   rcases Nat.eq_zero_or_pos l0.length with h0 | h0
   ·exact h0
   ·obtain ⟨_, hn_, _⟩ := hr0.2.2 h0; cases hn_
  obtain rfl := List.length_eq_zero_iff.mp hz
  have hr_ : r = [] := by unfold slices_Clone_int_int.f at h; simp at h; exact h
  subst hr_
  clear h hz hr0
  have HB := A_.mk (Below.refl w.heap.size w)
  have hb_ : ∀ w, (binOp .eql 32 (.slice none 0 c0) (.slice none 0 0)).run Try.prog w = .ok (.bool true) w := fun _ => by kernel_rfl
  go_enter Try.func24, Try.ntmps24
  go_wp2
  go_ret
  exact ⟨_, by first | rfl | (simp [errW_none, errW_some] <;> rfl) | (simp [*, errW_none, errW_some] <;> rfl), by first | exact Kd.R_nil _ _ _ _ _ | exact Kd.N_nil _ _ _ _ _ | exact Kd.V_nil _ _ _ _ _ | exact Kd.Q_nil _ _ _ _ _ | exact Kd.S_nil _ _ _ _ _, beY HB.out⟩

end Go.Proofs.Ytflopendlbciaaa.PFnLinkOnce
