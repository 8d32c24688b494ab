-- Written by a program of this session (wip/xp): not trusted, Lean checks it.
import Derived.Test.YtflopendlbciaaaPFnLinkOncex0
import Derived.Test.YtflopendlbciaaaPFnLinkOncex1
import Derived.Test.YtflopendlbciaaaPFnLinkOncex4
import Derived.Test.YtflopendlbciaaaPFnLinkOncex5
import Derived.Test.YtflopendlbciaaaPFnLinkOncex6
import Derived.Test.YtflopendlbciaaaPFnLinkOncex8
namespace Go.Proofs.Ytflopendlbciaaa.PFnLinkOnce
open Go.RowKit Go.Proofs.YtflopendlbciaaaW.PrintWords Go.Proofs.YtflopendlbciaaaW.PrintLast Go.Proofs.YtflopendlbciaaaW.PrintMore
attribute [local go_sem] max2_int min2_int max_two min_two max_three min_three max_four min_four   -- for this text's walks alone
set_option linter.unusedVariables false
set_option linter.unusedSimpArgs false

/-! ### impl_AckOf: function 40 -/
def impl_AckOf.f (k : Nat) (a0_0 : Int) (l0_1 : List (List Int)) : Option (Int) := (impl_ReceiverOk.f k a0_0 l0_1).bind fun t323 => (if t323 = true then (some (Int.tmod (wrap64 ((wrap64 (a0_0 + 16)) - 1)) 16)) else (some (-1)))
set_option maxHeartbeats 8000000 in
set_option maxRecDepth 100000 in
theorem impl_AckOf.calls (k : Nat) (a0_0 : Int) (A0_1 : Option Addr) (c0_1 : Nat) (l0_1 : List (List Int)) (r : Int) (w : World) (hr0_1 : Kd.C (Kd.slice 3 (Kd.int .i64)) w A0_1 l0_1.length l0_1) (hc0_1 : l0_1.length ≤ c0_1) (h : impl_AckOf.f k a0_0 l0_1 = some r) :
  Calls Try.prog 40 #[.agg #[.int .i64 a0_0, .slice A0_1 l0_1.length c0_1]] w fun e w' => e = .returned (.int .i64 r) ∧ Below w.heap.size w w' := by
 have hu31 := Try.underlying31
 have HR0_1 := A_.mk hr0_1
 have HC0_1 := A_.mk hc0_1
 clear hr0_1 hc0_1
 have HB := A_.mk (Below.refl w.heap.size w)
 have H : ((impl_ReceiverOk.f k a0_0 l0_1).bind fun t323 => (if t323 = true then (some (Int.tmod (wrap64 ((wrap64 (a0_0 + 16)) - 1)) 16)) else (some (-1)))) = some r := h
 clear h
 replace H := ob_ H
 obtain ⟨t323, A20, H⟩ := H
 have A2 := A_.mk A20
 clear A20
 by_cases c3 : t323 = true
 rotate_left
 ·replace c3 := Bool.eq_false_iff.mpr c3
  subst c3
  have H1 : (some (-1)) = some r := by rw [if_neg (show ¬ (false = true) by decide)] at H; exact H
  clear H
  have H := H1
  clear H1
  obtain rfl := Option.some.inj H
  go_enter Try.func40, Try.ntmps40
  go_wp2_with (first | ((with_reducible refine gd_ (N := 1) rfl ?_); refine by_ 1 (cs := #[.int .i64 a0_0, .slice A0_1 l0_1.length c0_1]) (t := 31) ?_; intro gb322 hg w8 hbox hb; have n0_ := A_.mk (bt_ (beY HB.out) hb); have n1_ := A_.mk (hbox); have n2_ := A_.mk ((by rw [hg]; exact (bz_ (beY HB.out)) : w.heap.size ≤ gb322)); have n3_ := A_.mk ((by rw [hg]; exact (bz_ (beY HB.out)) : w.heap.size ≤ gb322)); clear HB; have HB := n0_; have BK322 := n1_; have GW322 := n2_; have GE322 := n3_; clear n0_ n1_ n2_ n3_ hb hbox hg; have hcz9_0 : w8.cell? ⟨gb322, 0, none⟩ = some (.int .i64 a0_0) := (bc_ BK322.out 0).trans rfl; have hcz9_1 : w8.cell? ⟨gb322, 1, none⟩ = some (.slice A0_1 l0_1.length c0_1) := (bc_ BK322.out 1).trans rfl; have hfz9_0 := bf_ BK322.out 0; have hfz9_1 := bf_ BK322.out 1) | ((with_reducible refine gc_ (f := 26) rfl ?_); refine gl_ (some 4) Try.func26 #[.agg #[.int .i64 a0_0, .slice A0_1 l0_1.length c0_1]] ?_; (with_reducible refine (impl_ReceiverOk.calls k a0_0 _ _ l0_1 false _ ?side1 ?side2 A2.out).mono ?_); (case side1 => exact cY ((Kd.C_below HR0_1.out HB.out))); (case side2 => exact HC0_1.out); rintro e w10 ⟨rfl, hb⟩; refine ⟨_, rfl, ?_⟩; have n0_ := A_.mk (bb_ (bY BK322.out) hb); have n1_ := A_.mk (bt_ (by repeat (first | (with_reducible first | exact HB.out | apply ba_ | apply bd_ | apply be_ | refine bs_ ?_ GE322.out) | exact HB.out)) hb); clear BK322 HB; have BK322 := n0_; have HB := n1_; clear n0_ n1_; (try clear hb); (try clear hb2); (try clear hk); (try clear hi)))
  go_ret
  exact ⟨by first | rfl | (simp [errW_none, errW_some] <;> rfl) | (simp [*, errW_none, errW_some] <;> rfl), by repeat (first | (with_reducible first | exact HB.out | apply ba_ | apply bd_ | apply be_ | refine bs_ ?_ GE322.out) | exact HB.out)⟩
 subst c3
 have H1 : (some (Int.tmod (wrap64 ((wrap64 (a0_0 + 16)) - 1)) 16)) = some r := by rw [if_pos rfl] at H; exact H
 clear H
 have H := H1
 clear H1
 obtain rfl := Option.some.inj H
 go_enter Try.func40, Try.ntmps40
 go_wp2_with (first | ((with_reducible refine gd_ (N := 1) rfl ?_); refine by_ 1 (cs := #[.int .i64 a0_0, .slice A0_1 l0_1.length c0_1]) (t := 31) ?_; intro gb322 hg w4 hbox hb; have n0_ := A_.mk (bt_ (beY HB.out) hb); have n1_ := A_.mk (hbox); have n2_ := A_.mk ((by rw [hg]; exact (bz_ (beY HB.out)) : w.heap.size ≤ gb322)); have n3_ := A_.mk ((by rw [hg]; exact (bz_ (beY HB.out)) : w.heap.size ≤ gb322)); clear HB; have HB := n0_; have BK322 := n1_; have GW322 := n2_; have GE322 := n3_; clear n0_ n1_ n2_ n3_ hb hbox hg; have hcz5_0 : w4.cell? ⟨gb322, 0, none⟩ = some (.int .i64 a0_0) := (bc_ BK322.out 0).trans rfl; have hcz5_1 : w4.cell? ⟨gb322, 1, none⟩ = some (.slice A0_1 l0_1.length c0_1) := (bc_ BK322.out 1).trans rfl; have hfz5_0 := bf_ BK322.out 0; have hfz5_1 := bf_ BK322.out 1) | ((with_reducible refine gc_ (f := 26) rfl ?_); refine gl_ (some 4) Try.func26 #[.agg #[.int .i64 a0_0, .slice A0_1 l0_1.length c0_1]] ?_; (with_reducible refine (impl_ReceiverOk.calls k a0_0 _ _ l0_1 true _ ?side1 ?side2 A2.out).mono ?_); (case side1 => exact cY ((Kd.C_below HR0_1.out HB.out))); (case side2 => exact HC0_1.out); rintro e w6 ⟨rfl, hb⟩; refine ⟨_, rfl, ?_⟩; have n0_ := A_.mk (bb_ (bY BK322.out) hb); have n1_ := A_.mk (bt_ (by repeat (first | (with_reducible first | exact HB.out | apply ba_ | apply bd_ | apply be_ | refine bs_ ?_ GE322.out) | exact HB.out)) hb); clear BK322 HB; have BK322 := n0_; have HB := n1_; clear n0_ n1_; (try clear hb); (try clear hb2); (try clear hk); (try clear hi); have hcz7_0 : w6.cell? ⟨gb322, 0, none⟩ = some (.int .i64 a0_0) := (bc_ BK322.out 0).trans rfl; have hcz7_1 : w6.cell? ⟨gb322, 1, none⟩ = some (.slice A0_1 l0_1.length c0_1) := (bc_ BK322.out 1).trans rfl; have hfz7_0 := bf_ BK322.out 0; have hfz7_1 := bf_ BK322.out 1))
 go_ret
 exact ⟨by first | rfl | (simp [errW_none, errW_some] <;> rfl) | (simp [*, errW_none, errW_some] <;> rfl), by repeat (first | (with_reducible first | exact HB.out | apply ba_ | apply bd_ | apply be_ | refine bs_ ?_ GE322.out) | exact HB.out)⟩
def rdl_ (xs : List (List Int)) (i : Int) : List Int := xs.getD i.toNat ([] : List Int)
theorem srow_ {w W : World} {e g n c : Nat} {ok : Nat → Prop} {xs : List (List Int)} {j : Int} (h : Kd.S (Kd.slice 3 (Kd.int .i64)) e W w.heap.size ok (.slice (some ⟨g, 0, none⟩) n c) xs) (hj : 0 ≤ j ∧ j < (xs.length : Int)) :
  ∃ A c0, W.cell? ⟨g, j.toNat, none⟩ = some (.slice A (rdl_ xs j).length c0) ∧ (rdl_ xs j).length ≤ c0 ∧ (Kd.int .i64).C W A (rdl_ xs j).length (rdl_ xs j) := by
 obtain ⟨hl, _, hC⟩ := Kd.S_reads' h
 obtain ⟨ad, c', e1, _, hK, hc0⟩ := Kd.C_get hC ([] : List Int) j hj.1 (by omega)
 injection e1 with e1
 subst e1
 have hc : ∀ q u, c'[q]? = some u → W.cell? (Addr.add ⟨g, 0, none⟩ (j.toNat * 1 + q)) = some u := hc0
 obtain ⟨A0, c0, rfl, l0, g0⟩ := hK
 refine ⟨A0, c0, ?_, l0, g0⟩
 have hq := hc 0 _ rfl
 rw [add_at, Nat.mul_one, Nat.add_zero, Nat.zero_add] at hq
 exact hq
theorem sfr_ {w W : World} {e g n c : Nat} {ok : Nat → Prop} {xs : List (List Int)} {j : Int} (h : Kd.S (Kd.slice 3 (Kd.int .i64)) e W w.heap.size ok (.slice (some ⟨g, 0, none⟩) n c) xs) (_hj : 0 ≤ j ∧ j < (xs.length : Int)) : W.frozen? ⟨g, j.toNat, none⟩ = false := by
 obtain ⟨_, _, inner, hown, _⟩ := h
 rcases hown.2 with ⟨hv, _⟩ | ⟨g', cap', cur, hv, _, hh, _⟩
 ·cases hv
 ·cases hv
  exact bf_ hh _
theorem sst_ {w W W' : World} {e g n c : Nat} {ok okp : Nat → Prop} {xs : List (List Int)} {x : List Int} {v : Value} {j : Int} (hw : W' = W.setCell ⟨g, j.toNat, none⟩ v) (h : A_ (Kd.S (Kd.slice 3 (Kd.int .i64)) e W w.heap.size ok (.slice (some ⟨g, 0, none⟩) n c) xs))
  (hr : A_ (Kd.R (Kd.int .i64) 3 W w.heap.size okp v x)) (hb : A_ (Below w.heap.size w W)) (hj : 0 ≤ j ∧ j < (xs.length : Int)) (hd : ∀ k, okp k → ok k → False) :
  Kd.S (Kd.slice 3 (Kd.int .i64)) e W' w.heap.size (fun k => ok k ∨ okp k) (.slice (some ⟨g, 0, none⟩) n c) (xs.set j.toNat x) ∧ Kept W W' (fun k => ok k) ∧ Below w.heap.size w W' := by
 subst hw
 have hg : ok g := (Kd.S_R h.out).1 g rfl
 obtain ⟨hl, _, _⟩ := Kd.S_reads' h.out
 obtain ⟨A0, c0, hcell, _⟩ := srow_ h.out hj
 obtain ⟨f, hf, hR⟩ := Kd.S_tag h.out j.toNat okp (fun k hk ho => hd k hk ho)
 have hM : (Kd.tag f (Kd.slice 3 (Kd.int .i64))).M W w.heap.size okp (x, j.toNat) [v] := by
  show (Kd.slice 3 (Kd.int .i64)).M W w.heap.size (fun k => okp k ∧ f k = j.toNat) x [v]
  exact Kd.M_row (Kd.R_mono hr.out (fun k hk => ⟨hk, hf k hk⟩))
 obtain ⟨h1, h2⟩ := Kd.R_seg (ok := fun k => ok k ∨ okp k) (d := Kd.tag f (Kd.slice 3 (Kd.int .i64))) (c := [.slice A0 (rdl_ xs j).length c0]) (seg := [v]) (j := 0) (okp := okp) (x' := (x, j.toNat)) (Kd.R_mono hR (fun _ hk => .inl hk)) j hj.1 (by omega) rfl (fun q u hq => by
   cases q with
   | zero => rw [← Option.some.inj hq]; exact (by show W.cell? ⟨g, j.toNat * 1 + 0, none⟩ = _; rw [Nat.mul_one, Nat.add_zero]; exact hcell)
   | succ q => cases hq) (Nat.le_refl _) hM (fun k hk => ⟨.inr hk, fun e => hd k hk (e ▸ hg)⟩)
 have e1 : W.setCells g (j.toNat * (Kd.tag f (Kd.slice 3 (Kd.int .i64))).sz + 0) [v] = W.setCell ⟨g, j.toNat, none⟩ v := by
  show W.setCells g (j.toNat * 1 + 0) [v] = _
  rw [Nat.mul_one, Nat.add_zero]; rfl
 rw [e1] at h1 h2
 refine ⟨⟨f, ?_⟩, Kept.setCell (Kept.refl _ _) (.inl hg) _, bs_ hb.out (Kd.S_base h.out _ (by simp [Value.ownBlock]))⟩
 have e2 : (xs.set j.toNat x).zipIdx = xs.zipIdx.set j.toNat (x, j.toNat) := by
  apply List.ext_getElem?
  intro i
  simp only [List.getElem?_zipIdx, List.getElem?_set, List.length_zipIdx]
  split
  ·next h => subst h; split <;> simp_all
  ·rfl
 rw [e2]
 exact h1
/-! ### impl_Link_deliver: function 17, its calls in a row -/
def impl_Link_deliver.f (k : Nat) (a0_0 : Int) (l0_1 : List (S68)) (a0_2 : Int) (a0_3 : Int) (l0_4 : List (List Int)) (l0_5 : List (List Int)) (l0_6 : List Int) : Option ((Bool) × (Int) × (List (S68)) × (Int) × (Int) × (List (List Int)) × (List (List Int)) × (List Int)) := (if (l0_5.length : Int) = 0 then (some (false, a0_0, l0_1, a0_2, a0_3, l0_4, l0_5, l0_6)) else (if 0 ≤ (0 : Int) then (if (0 : Int) < (l0_5.length : Int) then ((impl_TakeFrame.f k a0_3 l0_4 (rdl_ l0_5 (0 : Int))).bind fun ⟨t1, t2, t3⟩ => (if 0 ≤ (0 : Int) then (if (0 : Int) < (l0_5.length : Int) then (if (l0_6.length : Int) < 8 then ((impl_AckOf.f k t1 t2).bind fun t5 => (if t3 = 2 then (if (l0_6.length + 1) * 8 ≤ 140737488355328 then (some (true, a0_0, l0_1, a0_2, t1, t2, (l0_5.eraseIdx ((0 : Int)).toNat), (l0_6 ++ [(wrap64 (t5 + 100))]))) else none) else (if t3 = 3 then (if (l0_6.length + 1) * 8 ≤ 140737488355328 then (some (true, a0_0, l0_1, a0_2, t1, t2, (l0_5.eraseIdx ((0 : Int)).toNat), (l0_6 ++ [(wrap64 (t5 + 100))]))) else none) else (if (l0_6.length + 1) * 8 ≤ 140737488355328 then (some (true, a0_0, l0_1, a0_2, t1, t2, (l0_5.eraseIdx ((0 : Int)).toNat), (l0_6 ++ [t5]))) else none)))) else (some (true, a0_0, l0_1, a0_2, t1, t2, (l0_5.eraseIdx ((0 : Int)).toNat), l0_6))) else none) else none)) else none) else none))
set_option maxHeartbeats 8000000 in
set_option maxRecDepth 100000 in
theorem impl_Link_deliver.calls (k : Nat) (gb_ : Nat) (f0_ : Nat → Nat) (a0_0 : Int) (A0_1 : Option Addr) (c0_1 : Nat) (l0_1 : List (S68)) (a0_2 : Int) (a0_3 : Int) (A0_4 : Option Addr) (c0_4 : Nat) (l0_4 : List (List Int)) (A0_5 : Option Addr) (c0_5 : Nat) (l0_5 : List (List Int)) (A0_6 : Option Addr) (c0_6 : Nat) (l0_6 : List Int) (r1 : Bool) (r2 : Int) (r3 : List (S68)) (r4 : Int) (r5 : Int) (r6 : List (List Int)) (r7 : List (List Int)) (r8 : List Int) (w w1 : World) (hB : Below w.heap.size w w1) (hg : w.heap.size ≤ gb_) (hbx : w1.heap[gb_]? = some (.cells #[.int .i64 a0_0, .slice A0_1 l0_1.length c0_1, .int .i64 a0_2, .int .i64 a0_3, .slice A0_4 l0_4.length c0_4, .slice A0_5 l0_5.length c0_5, .slice A0_6 l0_6.length c0_6] 34 (0, 0))) (hp0_1 : Kd.S k68 68 w1 w.heap.size (fun k_ => (w.heap.size ≤ k_ ∧ k_ < w1.heap.size) ∧ k_ ≠ gb_ ∧ f0_ k_ = 0) (.slice A0_1 l0_1.length c0_1) l0_1) (hp0_4 : Kd.S (Kd.slice 3 (Kd.int .i64)) 32 w1 w.heap.size (fun k_ => (w.heap.size ≤ k_ ∧ k_ < w1.heap.size) ∧ k_ ≠ gb_ ∧ f0_ k_ = 1) (.slice A0_4 l0_4.length c0_4) l0_4) (hp0_5 : Kd.S (Kd.slice 3 (Kd.int .i64)) 32 w1 w.heap.size (fun k_ => (w.heap.size ≤ k_ ∧ k_ < w1.heap.size) ∧ k_ ≠ gb_ ∧ f0_ k_ = 2) (.slice A0_5 l0_5.length c0_5) l0_5) (hp0_6 : Kd.R (Kd.int .i64) 3 w1 w.heap.size (fun k_ => (w.heap.size ≤ k_ ∧ k_ < w1.heap.size) ∧ k_ ≠ gb_ ∧ f0_ k_ = 3) (.slice A0_6 l0_6.length c0_6) l0_6) (h : impl_Link_deliver.f k a0_0 l0_1 a0_2 a0_3 l0_4 l0_5 l0_6 = some (r1, r2, r3, r4, r5, r6, r7, r8)) :
  Calls Try.prog 17 #[.pointer (some ⟨gb_, 0, none⟩)] w1 fun e w' => ∃ f_ : Nat → Nat, ∃ v0_ v1_ v2_ v3_ : Value, e = .returned (.bool r1) ∧ w'.heap[gb_]? = some (.cells #[.int .i64 r2, v0_, .int .i64 r4, .int .i64 r5, v1_, v2_, v3_] 34 (0, 0)) ∧ Kd.S k68 68 w' w.heap.size (fun k_ => (w.heap.size ≤ k_ ∧ k_ < w'.heap.size) ∧ k_ ≠ gb_ ∧ f_ k_ = 0) v0_ r3 ∧ Kd.S (Kd.slice 3 (Kd.int .i64)) 32 w' w.heap.size (fun k_ => (w.heap.size ≤ k_ ∧ k_ < w'.heap.size) ∧ k_ ≠ gb_ ∧ f_ k_ = 1) v1_ r6 ∧ Kd.S (Kd.slice 3 (Kd.int .i64)) 32 w' w.heap.size (fun k_ => (w.heap.size ≤ k_ ∧ k_ < w'.heap.size) ∧ k_ ≠ gb_ ∧ f_ k_ = 2) v2_ r7 ∧ Kd.R (Kd.int .i64) 3 w' w.heap.size (fun k_ => (w.heap.size ≤ k_ ∧ k_ < w'.heap.size) ∧ k_ ≠ gb_ ∧ f_ k_ = 3) v3_ r8 ∧ (∀ k_, k_ < w1.heap.size → f_ k_ < 4 → k_ = gb_ ∨ f0_ k_ < 4) ∧ Below w.heap.size w w' ∧ Kept w1 w' (fun k_ => k_ = gb_ ∨ ((w.heap.size ≤ k_ ∧ k_ < w1.heap.size) ∧ k_ ≠ gb_ ∧ f0_ k_ < 4)) := by
 obtain ⟨gb1_, rfl⟩ : ∃ q_, q_ = gb_ := ⟨_, rfl⟩
 have HO0_1 := A_.mk hp0_1
 clear hp0_1
 have HO0_4 := A_.mk hp0_4
 clear hp0_4
 have HO0_5 := A_.mk hp0_5
 clear hp0_5
 have HO0_6 := A_.mk hp0_6
 clear hp0_6
 have BK1 := A_.mk hbx
 have HS := A_.mk (And.intro hB.size (And.intro hg (blk_lt hbx)))
 have HK := A_.mk (Kept.refl w1 (fun k_ => k_ = gb1_ ∨ ((w.heap.size ≤ k_ ∧ k_ < w1.heap.size) ∧ k_ ≠ gb1_ ∧ f0_ k_ < 4)))
 clear hbx hg
 have HB := A_.mk hB
 clear hB
 unfold impl_Link_deliver.f at h
 have H := h
 clear h
 by_cases hc1_ : (l0_5.length : Int) = 0
 case pos =>
  rw [if_pos hc1_] at H
  have hc1_b0 : ((l0_5.length : Int) == 0) = true := beq_iff_eq.mpr hc1_
  have hc1_bn : ((l0_5.length : Int) != 0) = false := bne_eq_false_iff_eq.mpr hc1_
  have hc1_b1 : (l0_5.length == 0) = true := by first | simpa using hc1_ | (simp at hc1_ ⊢; omega)
  replace hc1_ := A_.mk hc1_
  simp only [Option.some.injEq, Prod.mk.injEq] at H
  obtain ⟨rfl, rfl, rfl, rfl, rfl, rfl, rfl, rfl⟩ := H
  have hu31 := Try.underlying31
  have hu34 := Try.underlying34
  go_enter Try.func17, Try.ntmps17
  have Q1 := blk7_ BK1.out
  go_wp2
  go_ret
  obtain ⟨f_, hf_⟩ : ∃ f_ : Nat → Nat, ∀ k_, f_ k_ = (if ((w.heap.size ≤ k_ ∧ k_ < w1.heap.size) ∧ k_ ≠ gb1_ ∧ f0_ k_ = 0) then 0 else (if ((w.heap.size ≤ k_ ∧ k_ < w1.heap.size) ∧ k_ ≠ gb1_ ∧ f0_ k_ = 1) then 1 else (if ((w.heap.size ≤ k_ ∧ k_ < w1.heap.size) ∧ k_ ≠ gb1_ ∧ f0_ k_ = 2) then 2 else (if ((w.heap.size ≤ k_ ∧ k_ < w1.heap.size) ∧ k_ ≠ gb1_ ∧ f0_ k_ = 3) then 3 else 4)))) := ⟨fun k_ => (if ((w.heap.size ≤ k_ ∧ k_ < w1.heap.size) ∧ k_ ≠ gb1_ ∧ f0_ k_ = 0) then 0 else (if ((w.heap.size ≤ k_ ∧ k_ < w1.heap.size) ∧ k_ ≠ gb1_ ∧ f0_ k_ = 1) then 1 else (if ((w.heap.size ≤ k_ ∧ k_ < w1.heap.size) ∧ k_ ≠ gb1_ ∧ f0_ k_ = 2) then 2 else (if ((w.heap.size ≤ k_ ∧ k_ < w1.heap.size) ∧ k_ ≠ gb1_ ∧ f0_ k_ = 3) then 3 else 4)))), fun _ => rfl⟩
  have hcol0_ : ∀ k_, (((w.heap.size ≤ k_ ∧ k_ < w1.heap.size) ∧ k_ ≠ gb1_ ∧ f0_ k_ = 0)) → ((w.heap.size ≤ k_ ∧ k_ < w1.heap.size) ∧ k_ ≠ gb1_ ∧ f_ k_ = 0) := fun k_ hk_ => ⟨by have := HS.out; omega, by have := HS.out; omega, by rw [hf_]; have := HS.out; repeat' (first | omega | split)⟩
  have hcol1_ : ∀ k_, (((w.heap.size ≤ k_ ∧ k_ < w1.heap.size) ∧ k_ ≠ gb1_ ∧ f0_ k_ = 1)) → ((w.heap.size ≤ k_ ∧ k_ < w1.heap.size) ∧ k_ ≠ gb1_ ∧ f_ k_ = 1) := fun k_ hk_ => ⟨by have := HS.out; omega, by have := HS.out; omega, by rw [hf_]; have := HS.out; repeat' (first | omega | split)⟩
  have hcol2_ : ∀ k_, (((w.heap.size ≤ k_ ∧ k_ < w1.heap.size) ∧ k_ ≠ gb1_ ∧ f0_ k_ = 2)) → ((w.heap.size ≤ k_ ∧ k_ < w1.heap.size) ∧ k_ ≠ gb1_ ∧ f_ k_ = 2) := fun k_ hk_ => ⟨by have := HS.out; omega, by have := HS.out; omega, by rw [hf_]; have := HS.out; repeat' (first | omega | split)⟩
  have hcol3_ : ∀ k_, (((w.heap.size ≤ k_ ∧ k_ < w1.heap.size) ∧ k_ ≠ gb1_ ∧ f0_ k_ = 3)) → ((w.heap.size ≤ k_ ∧ k_ < w1.heap.size) ∧ k_ ≠ gb1_ ∧ f_ k_ = 3) := fun k_ hk_ => ⟨by have := HS.out; omega, by have := HS.out; omega, by rw [hf_]; have := HS.out; repeat' (first | omega | split)⟩
  have hfk_ : ∀ k_, k_ < w1.heap.size → f_ k_ < 4 → k_ = gb1_ ∨ f0_ k_ < 4 := fun k_ h1_ h2_ => by have := HS.out; rw [hf_] at h2_; repeat' (first | omega | split at h2_)
  first | exact ⟨f_, _, _, _, _, rfl, BK1.out, Kd.S_mono HO0_1.out hcol0_, Kd.S_mono HO0_4.out hcol1_, Kd.S_mono HO0_5.out hcol2_, Kd.R_mono HO0_6.out hcol3_, hfk_, HB.out, HK.out⟩ | exact ⟨rfl, f_, _, _, _, _, BK1.out, Kd.S_mono HO0_1.out hcol0_, Kd.S_mono HO0_4.out hcol1_, Kd.S_mono HO0_5.out hcol2_, Kd.R_mono HO0_6.out hcol3_, hfk_, HB.out, HK.out⟩
 rw [if_neg hc1_] at H
 have hc1_b0 : ((l0_5.length : Int) == 0) = false := beq_eq_false_iff_ne.mpr hc1_
 have hc1_bn : ((l0_5.length : Int) != 0) = true := bne_iff_ne.mpr hc1_
 have hc1_b1 : (l0_5.length == 0) = false := by first | simpa using hc1_ | (simp at hc1_ ⊢; omega)
 by_cases hp2_ : 0 ≤ (0 : Int)
 case neg => rw [if_neg hp2_] at H; cases H
 rw [if_pos hp2_] at H
 by_cases hq2_ : (0 : Int) < (l0_5.length : Int)
 case neg => rw [if_neg hq2_] at H; cases H
 rw [if_pos hq2_] at H
 have EB2 := A_.mk (And.intro hp2_ hq2_)
 have hn2_ : (0 < l0_5.length) = True := eq_true (by omega)
 replace hp2_ := eq_true hp2_
 replace hq2_ := eq_true hq2_
 replace H := oa_ H
 obtain ⟨⟨t1, t2, t3⟩, A3, H⟩ := H
 try dsimp only at H
 by_cases hp6_ : 0 ≤ (0 : Int)
 case neg => rw [if_neg hp6_] at H; cases H
 rw [if_pos hp6_] at H
 by_cases hq6_ : (0 : Int) < (l0_5.length : Int)
 case neg => rw [if_neg hq6_] at H; cases H
 rw [if_pos hq6_] at H
 have EB6 := A_.mk (And.intro hp6_ hq6_)
 clear hp6_ hq6_
 obtain ⟨y4, Ny4⟩ : ∃ q_, q_ = (l0_5.eraseIdx ((0 : Int)).toNat) := ⟨_, rfl⟩
 rw [← Ny4] at H
 replace Ny4 := A_.mk Ny4
 replace H := A_.mk H
 have hu31 := Try.underlying31
 have hu34 := Try.underlying34
 go_enter Try.func17, Try.ntmps17
 have Q1 := blk7_ BK1.out
 go_wp2_with (fail)
 obtain ⟨gHO0_5_, ed_⟩ := S_at0 HO0_5.out (by have := EB2.out; omega)
 subst ed_
 obtain ⟨A2_0, c2_0, hx_, hl_, hi_⟩ := srow_ HO0_5.out EB2.out
 have HX2 := A_.mk (show w1.cell? ⟨gHO0_5_, 0, none⟩ = some (.slice A2_0 (rdl_ l0_5 (0 : Int)).length c2_0) from hx_)
 have HD2 := A_.mk hl_
 have HE2 := A_.mk hi_
 clear hx_ hl_ hi_
 refine start_ (n := 17) (S := fun w' => (w'.cell? ⟨gb1_, 0, none⟩ = some (.int .i64 a0_0) ∧ w'.cell? ⟨gb1_, 1, none⟩ = some (.slice A0_1 l0_1.length c0_1) ∧ w'.cell? ⟨gb1_, 2, none⟩ = some (.int .i64 a0_2) ∧ w'.cell? ⟨gb1_, 3, none⟩ = some (.int .i64 a0_3) ∧ w'.cell? ⟨gb1_, 4, none⟩ = some (.slice A0_4 l0_4.length c0_4) ∧ w'.cell? ⟨gb1_, 5, none⟩ = some (.slice (some ⟨gHO0_5_, 0, none⟩) l0_5.length c0_5) ∧ w'.cell? ⟨gb1_, 6, none⟩ = some (.slice A0_6 l0_6.length c0_6)) ∧ (w'.cell? ⟨gHO0_5_, 0, none⟩ = some (.slice A2_0 (rdl_ l0_5 (0 : Int)).length c2_0))) (ds := [15]) #[F, F, F, F, F, F, F, F, F, F, F, F, F, F, F, F, F] (by kernel_rfl) rfl rfl ⟨blk7_ BK1.out, HX2.out⟩ (fun hHeld => ?_)
 clear Q1
 have hb := below_drew (Below.refl w1.heap.size w1)
 replace HS := aHs HS hb.size
 replace HO0_1 := aSb HO0_1 hb
 replace HO0_4 := aSb HO0_4 hb
 replace HO0_5 := aSb HO0_5 hb
 replace HO0_6 := aRb HO0_6 hb
 replace BK1 := aBb BK1 hb
 replace HE2 := A_.mk (Kd.C_below HE2.out hb)
 replace HX2 := A_.mk ((hb.cell (wl_ _ _ HX2.out)).trans HX2.out)
 replace HK := A_.mk (HK.out.below hb)
 replace HB := aHB HB hb
 clear hb
 generalize w1.drew = w16d_ at HO0_1 HO0_4 HO0_5 HO0_6 HE2 HX2 HK BK1 HB HS hHeld ⊢
 refine pd_ (i := 0) (N := some 13) #[T, F, F, F, F, F, F, F, F, F, F, F, F, F, F, F, F] rfl ?_
 refine pd_ (i := 1) (N := some 14) #[T, T, F, F, F, F, F, F, F, F, F, F, F, F, F, F, F] rfl ?_
 refine pd_ (i := 2) (N := some 15) #[T, T, T, F, F, F, F, F, F, F, F, F, F, F, F, F, F] rfl ?_
 refine tl_ (i := 3) (N := some 16) #[T, T, T, T, F, F, F, F, F, F, F, F, F, F, F, F, F] rfl hHeld ?_
 refine pd_ (i := 4) (N := some 17) #[T, T, T, T, T, F, F, F, F, F, F, F, F, F, F, F, F] rfl ?_
 refine pd_ (i := 5) (N := some 18) #[T, T, T, T, T, T, F, F, F, F, F, F, F, F, F, F, F] rfl ?_
 refine pd_ (i := 6) (N := some 19) #[T, T, T, T, T, T, T, F, F, F, F, F, F, F, F, F, F] rfl ?_
 refine tl_ (i := 7) (N := some 20) #[T, T, T, T, T, T, T, T, F, F, F, F, F, F, F, F, F] rfl hHeld ?_
 refine pd_ (i := 8) (N := some 21) #[T, T, T, T, T, T, T, T, T, F, F, F, F, F, F, F, F] rfl ?_
 refine tl_ (i := 9) (N := some 22) #[T, T, T, T, T, T, T, T, T, T, F, F, F, F, F, F, F] rfl hHeld ?_
 refine join_ (σ := Value × Nat × Nat × Nat) 2 #[T, T, T, T, T, T, T, T, T, T, T, T, T, T, T, F, F] (fun s_ => [(23, .tuple #[.agg #[.int .i64 t1, s_.1], .int .i64 t3]), (12, .tuple #[.agg #[.int .i64 t1, s_.1], .int .i64 t3]), (24, .agg #[.int .i64 t1, s_.1]), (25, .int .i64 t3), (3, .pointer (some ⟨s_.2.1, 0, none⟩))]) (fun s_ w' => ((w'.cell? ⟨gb1_, 0, none⟩ = some (.int .i64 a0_0) ∧ w'.cell? ⟨gb1_, 1, none⟩ = some (.slice A0_1 l0_1.length c0_1) ∧ w'.cell? ⟨gb1_, 2, none⟩ = some (.int .i64 a0_2) ∧ w'.cell? ⟨gb1_, 3, none⟩ = some (.int .i64 a0_3) ∧ w'.cell? ⟨gb1_, 4, none⟩ = some (.slice A0_4 l0_4.length c0_4) ∧ w'.cell? ⟨gb1_, 5, none⟩ = some (.slice (some ⟨gHO0_5_, 0, none⟩) l0_5.length c0_5) ∧ w'.cell? ⟨gb1_, 6, none⟩ = some (.slice A0_6 l0_6.length c0_6)) ∧ (w'.cell? ⟨gHO0_5_, 0, none⟩ = some (.slice A2_0 (rdl_ l0_5 (0 : Int)).length c2_0))) ∧ Kd.S k68 68 w' w.heap.size (fun k_ => ((w.heap.size ≤ k_ ∧ k_ < w1.heap.size) ∧ k_ ≠ gb1_ ∧ f0_ k_ = 0)) (.slice A0_1 l0_1.length c0_1) l0_1 ∧ Kd.S (Kd.slice 3 (Kd.int .i64)) 32 w' w.heap.size (fun k_ => ((w.heap.size ≤ k_ ∧ k_ < w1.heap.size) ∧ k_ ≠ gb1_ ∧ f0_ k_ = 2)) (.slice (some ⟨gHO0_5_, 0, none⟩) l0_5.length c0_5) l0_5 ∧ Kd.R (Kd.int .i64) 3 w' w.heap.size (fun k_ => ((w.heap.size ≤ k_ ∧ k_ < w1.heap.size) ∧ k_ ≠ gb1_ ∧ f0_ k_ = 3)) (.slice A0_6 l0_6.length c0_6) l0_6 ∧ w'.heap[gb1_]? = some (.cells #[.int .i64 a0_0, .slice A0_1 l0_1.length c0_1, .int .i64 a0_2, .int .i64 a0_3, .slice A0_4 l0_4.length c0_4, .slice (some ⟨gHO0_5_, 0, none⟩) l0_5.length c0_5, .slice A0_6 l0_6.length c0_6] 34 (0, 0)) ∧ Kept w1 w' (fun k_ => k_ = gb1_ ∨ ((w.heap.size ≤ k_ ∧ k_ < w1.heap.size) ∧ k_ ≠ gb1_ ∧ f0_ k_ < 4)) ∧ Below w.heap.size w w' ∧ w16d_.heap.size ≤ w'.heap.size ∧ (w16d_.heap.size ≤ s_.2.2.1 ∧ s_.2.2.1 ≤ s_.2.2.2 ∧ s_.2.2.2 ≤ w'.heap.size) ∧ Kd.S (Kd.slice 3 (Kd.int .i64)) 32 w' w.heap.size (fun k_ => (s_.2.2.1 ≤ k_ ∧ k_ < s_.2.2.2)) s_.1 t2 ∧ w'.heap[s_.2.1]? = some (.cells #[.int .i64 0, .slice none 0 0] 31 (0, 0)) ∧ (w16d_.heap.size ≤ s_.2.1 ∧ s_.2.1 < w'.heap.size ∧ (s_.2.1 < s_.2.2.1 ∨ s_.2.2.2 ≤ s_.2.1))) ?_ ?_
 rotate_left
 ·intro hCont
  refine two_ (i := 10) (j := 14) (Ni := some 23) (Nj := some 3) #[T, T, T, T, T, T, T, T, T, T, T, F, F, F, F, F, F] #[T, T, T, T, T, T, T, T, T, T, F, F, F, F, T, F, F] rfl rfl rfl rfl (by kernel_rfl) (by decide) (by decide) (fun K hK => ?_) (fun K hK => ?_)
  ·skip
   refine gz_ Try.func39 #[.agg #[.int .i64 a0_3, .slice A0_4 l0_4.length c0_4], .slice A2_0 (rdl_ l0_5 (0 : Int)).length c2_0] ?_
   with_reducible refine (impl_TakeFrame.calls k a0_3 _ _ l0_4 _ _ (rdl_ l0_5 (0 : Int)) t1 t2 t3 _ (Kd.S_reads' HO0_4.out).2.2 (Kd.S_reads' HO0_4.out).2.1 HE2.out HD2.out A3.out).mono ?_
   rintro e w3_ ⟨v1_, rfl, ho0_, hb⟩
   refine ⟨_, rfl, ?_⟩
   replace HS := aHs HS hb.size
   obtain ⟨Ao3_1, co3_1, ev_⟩ := Kd.S_slice ho0_
   subst ev_
   have HO3_1 := aSm ho0_ HB.out.size
   replace HO0_1 := aSb HO0_1 hb
   replace HO0_4 := aSb HO0_4 hb
   replace HO0_5 := aSb HO0_5 hb
   replace HO0_6 := aRb HO0_6 hb
   replace BK1 := aBb BK1 hb
   replace HE2 := A_.mk (Kd.C_below HE2.out hb)
   replace HX2 := A_.mk ((hb.cell (wl_ _ _ HX2.out)).trans HX2.out)
   replace HK := A_.mk (HK.out.below hb)
   replace HB := aHB HB hb
   clear hb ho0_
   refine hK.out _ _ ⟨blk7_ BK1.out, HX2.out⟩ (fun hHeld => ?_)
   clear hK K
   refine nm_ ?_
   refine pd_ (i := 11) (N := some 12) #[T, T, T, T, T, T, T, T, T, T, T, T, F, F, F, F, F] rfl ?_
   refine pd_ (i := 12) (N := some 24) #[T, T, T, T, T, T, T, T, T, T, T, T, T, F, F, F, F] rfl ?_
   refine pd_ (i := 13) (N := some 25) #[T, T, T, T, T, T, T, T, T, T, T, T, T, T, F, F, F] rfl ?_
   refine on_ (i := 14) (N := some 3) #[T, T, T, T, T, T, T, T, T, T, T, T, T, T, T, F, F] rfl (fun K hK => ?_)
   refine box_step ?hg (N := 3) ?hd (cs := #[.int .i64 0, .slice none 0 0]) (t := 31) ?hr ?_; (case hd => rfl); (case hg => rfl); (case hr => first | (go_simp; done) | (go_simp; rfl))
   intro gb4_ hg w4_ hbox hb
   replace HS := A_.mk (And.intro HS.out (show gb4_ = w3_.heap.size ∧ gb4_ < w4_.heap.size from ⟨hg, blk_lt hbox⟩))
   replace HO0_1 := aSb HO0_1 hb
   replace HO0_4 := aSb HO0_4 hb
   replace HO0_5 := aSb HO0_5 hb
   replace HO0_6 := aRb HO0_6 hb
   replace HO3_1 := aSb HO3_1 hb
   replace BK1 := aBb BK1 hb
   replace HE2 := A_.mk (Kd.C_below HE2.out hb)
   replace HX2 := A_.mk ((hb.cell (wl_ _ _ HX2.out)).trans HX2.out)
   replace HK := A_.mk (HK.out.below hb)
   replace HB := aHB HB hb
   have BK4 := A_.mk hbox
   clear hbox hb hg
   refine hK.out _ _ ⟨blk7_ BK1.out, HX2.out⟩ (fun hHeld => ?_)
   clear hK K
   refine nm_ ?_
   exact norm_ (by simp only [putAll, Act.put, List.setIfInBounds_toArray, List.set_cons_zero, List.set_cons_succ]) (hCont (.slice Ao3_1 t2.length co3_1, gb4_, (w16d_.heap.size), (w3_.heap.size)) _ ⟨hHeld, HO0_1.out, HO0_5.out, HO0_6.out, BK1.out, HK.out, HB.out, (by have := HS.out; omega), (by have := HS.out; (try dsimp only); omega), HO3_1.out, BK4.out, (by have := HS.out; (try dsimp only); omega)⟩)
  ·skip
   refine box_step ?hg (N := 3) ?hd (cs := #[.int .i64 0, .slice none 0 0]) (t := 31) ?hr ?_; (case hd => rfl); (case hg => rfl); (case hr => first | (go_simp; done) | (go_simp; rfl))
   intro gb4_ hg w4_ hbox hb
   replace HS := A_.mk (And.intro HS.out (show gb4_ = w16d_.heap.size ∧ gb4_ < w4_.heap.size from ⟨hg, blk_lt hbox⟩))
   replace HO0_1 := aSb HO0_1 hb
   replace HO0_4 := aSb HO0_4 hb
   replace HO0_5 := aSb HO0_5 hb
   replace HO0_6 := aRb HO0_6 hb
   replace BK1 := aBb BK1 hb
   replace HE2 := A_.mk (Kd.C_below HE2.out hb)
   replace HX2 := A_.mk ((hb.cell (wl_ _ _ HX2.out)).trans HX2.out)
   replace HK := A_.mk (HK.out.below hb)
   replace HB := aHB HB hb
   have BK4 := A_.mk hbox
   clear hbox hb hg
   refine hK.out _ _ ⟨blk7_ BK1.out, HX2.out⟩ (fun hHeld => ?_)
   clear hK K
   refine nm_ ?_
   refine on_ (i := 10) (N := some 23) #[T, T, T, T, T, T, T, T, T, T, T, F, F, F, T, F, F] rfl (fun K hK => ?_)
   refine gz_ Try.func39 #[.agg #[.int .i64 a0_3, .slice A0_4 l0_4.length c0_4], .slice A2_0 (rdl_ l0_5 (0 : Int)).length c2_0] ?_
   with_reducible refine (impl_TakeFrame.calls k a0_3 _ _ l0_4 _ _ (rdl_ l0_5 (0 : Int)) t1 t2 t3 _ (Kd.S_reads' HO0_4.out).2.2 (Kd.S_reads' HO0_4.out).2.1 HE2.out HD2.out A3.out).mono ?_
   rintro e w3_ ⟨v1_, rfl, ho0_, hb⟩
   refine ⟨_, rfl, ?_⟩
   replace HS := aHs HS hb.size
   obtain ⟨Ao3_1, co3_1, ev_⟩ := Kd.S_slice ho0_
   subst ev_
   have HO3_1 := aSm ho0_ HB.out.size
   replace HO0_1 := aSb HO0_1 hb
   replace HO0_4 := aSb HO0_4 hb
   replace HO0_5 := aSb HO0_5 hb
   replace HO0_6 := aRb HO0_6 hb
   replace BK1 := aBb BK1 hb
   replace BK4 := aBb BK4 hb
   replace HE2 := A_.mk (Kd.C_below HE2.out hb)
   replace HX2 := A_.mk ((hb.cell (wl_ _ _ HX2.out)).trans HX2.out)
   replace HK := A_.mk (HK.out.below hb)
   replace HB := aHB HB hb
   clear hb ho0_
   refine hK.out _ _ ⟨blk7_ BK1.out, HX2.out⟩ (fun hHeld => ?_)
   clear hK K
   refine nm_ ?_
   refine pd_ (i := 11) (N := some 12) #[T, T, T, T, T, T, T, T, T, T, T, T, F, F, T, F, F] rfl ?_
   refine pd_ (i := 12) (N := some 24) #[T, T, T, T, T, T, T, T, T, T, T, T, T, F, T, F, F] rfl ?_
   refine pd_ (i := 13) (N := some 25) #[T, T, T, T, T, T, T, T, T, T, T, T, T, T, T, F, F] rfl ?_
   exact norm_ (by simp only [putAll, Act.put, List.setIfInBounds_toArray, List.set_cons_zero, List.set_cons_succ]) (hCont (.slice Ao3_1 t2.length co3_1, gb4_, (w4_.heap.size), (w3_.heap.size)) _ ⟨hHeld, HO0_1.out, HO0_5.out, HO0_6.out, BK1.out, HK.out, HB.out, (by have := HS.out; omega), (by have := HS.out; (try dsimp only); omega), HO3_1.out, BK4.out, (by have := HS.out; (try dsimp only); omega)⟩)
 rintro ⟨z0_, gb4_, lo16j_, up16j_⟩ w16j_ ⟨hHeld, m0_, m1_, m2_, m3_, m4_, m5_, m6_, m7_, m8_, m9_, m10_⟩
 replace HO0_1 := A_.mk m0_
 replace HO0_5 := A_.mk m1_
 replace HO0_6 := A_.mk m2_
 replace BK1 := A_.mk m3_
 replace HK := A_.mk m4_
 replace HB := A_.mk m5_
 replace HS := A_.mk (And.intro HS.out m6_)
 replace HS := A_.mk (And.intro HS.out (show w16d_.heap.size ≤ lo16j_ ∧ lo16j_ ≤ up16j_ ∧ up16j_ ≤ w16j_.heap.size from m7_))
 obtain ⟨Ao3_1, co3_1, ev_⟩ := Kd.S_slice m8_
 replace ev_ : z0_ = _ := ev_
 subst ev_
 have HO3_1 := A_.mk (show Kd.S (Kd.slice 3 (Kd.int .i64)) 32 w16j_ w.heap.size (fun k_ => ((lo16j_ ≤ k_ ∧ k_ < up16j_))) (.slice Ao3_1 t2.length co3_1) t2 from m8_)
 have BK4 := A_.mk (show w16j_.heap[gb4_]? = some (.cells #[.int .i64 0, .slice none 0 0] 31 (0, 0)) from m9_)
 replace HS := A_.mk (And.intro HS.out (show w16d_.heap.size ≤ gb4_ ∧ gb4_ < w16j_.heap.size ∧ (gb4_ < lo16j_ ∨ up16j_ ≤ gb4_) from m10_))
 clear m0_ m1_ m2_ m3_ m4_ m5_ m6_ m7_ m8_ m9_ m10_
 refine norm_ (a' := ?_) ?_ ?_
 rotate_left
 ·simp only [putAll, Act.put, List.setIfInBounds_toArray, List.set_cons_zero, List.set_cons_succ]
  rfl
 refine last_ (i := 15) (N := none) #[T, T, T, T, T, T, T, T, T, T, T, T, T, T, T, T, F] rfl rfl (by kernel_rfl) (by decide) (fun K hK => ?_)
 have Q1 := blk7_ BK1.out
 have Q4 := blk2_ BK4.out
 have qf0 := bf_ BK4.out 0; have qf1 := bf_ BK4.out 1
 obtain ⟨w5_, hw⟩ : ∃ q_ : World, q_ = (ch2_ w16j_ gb4_ (.int .i64 t1) (.slice Ao3_1 t2.length co3_1)) := ⟨_, rfl⟩
 refine skip_ (w1 := w5_) (by rfl) rfl ?_ ?_
 ·rw [hw]; go_simp; try rfl
 refine hK.out _ _ ?_
 clear hK K qf0 qf1 Q1 Q4
 obtain ⟨hbx, hkp, hbb⟩ := st2_ hw BK4 HB (by have := HS.out; omega)
 clear hw
 replace HK := A_.mk (HK.out.then_ hkp (fun k_ h_ => by have := HS.out; (try dsimp only at h_ ⊢); omega))
 replace HO0_1 := aSk HO0_1 hkp HS
 replace HO0_5 := aSk HO0_5 hkp HS
 replace HO0_6 := aRk HO0_6 hkp HS
 replace HO3_1 := aSk HO3_1 hkp HS
 replace BK1 := aBk BK1 hkp HS
 replace BK4 := A_.mk hbx
 replace HB := A_.mk hbb
 replace HS := aHs HS hkp.1
 clear hkp hbb hbx
 refine pd_ (i := 16) (N := some 4) #[T, T, T, T, T, T, T, T, T, T, T, T, T, T, T, T, T] rfl ?_
 refine done_ (by kernel_rfl) ?_
 have Q1 := blk7_ BK1.out
 have Q4 := blk2_ BK4.out
 go_wp2_with (fail)
 refine start_ (n := 14) (S := fun w' => (w'.cell? ⟨gb1_, 0, none⟩ = some (.int .i64 a0_0) ∧ w'.cell? ⟨gb1_, 1, none⟩ = some (.slice A0_1 l0_1.length c0_1) ∧ w'.cell? ⟨gb1_, 2, none⟩ = some (.int .i64 a0_2) ∧ w'.cell? ⟨gb1_, 3, none⟩ = some (.int .i64 a0_3) ∧ w'.cell? ⟨gb1_, 4, none⟩ = some (.slice A0_4 l0_4.length c0_4) ∧ w'.cell? ⟨gb1_, 5, none⟩ = some (.slice (some ⟨gHO0_5_, 0, none⟩) l0_5.length c0_5) ∧ w'.cell? ⟨gb1_, 6, none⟩ = some (.slice A0_6 l0_6.length c0_6)) ∧ (w'.cell? ⟨gb4_, 0, none⟩ = some (.int .i64 t1) ∧ w'.cell? ⟨gb4_, 1, none⟩ = some (.slice Ao3_1 t2.length co3_1))) (ds := [10, 13]) #[F, F, F, F, F, F, F, F, F, F, F, F, F, F] (by kernel_rfl) rfl rfl ⟨blk7_ BK1.out, blk2_ BK4.out⟩ (fun hHeld => ?_)
 clear Q1 Q4
 have hb := below_drew (Below.refl w5_.heap.size w5_)
 replace HS := aHs HS hb.size
 replace HO0_1 := aSb HO0_1 hb
 replace HO0_5 := aSb HO0_5 hb
 replace HO0_6 := aRb HO0_6 hb
 replace HO3_1 := aSb HO3_1 hb
 replace BK1 := aBb BK1 hb
 replace BK4 := aBb BK4 hb
 replace HK := A_.mk (HK.out.below hb)
 replace HB := aHB HB hb
 clear hb
 generalize w5_.drew = w17d_ at HO0_1 HO0_5 HO0_6 HO3_1 HK BK1 BK4 HB HS hHeld ⊢
 refine pd_ (i := 0) (N := some 26) #[T, F, F, F, F, F, F, F, F, F, F, F, F, F] rfl ?_
 refine pd_ (i := 1) (N := some 27) #[T, T, F, F, F, F, F, F, F, F, F, F, F, F] rfl ?_
 refine tl_ (i := 2) (N := some 28) #[T, T, T, F, F, F, F, F, F, F, F, F, F, F] rfl hHeld ?_
 refine pd_ (i := 3) (N := some 29) #[T, T, T, T, F, F, F, F, F, F, F, F, F, F] rfl ?_
 refine pd_ (i := 4) (N := some 30) #[T, T, T, T, T, F, F, F, F, F, F, F, F, F] rfl ?_
 refine pd_ (i := 5) (N := some 31) #[T, T, T, T, T, T, F, F, F, F, F, F, F, F] rfl ?_
 refine tl_ (i := 6) (N := some 32) #[T, T, T, T, T, T, T, F, F, F, F, F, F, F] rfl hHeld ?_
 refine on_ (i := 7) (N := some 33) #[T, T, T, T, T, T, T, T, F, F, F, F, F, F] rfl (fun K hK => ?_)
 have gd6_ := 0
 refine gz_ Try.func34 #[.slice (some ⟨gHO0_5_, 0, none⟩) l0_5.length c0_5, .int .i64 (0 : Int), .int .i64 1] ?_
 refine (calls_cast (by rw [show wrap64 ((0 : Int) + 1) = 1 from (by unfold wrap64; omega)]) (slices_Delete_32.calls (fun k_ => ((w.heap.size ≤ k_ ∧ k_ < w1.heap.size) ∧ k_ ≠ gb1_ ∧ f0_ k_ = 2)) _ _ _ l0_5 (0 : Int) w _ HB.out HO0_5.out EB6.out.1 EB6.out.2)).mono ?_
 rintro e w6_ ⟨he_, ho, hb2, hkp⟩
 rw [← Ny4.out] at ho
 have hl_ := (Kd.S_reads' ho).1
 rw [hl_] at he_ ho
 subst he_
 clear hl_
 refine ⟨_, rfl, ?_⟩
 replace hkp := Kept.mono (S' := fun k_ => ((w.heap.size ≤ k_ ∧ k_ < w1.heap.size) ∧ k_ ≠ gb1_ ∧ f0_ k_ = 2)) hkp (fun k_ e_ => by subst e_; exact (Kd.S_R HO0_5.out).1 _ rfl)
 replace HK := A_.mk (HK.out.then_ hkp (fun k_ h_ => by have := HS.out; (try dsimp only at h_ ⊢); omega))
 replace HO0_1 := aSk HO0_1 hkp HS
 replace HO0_6 := aRk HO0_6 hkp HS
 replace HO3_1 := aSk HO3_1 hkp HS
 replace BK1 := aBk BK1 hkp HS
 replace BK4 := aBk BK4 hkp HS
 replace HS := aHs HS hkp.1
 have HO6 := A_.mk ho
 replace HB := A_.mk hb2
 clear hkp hb2 ho HO0_5
 refine hK.out _ _ ⟨blk7_ BK1.out, blk2_ BK4.out⟩ (fun hHeld => ?_)
 clear hK K
 refine nm_ ?_
 refine pd_ (i := 8) (N := some 34) #[T, T, T, T, T, T, T, T, T, F, F, F, F, F] rfl ?_
 refine pd_ (i := 9) (N := some 35) #[T, T, T, T, T, T, T, T, T, T, F, F, F, F] rfl ?_
 refine last_ (i := 10) (N := none) #[T, T, T, T, T, T, T, T, T, T, T, F, F, F] rfl rfl (by kernel_rfl) (by decide) (fun K hK => ?_)
 have Q1 := blk7_ BK1.out
 have Q4 := blk2_ BK4.out
 have qf0 := bf_ BK1.out 3; have qf1 := bf_ BK1.out 4
 obtain ⟨w7_, hw⟩ : ∃ q_ : World, q_ = ((w6_.setCell ⟨gb1_, 3, none⟩ (.int .i64 t1)).setCell ⟨gb1_, 4, none⟩ (.slice Ao3_1 t2.length co3_1)) := ⟨_, rfl⟩
 refine skip_ (w1 := w7_) (by rfl) rfl ?_ ?_
 ·rw [hw]; go_simp; try rfl
 refine hK.out _ _ ?_
 clear hK K qf0 qf1 Q1 Q4
 have hge : w.heap.size ≤ gb1_ := (by have := HS.out; omega)
 have hkp : Kept w6_ w7_ (fun k_ => k_ = gb1_) := (by rw [hw]; exact (Kept.of_set (Kept.of_set (Kept.refl _ _) _ _) _ _))
 have hbb : Below w.heap.size w w7_ := (by rw [hw]; exact (bs_ (bs_ HB.out hge) hge))
 have hbx : w7_.heap[gb1_]? = some (.cells #[.int .i64 a0_0, .slice A0_1 l0_1.length c0_1, .int .i64 a0_2, .int .i64 t1, .slice Ao3_1 t2.length co3_1, .slice (some ⟨gHO0_5_, 0, none⟩) l0_5.length c0_5, .slice A0_6 l0_6.length c0_6] 34 (0, 0)) := (by rw [hw]; exact (bp_ (cs := #[.int .i64 a0_0, .slice A0_1 l0_1.length c0_1, .int .i64 a0_2, .int .i64 t1, .slice A0_4 l0_4.length c0_4, .slice (some ⟨gHO0_5_, 0, none⟩) l0_5.length c0_5, .slice A0_6 l0_6.length c0_6]) (bp_ (cs := #[.int .i64 a0_0, .slice A0_1 l0_1.length c0_1, .int .i64 a0_2, .int .i64 a0_3, .slice A0_4 l0_4.length c0_4, .slice (some ⟨gHO0_5_, 0, none⟩) l0_5.length c0_5, .slice A0_6 l0_6.length c0_6]) BK1.out 3 _ rfl) 4 _ rfl))
 clear hw
 replace HK := A_.mk (HK.out.then_ hkp (fun k_ h_ => by have := HS.out; (try dsimp only at h_ ⊢); omega))
 replace HO0_1 := aSk HO0_1 hkp HS
 replace HO0_6 := aRk HO0_6 hkp HS
 replace HO3_1 := aSk HO3_1 hkp HS
 replace HO6 := aSk HO6 hkp HS
 replace BK4 := aBk BK4 hkp HS
 replace BK1 := A_.mk hbx
 replace HB := A_.mk hbb
 replace HS := aHs HS hkp.1
 clear hkp hbb hbx hge
 refine pd_ (i := 11) (N := some 36) #[T, T, T, T, T, T, T, T, T, T, T, T, F, F] rfl ?_
 refine pd_ (i := 12) (N := some 37) #[T, T, T, T, T, T, T, T, T, T, T, T, T, F] rfl ?_
 refine last_ (i := 13) (N := none) #[T, T, T, T, T, T, T, T, T, T, T, T, T, T] rfl rfl (by kernel_rfl) (by decide) (fun K hK => ?_)
 have Q1 := blk7_ BK1.out
 have Q4 := blk2_ BK4.out
 have qf0 := bf_ BK1.out 5
 obtain ⟨w8_, hw⟩ : ∃ q_ : World, q_ = (w7_.setCell ⟨gb1_, 5, none⟩ (.slice (some ⟨gHO0_5_, 0, none⟩) y4.length c0_5)) := ⟨_, rfl⟩
 refine skip_ (w1 := w8_) (by rfl) rfl ?_ ?_
 ·rw [hw]; go_simp; try rfl
 refine hK.out _ _ ?_
 clear hK K qf0 Q1 Q4
 have hge : w.heap.size ≤ gb1_ := (by have := HS.out; omega)
 have hkp : Kept w7_ w8_ (fun k_ => k_ = gb1_) := (by rw [hw]; exact (Kept.of_set (Kept.refl _ _) _ _))
 have hbb : Below w.heap.size w w8_ := (by rw [hw]; exact (bs_ HB.out hge))
 have hbx : w8_.heap[gb1_]? = some (.cells #[.int .i64 a0_0, .slice A0_1 l0_1.length c0_1, .int .i64 a0_2, .int .i64 t1, .slice Ao3_1 t2.length co3_1, .slice (some ⟨gHO0_5_, 0, none⟩) y4.length c0_5, .slice A0_6 l0_6.length c0_6] 34 (0, 0)) := (by rw [hw]; exact (bp_ (cs := #[.int .i64 a0_0, .slice A0_1 l0_1.length c0_1, .int .i64 a0_2, .int .i64 t1, .slice Ao3_1 t2.length co3_1, .slice (some ⟨gHO0_5_, 0, none⟩) l0_5.length c0_5, .slice A0_6 l0_6.length c0_6]) BK1.out 5 _ rfl))
 clear hw
 replace HK := A_.mk (HK.out.then_ hkp (fun k_ h_ => by have := HS.out; (try dsimp only at h_ ⊢); omega))
 replace HO0_1 := aSk HO0_1 hkp HS
 replace HO0_6 := aRk HO0_6 hkp HS
 replace HO3_1 := aSk HO3_1 hkp HS
 replace HO6 := aSk HO6 hkp HS
 replace BK4 := aBk BK4 hkp HS
 replace BK1 := A_.mk hbx
 replace HB := A_.mk hbb
 replace HS := aHs HS hkp.1
 clear hkp hbb hbx hge
 refine done_ (by kernel_rfl) ?_
 have Q1 := blk7_ BK1.out
 have Q4 := blk2_ BK4.out
 replace H := H.out
 by_cases hc2_ : (l0_6.length : Int) < 8
 case neg =>
  rw [if_neg hc2_] at H
  have hc2_b0 : decide ((l0_6.length : Int) < 8) = false := decide_eq_false hc2_
  have hc2_b1 : decide (l0_6.length < 8) = false := decide_eq_false (by omega)
  replace hc2_ := A_.mk hc2_
  simp only [Option.some.injEq, Prod.mk.injEq] at H
  obtain ⟨rfl, rfl, rfl, rfl, rfl, rfl, rfl, rfl⟩ := H
  go_wp2
  go_ret
  obtain ⟨f_, hf_⟩ : ∃ f_ : Nat → Nat, ∀ k_, f_ k_ = (if ((w.heap.size ≤ k_ ∧ k_ < w1.heap.size) ∧ k_ ≠ gb1_ ∧ f0_ k_ = 0) then 0 else (if ((lo16j_ ≤ k_ ∧ k_ < up16j_)) then 1 else (if ((w.heap.size ≤ k_ ∧ k_ < w1.heap.size) ∧ k_ ≠ gb1_ ∧ f0_ k_ = 2) then 2 else (if ((w.heap.size ≤ k_ ∧ k_ < w1.heap.size) ∧ k_ ≠ gb1_ ∧ f0_ k_ = 3) then 3 else 4)))) := ⟨fun k_ => (if ((w.heap.size ≤ k_ ∧ k_ < w1.heap.size) ∧ k_ ≠ gb1_ ∧ f0_ k_ = 0) then 0 else (if ((lo16j_ ≤ k_ ∧ k_ < up16j_)) then 1 else (if ((w.heap.size ≤ k_ ∧ k_ < w1.heap.size) ∧ k_ ≠ gb1_ ∧ f0_ k_ = 2) then 2 else (if ((w.heap.size ≤ k_ ∧ k_ < w1.heap.size) ∧ k_ ≠ gb1_ ∧ f0_ k_ = 3) then 3 else 4)))), fun _ => rfl⟩
  have hcol0_ : ∀ k_, (((w.heap.size ≤ k_ ∧ k_ < w1.heap.size) ∧ k_ ≠ gb1_ ∧ f0_ k_ = 0)) → ((w.heap.size ≤ k_ ∧ k_ < w8_.heap.size) ∧ k_ ≠ gb1_ ∧ f_ k_ = 0) := fun k_ hk_ => ⟨by have := HS.out; omega, by have := HS.out; omega, by rw [hf_]; have := HS.out; repeat' (first | omega | split)⟩
  have hcol1_ : ∀ k_, (((lo16j_ ≤ k_ ∧ k_ < up16j_))) → ((w.heap.size ≤ k_ ∧ k_ < w8_.heap.size) ∧ k_ ≠ gb1_ ∧ f_ k_ = 1) := fun k_ hk_ => ⟨by have := HS.out; omega, by have := HS.out; omega, by rw [hf_]; have := HS.out; repeat' (first | omega | split)⟩
  have hcol2_ : ∀ k_, (((w.heap.size ≤ k_ ∧ k_ < w1.heap.size) ∧ k_ ≠ gb1_ ∧ f0_ k_ = 2)) → ((w.heap.size ≤ k_ ∧ k_ < w8_.heap.size) ∧ k_ ≠ gb1_ ∧ f_ k_ = 2) := fun k_ hk_ => ⟨by have := HS.out; omega, by have := HS.out; omega, by rw [hf_]; have := HS.out; repeat' (first | omega | split)⟩
  have hcol3_ : ∀ k_, (((w.heap.size ≤ k_ ∧ k_ < w1.heap.size) ∧ k_ ≠ gb1_ ∧ f0_ k_ = 3)) → ((w.heap.size ≤ k_ ∧ k_ < w8_.heap.size) ∧ k_ ≠ gb1_ ∧ f_ k_ = 3) := fun k_ hk_ => ⟨by have := HS.out; omega, by have := HS.out; omega, by rw [hf_]; have := HS.out; repeat' (first | omega | split)⟩
  have hfk_ : ∀ k_, k_ < w1.heap.size → f_ k_ < 4 → k_ = gb1_ ∨ f0_ k_ < 4 := fun k_ h1_ h2_ => by have := HS.out; rw [hf_] at h2_; repeat' (first | omega | split at h2_)
  first | exact ⟨f_, _, _, _, _, rfl, BK1.out, Kd.S_mono HO0_1.out hcol0_, Kd.S_mono HO3_1.out hcol1_, Kd.S_mono HO6.out hcol2_, Kd.R_mono HO0_6.out hcol3_, hfk_, HB.out, HK.out⟩ | exact ⟨rfl, f_, _, _, _, _, BK1.out, Kd.S_mono HO0_1.out hcol0_, Kd.S_mono HO3_1.out hcol1_, Kd.S_mono HO6.out hcol2_, Kd.R_mono HO0_6.out hcol3_, hfk_, HB.out, HK.out⟩
 rw [if_pos hc2_] at H
 have hc2_b0 : decide ((l0_6.length : Int) < 8) = true := decide_eq_true hc2_
 have hc2_b1 : decide (l0_6.length < 8) = true := decide_eq_true (by omega)
 replace hc2_ := A_.mk hc2_
 replace H := oa_ H
 obtain ⟨t5, A9, H⟩ := H
 replace H := A_.mk H
 go_wp2_with (fail)
 (with_reducible refine (impl_AckOf.calls k t1 _ _ t2 t5 _ (Kd.S_reads' HO3_1.out).2.2 (Kd.S_reads' HO3_1.out).2.1 A9.out).mono ?_)
 rintro e w9_ ⟨rfl, hb⟩
 replace HS := aHs HS hb.size
 replace HO0_1 := aSb HO0_1 hb
 replace HO0_6 := aRb HO0_6 hb
 replace HO3_1 := aSb HO3_1 hb
 replace HO6 := aSb HO6 hb
 replace BK1 := aBb BK1 hb
 replace BK4 := aBb BK4 hb
 replace HK := A_.mk (HK.out.below hb)
 replace HB := aHB HB hb
 clear hb  Q1 Q4
 have Q1 := blk7_ BK1.out
 have Q4 := blk2_ BK4.out
 replace H := H.out
 by_cases hc3_ : t3 = 2
 case pos =>
  rw [if_pos hc3_] at H
  have hc3_b0 : (t3 == 2) = true := beq_iff_eq.mpr hc3_
  have hc3_bn : (t3 != 2) = false := bne_eq_false_iff_eq.mpr hc3_
  replace hc3_ := A_.mk hc3_
  by_cases hl4_ : (l0_6.length + 1) * 8 ≤ 140737488355328
  case neg => rw [if_neg hl4_] at H; cases H
  rw [if_pos hl4_] at H
  have LM10 := A_.mk hl4_
  clear hl4_
  obtain ⟨y6, Ny6⟩ : ∃ q_, q_ = (l0_6 ++ [(wrap64 (t5 + 100))]) := ⟨_, rfl⟩
  rw [← Ny6] at H
  replace Ny6 := A_.mk Ny6
  simp only [Option.some.injEq, Prod.mk.injEq] at H
  obtain ⟨rfl, rfl, rfl, rfl, rfl, rfl, rfl, rfl⟩ := H
  go_wp2_with (first | ((with_reducible refine gate_builtin (b := .append) (xs := #[.tmp 58, .tmp 60]) rfl ?_); at_builtin; refine Kd.R_append (Kd.int .i64) (w0 := w) w.heap.size rfl (.tmp 58) (.tmp 60) 32 3 ((.int .i64 0)) 8 rfl Try.underlying32 info3 rfl (by decide) (by omega) (.slice A0_6 l0_6.length c0_6) l0_6 (wrap64 (t5 + 100)) [.int .i64 (wrap64 (t5 + 100))] (fun k_ => (((w.heap.size ≤ k_ ∧ k_ < w1.heap.size) ∧ k_ ≠ gb1_ ∧ f0_ k_ = 3)) ∨ w9_.heap.size ≤ k_) (fun _ => False) rfl rfl ?aP (fun _ hk => hk.elim) (fun _ hk => .inr hk) (Kd.R_mono HO0_6.out (fun _ hk => .inl hk)) HB.out HB.out.size ?aL ?_; (case aP => rfl); (case aL => have := LM10.out; omega); intro v_ w10_ ho hbb hg hat; clear hat; rw [← Ny6.out] at ho; have hkp : Kept w9_ w10_ (fun k_ => ((w.heap.size ≤ k_ ∧ k_ < w1.heap.size) ∧ k_ ≠ gb1_ ∧ f0_ k_ = 3)) := Kept.of_grown hg (Kept.refl _ _) (fun k_ e_ => .inl (HO0_6.out.1 k_ e_)); replace HK := A_.mk (HK.out.then_ hkp (fun k_ h_ => by have := HS.out; (try dsimp only at h_ ⊢); omega)); replace HO0_1 := aSk HO0_1 hkp HS; replace HO3_1 := aSk HO3_1 hkp HS; replace HO6 := aSk HO6 hkp HS; replace BK1 := aBk BK1 hkp HS; replace BK4 := aBk BK4 hkp HS; replace HS := aHs HS hkp.1; obtain ⟨Ao10, co10, ev_⟩ := Kd.R_slice ho; subst ev_; have HO10 := A_.mk (Kd.R_mono (ok' := (fun k_ => ((w.heap.size ≤ k_ ∧ k_ < w1.heap.size) ∧ k_ ≠ gb1_ ∧ f0_ k_ = 3) ∨ ((w9_.heap.size ≤ k_ ∧ k_ < w10_.heap.size)))) (Kd.R_bound ho) (fun k_ hk_ => by have := hk_.1; have := hk_.2.2.1; have := hk_.2.1; clear hk_; (try dsimp only at *); omega)); replace HB := A_.mk hbb; clear hkp hbb hg ho HO0_6 Q1 Q4; have Q1 := blk7_ BK1.out; have Q4 := blk2_ BK4.out) | ((with_reducible refine gate_store (t := 32) (p := 63) rfl ?_); have qf0 := bf_ BK1.out 6; refine se_ (t := 32) (p := 63) (v := ?vo_11) (w1 := (w10_.setCell ⟨gb1_, 6, none⟩ (.slice Ao10 y6.length co10))) ?hg ?ho ?hn ?hr ?_; (case ho => rfl); (case hg => rfl); (case hn => rfl); (case hr => first | (go_simp; done) | (go_simp; rfl)); intro w11_ hw; clear qf0; have hge : w.heap.size ≤ gb1_ := (by have := HS.out; omega); have hkp : Kept w10_ w11_ (fun k_ => k_ = gb1_) := (by rw [hw]; exact (Kept.of_set (Kept.refl _ _) _ _)); have hbb : Below w.heap.size w w11_ := (by rw [hw]; exact (bs_ HB.out hge)); have hbx : w11_.heap[gb1_]? = some (.cells #[.int .i64 a0_0, .slice A0_1 l0_1.length c0_1, .int .i64 a0_2, .int .i64 t1, .slice Ao3_1 t2.length co3_1, .slice (some ⟨gHO0_5_, 0, none⟩) y4.length c0_5, .slice Ao10 y6.length co10] 34 (0, 0)) := (by rw [hw]; exact (bp_ (cs := #[.int .i64 a0_0, .slice A0_1 l0_1.length c0_1, .int .i64 a0_2, .int .i64 t1, .slice Ao3_1 t2.length co3_1, .slice (some ⟨gHO0_5_, 0, none⟩) y4.length c0_5, .slice A0_6 l0_6.length c0_6]) BK1.out 6 _ rfl)); clear hw; replace HK := A_.mk (HK.out.then_ hkp (fun k_ h_ => by have := HS.out; (try dsimp only at h_ ⊢); omega)); replace HO0_1 := aSk HO0_1 hkp HS; replace HO3_1 := aSk HO3_1 hkp HS; replace HO6 := aSk HO6 hkp HS; replace HO10 := aRk HO10 hkp HS; replace BK4 := aBk BK4 hkp HS; replace BK1 := A_.mk hbx; replace HB := A_.mk hbb; replace HS := aHs HS hkp.1; clear hkp hbb hbx hge Q1 Q4; have Q1 := blk7_ BK1.out; have Q4 := blk2_ BK4.out))
  go_ret
  obtain ⟨f_, hf_⟩ : ∃ f_ : Nat → Nat, ∀ k_, f_ k_ = (if ((w.heap.size ≤ k_ ∧ k_ < w1.heap.size) ∧ k_ ≠ gb1_ ∧ f0_ k_ = 0) then 0 else (if ((lo16j_ ≤ k_ ∧ k_ < up16j_)) then 1 else (if ((w.heap.size ≤ k_ ∧ k_ < w1.heap.size) ∧ k_ ≠ gb1_ ∧ f0_ k_ = 2) then 2 else (if ((w.heap.size ≤ k_ ∧ k_ < w1.heap.size) ∧ k_ ≠ gb1_ ∧ f0_ k_ = 3) ∨ ((w9_.heap.size ≤ k_ ∧ k_ < w10_.heap.size)) then 3 else 4)))) := ⟨fun k_ => (if ((w.heap.size ≤ k_ ∧ k_ < w1.heap.size) ∧ k_ ≠ gb1_ ∧ f0_ k_ = 0) then 0 else (if ((lo16j_ ≤ k_ ∧ k_ < up16j_)) then 1 else (if ((w.heap.size ≤ k_ ∧ k_ < w1.heap.size) ∧ k_ ≠ gb1_ ∧ f0_ k_ = 2) then 2 else (if ((w.heap.size ≤ k_ ∧ k_ < w1.heap.size) ∧ k_ ≠ gb1_ ∧ f0_ k_ = 3) ∨ ((w9_.heap.size ≤ k_ ∧ k_ < w10_.heap.size)) then 3 else 4)))), fun _ => rfl⟩
  have hcol0_ : ∀ k_, (((w.heap.size ≤ k_ ∧ k_ < w1.heap.size) ∧ k_ ≠ gb1_ ∧ f0_ k_ = 0)) → ((w.heap.size ≤ k_ ∧ k_ < w11_.heap.size) ∧ k_ ≠ gb1_ ∧ f_ k_ = 0) := fun k_ hk_ => ⟨by have := HS.out; omega, by have := HS.out; omega, by rw [hf_]; have := HS.out; repeat' (first | omega | split)⟩
  have hcol1_ : ∀ k_, (((lo16j_ ≤ k_ ∧ k_ < up16j_))) → ((w.heap.size ≤ k_ ∧ k_ < w11_.heap.size) ∧ k_ ≠ gb1_ ∧ f_ k_ = 1) := fun k_ hk_ => ⟨by have := HS.out; omega, by have := HS.out; omega, by rw [hf_]; have := HS.out; repeat' (first | omega | split)⟩
  have hcol2_ : ∀ k_, (((w.heap.size ≤ k_ ∧ k_ < w1.heap.size) ∧ k_ ≠ gb1_ ∧ f0_ k_ = 2)) → ((w.heap.size ≤ k_ ∧ k_ < w11_.heap.size) ∧ k_ ≠ gb1_ ∧ f_ k_ = 2) := fun k_ hk_ => ⟨by have := HS.out; omega, by have := HS.out; omega, by rw [hf_]; have := HS.out; repeat' (first | omega | split)⟩
  have hcol3_ : ∀ k_, (((w.heap.size ≤ k_ ∧ k_ < w1.heap.size) ∧ k_ ≠ gb1_ ∧ f0_ k_ = 3) ∨ ((w9_.heap.size ≤ k_ ∧ k_ < w10_.heap.size))) → ((w.heap.size ≤ k_ ∧ k_ < w11_.heap.size) ∧ k_ ≠ gb1_ ∧ f_ k_ = 3) := fun k_ hk_ => ⟨by have := HS.out; omega, by have := HS.out; omega, by rw [hf_]; have := HS.out; repeat' (first | omega | split)⟩
  have hfk_ : ∀ k_, k_ < w1.heap.size → f_ k_ < 4 → k_ = gb1_ ∨ f0_ k_ < 4 := fun k_ h1_ h2_ => by have := HS.out; rw [hf_] at h2_; repeat' (first | omega | split at h2_)
  first | exact ⟨f_, _, _, _, _, rfl, BK1.out, Kd.S_mono HO0_1.out hcol0_, Kd.S_mono HO3_1.out hcol1_, Kd.S_mono HO6.out hcol2_, Kd.R_mono HO10.out hcol3_, hfk_, HB.out, HK.out⟩ | exact ⟨rfl, f_, _, _, _, _, BK1.out, Kd.S_mono HO0_1.out hcol0_, Kd.S_mono HO3_1.out hcol1_, Kd.S_mono HO6.out hcol2_, Kd.R_mono HO10.out hcol3_, hfk_, HB.out, HK.out⟩
 rw [if_neg hc3_] at H
 have hc3_b0 : (t3 == 2) = false := beq_eq_false_iff_ne.mpr hc3_
 have hc3_bn : (t3 != 2) = true := bne_iff_ne.mpr hc3_
 by_cases hc5_ : t3 = 3
 case pos =>
  rw [if_pos hc5_] at H
  have hc5_b0 : (t3 == 3) = true := beq_iff_eq.mpr hc5_
  have hc5_bn : (t3 != 3) = false := bne_eq_false_iff_eq.mpr hc5_
  replace hc5_ := A_.mk hc5_
  by_cases hl6_ : (l0_6.length + 1) * 8 ≤ 140737488355328
  case neg => rw [if_neg hl6_] at H; cases H
  rw [if_pos hl6_] at H
  have LM12 := A_.mk hl6_
  clear hl6_
  obtain ⟨y7, Ny7⟩ : ∃ q_, q_ = (l0_6 ++ [(wrap64 (t5 + 100))]) := ⟨_, rfl⟩
  rw [← Ny7] at H
  replace Ny7 := A_.mk Ny7
  simp only [Option.some.injEq, Prod.mk.injEq] at H
  obtain ⟨rfl, rfl, rfl, rfl, rfl, rfl, rfl, rfl⟩ := H
  go_wp2_with (first | ((with_reducible refine gate_builtin (b := .append) (xs := #[.tmp 58, .tmp 60]) rfl ?_); at_builtin; refine Kd.R_append (Kd.int .i64) (w0 := w) w.heap.size rfl (.tmp 58) (.tmp 60) 32 3 ((.int .i64 0)) 8 rfl Try.underlying32 info3 rfl (by decide) (by omega) (.slice A0_6 l0_6.length c0_6) l0_6 (wrap64 (t5 + 100)) [.int .i64 (wrap64 (t5 + 100))] (fun k_ => (((w.heap.size ≤ k_ ∧ k_ < w1.heap.size) ∧ k_ ≠ gb1_ ∧ f0_ k_ = 3)) ∨ w9_.heap.size ≤ k_) (fun _ => False) rfl rfl ?aP (fun _ hk => hk.elim) (fun _ hk => .inr hk) (Kd.R_mono HO0_6.out (fun _ hk => .inl hk)) HB.out HB.out.size ?aL ?_; (case aP => rfl); (case aL => have := LM12.out; omega); intro v_ w12_ ho hbb hg hat; clear hat; rw [← Ny7.out] at ho; have hkp : Kept w9_ w12_ (fun k_ => ((w.heap.size ≤ k_ ∧ k_ < w1.heap.size) ∧ k_ ≠ gb1_ ∧ f0_ k_ = 3)) := Kept.of_grown hg (Kept.refl _ _) (fun k_ e_ => .inl (HO0_6.out.1 k_ e_)); replace HK := A_.mk (HK.out.then_ hkp (fun k_ h_ => by have := HS.out; (try dsimp only at h_ ⊢); omega)); replace HO0_1 := aSk HO0_1 hkp HS; replace HO3_1 := aSk HO3_1 hkp HS; replace HO6 := aSk HO6 hkp HS; replace BK1 := aBk BK1 hkp HS; replace BK4 := aBk BK4 hkp HS; replace HS := aHs HS hkp.1; obtain ⟨Ao12, co12, ev_⟩ := Kd.R_slice ho; subst ev_; have HO12 := A_.mk (Kd.R_mono (ok' := (fun k_ => ((w.heap.size ≤ k_ ∧ k_ < w1.heap.size) ∧ k_ ≠ gb1_ ∧ f0_ k_ = 3) ∨ ((w9_.heap.size ≤ k_ ∧ k_ < w12_.heap.size)))) (Kd.R_bound ho) (fun k_ hk_ => by have := hk_.1; have := hk_.2.2.1; have := hk_.2.1; clear hk_; (try dsimp only at *); omega)); replace HB := A_.mk hbb; clear hkp hbb hg ho HO0_6 Q1 Q4; have Q1 := blk7_ BK1.out; have Q4 := blk2_ BK4.out) | ((with_reducible refine gate_store (t := 32) (p := 63) rfl ?_); have qf0 := bf_ BK1.out 6; refine se_ (t := 32) (p := 63) (v := ?vo_13) (w1 := (w12_.setCell ⟨gb1_, 6, none⟩ (.slice Ao12 y7.length co12))) ?hg ?ho ?hn ?hr ?_; (case ho => rfl); (case hg => rfl); (case hn => rfl); (case hr => first | (go_simp; done) | (go_simp; rfl)); intro w13_ hw; clear qf0; have hge : w.heap.size ≤ gb1_ := (by have := HS.out; omega); have hkp : Kept w12_ w13_ (fun k_ => k_ = gb1_) := (by rw [hw]; exact (Kept.of_set (Kept.refl _ _) _ _)); have hbb : Below w.heap.size w w13_ := (by rw [hw]; exact (bs_ HB.out hge)); have hbx : w13_.heap[gb1_]? = some (.cells #[.int .i64 a0_0, .slice A0_1 l0_1.length c0_1, .int .i64 a0_2, .int .i64 t1, .slice Ao3_1 t2.length co3_1, .slice (some ⟨gHO0_5_, 0, none⟩) y4.length c0_5, .slice Ao12 y7.length co12] 34 (0, 0)) := (by rw [hw]; exact (bp_ (cs := #[.int .i64 a0_0, .slice A0_1 l0_1.length c0_1, .int .i64 a0_2, .int .i64 t1, .slice Ao3_1 t2.length co3_1, .slice (some ⟨gHO0_5_, 0, none⟩) y4.length c0_5, .slice A0_6 l0_6.length c0_6]) BK1.out 6 _ rfl)); clear hw; replace HK := A_.mk (HK.out.then_ hkp (fun k_ h_ => by have := HS.out; (try dsimp only at h_ ⊢); omega)); replace HO0_1 := aSk HO0_1 hkp HS; replace HO3_1 := aSk HO3_1 hkp HS; replace HO6 := aSk HO6 hkp HS; replace HO12 := aRk HO12 hkp HS; replace BK4 := aBk BK4 hkp HS; replace BK1 := A_.mk hbx; replace HB := A_.mk hbb; replace HS := aHs HS hkp.1; clear hkp hbb hbx hge Q1 Q4; have Q1 := blk7_ BK1.out; have Q4 := blk2_ BK4.out))
  go_ret
  obtain ⟨f_, hf_⟩ : ∃ f_ : Nat → Nat, ∀ k_, f_ k_ = (if ((w.heap.size ≤ k_ ∧ k_ < w1.heap.size) ∧ k_ ≠ gb1_ ∧ f0_ k_ = 0) then 0 else (if ((lo16j_ ≤ k_ ∧ k_ < up16j_)) then 1 else (if ((w.heap.size ≤ k_ ∧ k_ < w1.heap.size) ∧ k_ ≠ gb1_ ∧ f0_ k_ = 2) then 2 else (if ((w.heap.size ≤ k_ ∧ k_ < w1.heap.size) ∧ k_ ≠ gb1_ ∧ f0_ k_ = 3) ∨ ((w9_.heap.size ≤ k_ ∧ k_ < w12_.heap.size)) then 3 else 4)))) := ⟨fun k_ => (if ((w.heap.size ≤ k_ ∧ k_ < w1.heap.size) ∧ k_ ≠ gb1_ ∧ f0_ k_ = 0) then 0 else (if ((lo16j_ ≤ k_ ∧ k_ < up16j_)) then 1 else (if ((w.heap.size ≤ k_ ∧ k_ < w1.heap.size) ∧ k_ ≠ gb1_ ∧ f0_ k_ = 2) then 2 else (if ((w.heap.size ≤ k_ ∧ k_ < w1.heap.size) ∧ k_ ≠ gb1_ ∧ f0_ k_ = 3) ∨ ((w9_.heap.size ≤ k_ ∧ k_ < w12_.heap.size)) then 3 else 4)))), fun _ => rfl⟩
  have hcol0_ : ∀ k_, (((w.heap.size ≤ k_ ∧ k_ < w1.heap.size) ∧ k_ ≠ gb1_ ∧ f0_ k_ = 0)) → ((w.heap.size ≤ k_ ∧ k_ < w13_.heap.size) ∧ k_ ≠ gb1_ ∧ f_ k_ = 0) := fun k_ hk_ => ⟨by have := HS.out; omega, by have := HS.out; omega, by rw [hf_]; have := HS.out; repeat' (first | omega | split)⟩
  have hcol1_ : ∀ k_, (((lo16j_ ≤ k_ ∧ k_ < up16j_))) → ((w.heap.size ≤ k_ ∧ k_ < w13_.heap.size) ∧ k_ ≠ gb1_ ∧ f_ k_ = 1) := fun k_ hk_ => ⟨by have := HS.out; omega, by have := HS.out; omega, by rw [hf_]; have := HS.out; repeat' (first | omega | split)⟩
  have hcol2_ : ∀ k_, (((w.heap.size ≤ k_ ∧ k_ < w1.heap.size) ∧ k_ ≠ gb1_ ∧ f0_ k_ = 2)) → ((w.heap.size ≤ k_ ∧ k_ < w13_.heap.size) ∧ k_ ≠ gb1_ ∧ f_ k_ = 2) := fun k_ hk_ => ⟨by have := HS.out; omega, by have := HS.out; omega, by rw [hf_]; have := HS.out; repeat' (first | omega | split)⟩
  have hcol3_ : ∀ k_, (((w.heap.size ≤ k_ ∧ k_ < w1.heap.size) ∧ k_ ≠ gb1_ ∧ f0_ k_ = 3) ∨ ((w9_.heap.size ≤ k_ ∧ k_ < w12_.heap.size))) → ((w.heap.size ≤ k_ ∧ k_ < w13_.heap.size) ∧ k_ ≠ gb1_ ∧ f_ k_ = 3) := fun k_ hk_ => ⟨by have := HS.out; omega, by have := HS.out; omega, by rw [hf_]; have := HS.out; repeat' (first | omega | split)⟩
  have hfk_ : ∀ k_, k_ < w1.heap.size → f_ k_ < 4 → k_ = gb1_ ∨ f0_ k_ < 4 := fun k_ h1_ h2_ => by have := HS.out; rw [hf_] at h2_; repeat' (first | omega | split at h2_)
  first | exact ⟨f_, _, _, _, _, rfl, BK1.out, Kd.S_mono HO0_1.out hcol0_, Kd.S_mono HO3_1.out hcol1_, Kd.S_mono HO6.out hcol2_, Kd.R_mono HO12.out hcol3_, hfk_, HB.out, HK.out⟩ | exact ⟨rfl, f_, _, _, _, _, BK1.out, Kd.S_mono HO0_1.out hcol0_, Kd.S_mono HO3_1.out hcol1_, Kd.S_mono HO6.out hcol2_, Kd.R_mono HO12.out hcol3_, hfk_, HB.out, HK.out⟩
 rw [if_neg hc5_] at H
 have hc5_b0 : (t3 == 3) = false := beq_eq_false_iff_ne.mpr hc5_
 have hc5_bn : (t3 != 3) = true := bne_iff_ne.mpr hc5_
 by_cases hl7_ : (l0_6.length + 1) * 8 ≤ 140737488355328
 case neg => rw [if_neg hl7_] at H; cases H
 rw [if_pos hl7_] at H
 have LM14 := A_.mk hl7_
 clear hl7_
 obtain ⟨y8, Ny8⟩ : ∃ q_, q_ = (l0_6 ++ [t5]) := ⟨_, rfl⟩
 rw [← Ny8] at H
 replace Ny8 := A_.mk Ny8
 simp only [Option.some.injEq, Prod.mk.injEq] at H
 obtain ⟨rfl, rfl, rfl, rfl, rfl, rfl, rfl, rfl⟩ := H
 go_wp2_with (first | ((with_reducible refine gate_builtin (b := .append) (xs := #[.tmp 58, .tmp 60]) rfl ?_); at_builtin; refine Kd.R_append (Kd.int .i64) (w0 := w) w.heap.size rfl (.tmp 58) (.tmp 60) 32 3 ((.int .i64 0)) 8 rfl Try.underlying32 info3 rfl (by decide) (by omega) (.slice A0_6 l0_6.length c0_6) l0_6 t5 [.int .i64 t5] (fun k_ => (((w.heap.size ≤ k_ ∧ k_ < w1.heap.size) ∧ k_ ≠ gb1_ ∧ f0_ k_ = 3)) ∨ w9_.heap.size ≤ k_) (fun _ => False) rfl rfl ?aP (fun _ hk => hk.elim) (fun _ hk => .inr hk) (Kd.R_mono HO0_6.out (fun _ hk => .inl hk)) HB.out HB.out.size ?aL ?_; (case aP => rfl); (case aL => have := LM14.out; omega); intro v_ w14_ ho hbb hg hat; clear hat; rw [← Ny8.out] at ho; have hkp : Kept w9_ w14_ (fun k_ => ((w.heap.size ≤ k_ ∧ k_ < w1.heap.size) ∧ k_ ≠ gb1_ ∧ f0_ k_ = 3)) := Kept.of_grown hg (Kept.refl _ _) (fun k_ e_ => .inl (HO0_6.out.1 k_ e_)); replace HK := A_.mk (HK.out.then_ hkp (fun k_ h_ => by have := HS.out; (try dsimp only at h_ ⊢); omega)); replace HO0_1 := aSk HO0_1 hkp HS; replace HO3_1 := aSk HO3_1 hkp HS; replace HO6 := aSk HO6 hkp HS; replace BK1 := aBk BK1 hkp HS; replace BK4 := aBk BK4 hkp HS; replace HS := aHs HS hkp.1; obtain ⟨Ao14, co14, ev_⟩ := Kd.R_slice ho; subst ev_; have HO14 := A_.mk (Kd.R_mono (ok' := (fun k_ => ((w.heap.size ≤ k_ ∧ k_ < w1.heap.size) ∧ k_ ≠ gb1_ ∧ f0_ k_ = 3) ∨ ((w9_.heap.size ≤ k_ ∧ k_ < w14_.heap.size)))) (Kd.R_bound ho) (fun k_ hk_ => by have := hk_.1; have := hk_.2.2.1; have := hk_.2.1; clear hk_; (try dsimp only at *); omega)); replace HB := A_.mk hbb; clear hkp hbb hg ho HO0_6 Q1 Q4; have Q1 := blk7_ BK1.out; have Q4 := blk2_ BK4.out) | ((with_reducible refine gate_store (t := 32) (p := 63) rfl ?_); have qf0 := bf_ BK1.out 6; refine se_ (t := 32) (p := 63) (v := ?vo_15) (w1 := (w14_.setCell ⟨gb1_, 6, none⟩ (.slice Ao14 y8.length co14))) ?hg ?ho ?hn ?hr ?_; (case ho => rfl); (case hg => rfl); (case hn => rfl); (case hr => first | (go_simp; done) | (go_simp; rfl)); intro w15_ hw; clear qf0; have hge : w.heap.size ≤ gb1_ := (by have := HS.out; omega); have hkp : Kept w14_ w15_ (fun k_ => k_ = gb1_) := (by rw [hw]; exact (Kept.of_set (Kept.refl _ _) _ _)); have hbb : Below w.heap.size w w15_ := (by rw [hw]; exact (bs_ HB.out hge)); have hbx : w15_.heap[gb1_]? = some (.cells #[.int .i64 a0_0, .slice A0_1 l0_1.length c0_1, .int .i64 a0_2, .int .i64 t1, .slice Ao3_1 t2.length co3_1, .slice (some ⟨gHO0_5_, 0, none⟩) y4.length c0_5, .slice Ao14 y8.length co14] 34 (0, 0)) := (by rw [hw]; exact (bp_ (cs := #[.int .i64 a0_0, .slice A0_1 l0_1.length c0_1, .int .i64 a0_2, .int .i64 t1, .slice Ao3_1 t2.length co3_1, .slice (some ⟨gHO0_5_, 0, none⟩) y4.length c0_5, .slice A0_6 l0_6.length c0_6]) BK1.out 6 _ rfl)); clear hw; replace HK := A_.mk (HK.out.then_ hkp (fun k_ h_ => by have := HS.out; (try dsimp only at h_ ⊢); omega)); replace HO0_1 := aSk HO0_1 hkp HS; replace HO3_1 := aSk HO3_1 hkp HS; replace HO6 := aSk HO6 hkp HS; replace HO14 := aRk HO14 hkp HS; replace BK4 := aBk BK4 hkp HS; replace BK1 := A_.mk hbx; replace HB := A_.mk hbb; replace HS := aHs HS hkp.1; clear hkp hbb hbx hge Q1 Q4; have Q1 := blk7_ BK1.out; have Q4 := blk2_ BK4.out))
 go_ret
 obtain ⟨f_, hf_⟩ : ∃ f_ : Nat → Nat, ∀ k_, f_ k_ = (if ((w.heap.size ≤ k_ ∧ k_ < w1.heap.size) ∧ k_ ≠ gb1_ ∧ f0_ k_ = 0) then 0 else (if ((lo16j_ ≤ k_ ∧ k_ < up16j_)) then 1 else (if ((w.heap.size ≤ k_ ∧ k_ < w1.heap.size) ∧ k_ ≠ gb1_ ∧ f0_ k_ = 2) then 2 else (if ((w.heap.size ≤ k_ ∧ k_ < w1.heap.size) ∧ k_ ≠ gb1_ ∧ f0_ k_ = 3) ∨ ((w9_.heap.size ≤ k_ ∧ k_ < w14_.heap.size)) then 3 else 4)))) := ⟨fun k_ => (if ((w.heap.size ≤ k_ ∧ k_ < w1.heap.size) ∧ k_ ≠ gb1_ ∧ f0_ k_ = 0) then 0 else (if ((lo16j_ ≤ k_ ∧ k_ < up16j_)) then 1 else (if ((w.heap.size ≤ k_ ∧ k_ < w1.heap.size) ∧ k_ ≠ gb1_ ∧ f0_ k_ = 2) then 2 else (if ((w.heap.size ≤ k_ ∧ k_ < w1.heap.size) ∧ k_ ≠ gb1_ ∧ f0_ k_ = 3) ∨ ((w9_.heap.size ≤ k_ ∧ k_ < w14_.heap.size)) then 3 else 4)))), fun _ => rfl⟩
 have hcol0_ : ∀ k_, (((w.heap.size ≤ k_ ∧ k_ < w1.heap.size) ∧ k_ ≠ gb1_ ∧ f0_ k_ = 0)) → ((w.heap.size ≤ k_ ∧ k_ < w15_.heap.size) ∧ k_ ≠ gb1_ ∧ f_ k_ = 0) := fun k_ hk_ => ⟨by have := HS.out; omega, by have := HS.out; omega, by rw [hf_]; have := HS.out; repeat' (first | omega | split)⟩
 have hcol1_ : ∀ k_, (((lo16j_ ≤ k_ ∧ k_ < up16j_))) → ((w.heap.size ≤ k_ ∧ k_ < w15_.heap.size) ∧ k_ ≠ gb1_ ∧ f_ k_ = 1) := fun k_ hk_ => ⟨by have := HS.out; omega, by have := HS.out; omega, by rw [hf_]; have := HS.out; repeat' (first | omega | split)⟩
 have hcol2_ : ∀ k_, (((w.heap.size ≤ k_ ∧ k_ < w1.heap.size) ∧ k_ ≠ gb1_ ∧ f0_ k_ = 2)) → ((w.heap.size ≤ k_ ∧ k_ < w15_.heap.size) ∧ k_ ≠ gb1_ ∧ f_ k_ = 2) := fun k_ hk_ => ⟨by have := HS.out; omega, by have := HS.out; omega, by rw [hf_]; have := HS.out; repeat' (first | omega | split)⟩
 have hcol3_ : ∀ k_, (((w.heap.size ≤ k_ ∧ k_ < w1.heap.size) ∧ k_ ≠ gb1_ ∧ f0_ k_ = 3) ∨ ((w9_.heap.size ≤ k_ ∧ k_ < w14_.heap.size))) → ((w.heap.size ≤ k_ ∧ k_ < w15_.heap.size) ∧ k_ ≠ gb1_ ∧ f_ k_ = 3) := fun k_ hk_ => ⟨by have := HS.out; omega, by have := HS.out; omega, by rw [hf_]; have := HS.out; repeat' (first | omega | split)⟩
 have hfk_ : ∀ k_, k_ < w1.heap.size → f_ k_ < 4 → k_ = gb1_ ∨ f0_ k_ < 4 := fun k_ h1_ h2_ => by have := HS.out; rw [hf_] at h2_; repeat' (first | omega | split at h2_)
 first | exact ⟨f_, _, _, _, _, rfl, BK1.out, Kd.S_mono HO0_1.out hcol0_, Kd.S_mono HO3_1.out hcol1_, Kd.S_mono HO6.out hcol2_, Kd.R_mono HO14.out hcol3_, hfk_, HB.out, HK.out⟩ | exact ⟨rfl, f_, _, _, _, _, BK1.out, Kd.S_mono HO0_1.out hcol0_, Kd.S_mono HO3_1.out hcol1_, Kd.S_mono HO6.out hcol2_, Kd.R_mono HO14.out hcol3_, hfk_, HB.out, HK.out⟩
end Go.Proofs.Ytflopendlbciaaa.PFnLinkOnce
