-- Written by a program of this session (wip/xp): not trusted, Lean checks it.
import Derived.Test.YtflopendlbciaaaPFnLinkOncex0
import Derived.Test.YtflopendlbciaaaPFnLinkOncex1
import Derived.Test.YtflopendlbciaaaPFnLinkOncex3
import Derived.Test.YtflopendlbciaaaPFnLinkOncex5
import Derived.Test.YtflopendlbciaaaPFnLinkOncex6
import Derived.Test.YtflopendlbciaaaPFnLinkOncex9
import Derived.Test.YtflopendlbciaaaPFnLinkOncex10
import Derived.Test.YtflopendlbciaaaPFnLinkOncex11
namespace Go.Proofs.Ytflopendlbciaaa.PFnLinkOnce
open Go.RowKit Go.Proofs.YtflopendlbciaaaW.PrintWords Go.Proofs.YtflopendlbciaaaW.PrintLast Go.Proofs.YtflopendlbciaaaW.PrintMore
attribute [local go_sem] max2_int min2_int max_two min_two max_three min_three max_four min_four   -- for this text's walks alone
set_option linter.unusedVariables false
set_option linter.unusedSimpArgs false

/-! ### impl_Link_step: function 15, its calls in a row -/
def impl_Link_step.f (k : Nat) (a0_0 : Int) (l0_1 : List (S68)) (a0_2 : Int) (a0_3 : Int) (l0_4 : List (List Int)) (l0_5 : List (List Int)) (l0_6 : List Int) (a1_0 : Int) (a1_1 : Int) : Option ((Bool) × (Int) × (List (S68)) × (Int) × (Int) × (List (List Int)) × (List (List Int)) × (List Int)) := (if a1_0 = 7 then ((impl_isWord.f a1_1).bind fun t1 => (if t1 = true then ((impl_QueueFrame.f k a0_0 l0_1 a0_2 ([(wrap64 (Int.tdiv a1_1 256)), (Int.tmod a1_1 256)] : List Int)).bind fun ⟨t3, t4, t5, t6⟩ => (some (t6, t3, t4, t5, a0_3, l0_4, l0_5, l0_6))) else (some (false, a0_0, l0_1, a0_2, a0_3, l0_4, l0_5, l0_6)))) else (if a1_0 = 1 then ((impl_Link_send.f k a0_0 l0_1 a0_2 a0_3 l0_4 l0_5 l0_6).bind fun ⟨t7, t8, t9, t10, t11, t12, t13, t14⟩ => (some (t7, t8, t9, t10, t11, t12, t13, t14))) else (if a1_0 = 2 then ((impl_Link_deliver.f k a0_0 l0_1 a0_2 a0_3 l0_4 l0_5 l0_6).bind fun ⟨t15, t16, t17, t18, t19, t20, t21, t22⟩ => (some (t15, t16, t17, t18, t19, t20, t21, t22))) else (if a1_0 = 3 then ((impl_within.f a1_1 0 (wrap64 ((l0_5.length : Int) - 1))).bind fun t23 => (if t23 = true then (if 0 ≤ a1_1 then (if a1_1 < (l0_5.length : Int) then (some (true, a0_0, l0_1, a0_2, a0_3, l0_4, (l0_5.eraseIdx (a1_1).toNat), l0_6)) else none) else none) else (some (false, a0_0, l0_1, a0_2, a0_3, l0_4, l0_5, l0_6)))) else (if a1_0 = 4 then ((impl_Link_damage.f k a0_0 l0_1 a0_2 a0_3 l0_4 l0_5 l0_6 a1_1).bind fun ⟨t25, t26, t27, t28, t29, t30, t31, t32⟩ => (some (t25, t26, t27, t28, t29, t30, t31, t32))) else (if a1_0 = 5 then ((impl_Link_answer.f k a0_0 l0_1 a0_2 a0_3 l0_4 l0_5 l0_6).bind fun ⟨t33, t34, t35, t36, t37, t38, t39, t40⟩ => (some (t33, t34, t35, t36, t37, t38, t39, t40))) else (if a1_0 = 6 then ((impl_Replay.f k a0_0 l0_1 a0_2).bind fun ⟨t41, t42, t43⟩ => (some (true, t41, t42, t43, a0_3, l0_4, l0_5, l0_6))) else (some (false, a0_0, l0_1, a0_2, a0_3, l0_4, l0_5, l0_6)))))))))
set_option maxHeartbeats 8000000 in
set_option maxRecDepth 100000 in
theorem impl_Link_step.calls (k : Nat) (gb_ : Nat) (f0_ : Nat → Nat) (a0_0 : Int) (A0_1 : Option Addr) (c0_1 : Nat) (l0_1 : List (S68)) (a0_2 : Int) (a0_3 : Int) (A0_4 : Option Addr) (c0_4 : Nat) (l0_4 : List (List Int)) (A0_5 : Option Addr) (c0_5 : Nat) (l0_5 : List (List Int)) (A0_6 : Option Addr) (c0_6 : Nat) (l0_6 : List Int) (a1_0 : Int) (a1_1 : Int) (r1 : Bool) (r2 : Int) (r3 : List (S68)) (r4 : Int) (r5 : Int) (r6 : List (List Int)) (r7 : List (List Int)) (r8 : List Int) (w w1 : World) (hB : Below w.heap.size w w1) (hg : w.heap.size ≤ gb_) (hbx : w1.heap[gb_]? = some (.cells #[.int .i64 a0_0, .slice A0_1 l0_1.length c0_1, .int .i64 a0_2, .int .i64 a0_3, .slice A0_4 l0_4.length c0_4, .slice A0_5 l0_5.length c0_5, .slice A0_6 l0_6.length c0_6] 34 (0, 0))) (hp0_1 : Kd.S k68 68 w1 w.heap.size (fun k_ => (w.heap.size ≤ k_ ∧ k_ < w1.heap.size) ∧ k_ ≠ gb_ ∧ f0_ k_ = 0) (.slice A0_1 l0_1.length c0_1) l0_1) (hp0_4 : Kd.S (Kd.slice 3 (Kd.int .i64)) 32 w1 w.heap.size (fun k_ => (w.heap.size ≤ k_ ∧ k_ < w1.heap.size) ∧ k_ ≠ gb_ ∧ f0_ k_ = 1) (.slice A0_4 l0_4.length c0_4) l0_4) (hp0_5 : Kd.S (Kd.slice 3 (Kd.int .i64)) 32 w1 w.heap.size (fun k_ => (w.heap.size ≤ k_ ∧ k_ < w1.heap.size) ∧ k_ ≠ gb_ ∧ f0_ k_ = 2) (.slice A0_5 l0_5.length c0_5) l0_5) (hp0_6 : Kd.R (Kd.int .i64) 3 w1 w.heap.size (fun k_ => (w.heap.size ≤ k_ ∧ k_ < w1.heap.size) ∧ k_ ≠ gb_ ∧ f0_ k_ = 3) (.slice A0_6 l0_6.length c0_6) l0_6) (h : impl_Link_step.f k a0_0 l0_1 a0_2 a0_3 l0_4 l0_5 l0_6 a1_0 a1_1 = some (r1, r2, r3, r4, r5, r6, r7, r8)) :
  Calls Try.prog 15 #[.pointer (some ⟨gb_, 0, none⟩), .agg #[.int .i64 a1_0, .int .i64 a1_1]] w1 fun e w' => ∃ f_ : Nat → Nat, ∃ v0_ v1_ v2_ v3_ : Value, e = .returned (.bool r1) ∧ w'.heap[gb_]? = some (.cells #[.int .i64 r2, v0_, .int .i64 r4, .int .i64 r5, v1_, v2_, v3_] 34 (0, 0)) ∧ Kd.S k68 68 w' w.heap.size (fun k_ => (w.heap.size ≤ k_ ∧ k_ < w'.heap.size) ∧ k_ ≠ gb_ ∧ f_ k_ = 0) v0_ r3 ∧ Kd.S (Kd.slice 3 (Kd.int .i64)) 32 w' w.heap.size (fun k_ => (w.heap.size ≤ k_ ∧ k_ < w'.heap.size) ∧ k_ ≠ gb_ ∧ f_ k_ = 1) v1_ r6 ∧ Kd.S (Kd.slice 3 (Kd.int .i64)) 32 w' w.heap.size (fun k_ => (w.heap.size ≤ k_ ∧ k_ < w'.heap.size) ∧ k_ ≠ gb_ ∧ f_ k_ = 2) v2_ r7 ∧ Kd.R (Kd.int .i64) 3 w' w.heap.size (fun k_ => (w.heap.size ≤ k_ ∧ k_ < w'.heap.size) ∧ k_ ≠ gb_ ∧ f_ k_ = 3) v3_ r8 ∧ (∀ k_, k_ < w1.heap.size → f_ k_ < 4 → k_ = gb_ ∨ f0_ k_ < 4) ∧ Below w.heap.size w w' ∧ Kept w1 w' (fun k_ => k_ = gb_ ∨ ((w.heap.size ≤ k_ ∧ k_ < w1.heap.size) ∧ k_ ≠ gb_ ∧ f0_ k_ < 4)) := by
 obtain ⟨gb1_, rfl⟩ : ∃ q_, q_ = gb_ := ⟨_, rfl⟩
 have HO0_1 := A_.mk hp0_1
 clear hp0_1
 have HO0_4 := A_.mk hp0_4
 clear hp0_4
 have HO0_5 := A_.mk hp0_5
 clear hp0_5
 have HO0_6 := A_.mk hp0_6
 clear hp0_6
 have BK1 := A_.mk hbx
 have HS := A_.mk (And.intro hB.size (And.intro hg (blk_lt hbx)))
 have HK := A_.mk (Kept.refl w1 (fun k_ => k_ = gb1_ ∨ ((w.heap.size ≤ k_ ∧ k_ < w1.heap.size) ∧ k_ ≠ gb1_ ∧ f0_ k_ < 4)))
 clear hbx hg
 have HB := A_.mk hB
 clear hB
 unfold impl_Link_step.f at h
 have H := h
 clear h
 by_cases hc1_ : a1_0 = 7
 case pos =>
  rw [if_pos hc1_] at H
  have hc1_b0 : (a1_0 == 7) = true := beq_iff_eq.mpr hc1_
  have hc1_bn : (a1_0 != 7) = false := bne_eq_false_iff_eq.mpr hc1_
  replace hc1_ := A_.mk hc1_
  replace H := oa_ H
  obtain ⟨t1, A3, H⟩ := H
  replace H := A_.mk H
  have hu28 := Try.underlying28
  have hu34 := Try.underlying34
  have hu39 := Try.underlying39
  go_enter Try.func15, Try.ntmps15
  have Q1 := blk7_ BK1.out
  go_wp2_with (first | ((with_reducible refine gd_ (N := 3) rfl ?_); refine by_ 3 (cs := #[.int .i64 a1_0, .int .i64 a1_1]) (t := 39) ?_; intro gb2_ hg w2_ hbox hb; replace HS := A_.mk (And.intro HS.out (show gb2_ = w1.heap.size ∧ gb2_ < w2_.heap.size from ⟨hg, blk_lt hbox⟩)); replace HO0_1 := aSb HO0_1 hb; replace HO0_4 := aSb HO0_4 hb; replace HO0_5 := aSb HO0_5 hb; replace HO0_6 := aRb HO0_6 hb; replace BK1 := aBb BK1 hb; replace HK := A_.mk (HK.out.below hb); replace HB := aHB HB hb; have BK2 := A_.mk hbox; clear hbox hb hg Q1; have Q1 := blk7_ BK1.out; have Q2 := blk2_ BK2.out))
  (with_reducible refine (impl_isWord.calls a1_1 t1 _ A3.out).mono ?_)
  rintro e w3_ ⟨rfl, hb⟩
  replace hb := Drawn0.below hb
  replace HS := aHs HS hb.size
  replace HO0_1 := aSb HO0_1 hb
  replace HO0_4 := aSb HO0_4 hb
  replace HO0_5 := aSb HO0_5 hb
  replace HO0_6 := aRb HO0_6 hb
  replace BK1 := aBb BK1 hb
  replace BK2 := aBb BK2 hb
  replace HK := A_.mk (HK.out.below hb)
  replace HB := aHB HB hb
  clear hb  Q1 Q2
  have Q1 := blk7_ BK1.out
  have Q2 := blk2_ BK2.out
  replace H := H.out
  by_cases hc2_ : t1 = true
  case pos =>
   rw [if_pos hc2_] at H
   subst hc2_
   obtain ⟨y2, Ny2⟩ : ∃ q_, q_ = ([(wrap64 (Int.tdiv a1_1 256)), (Int.tmod a1_1 256)] : List Int) := ⟨_, rfl⟩
   rw [← Ny2] at H
   replace Ny2 := A_.mk Ny2
   replace H := oa_ H
   obtain ⟨⟨t3, t4, t5, t6⟩, A5, H⟩ := H
   try dsimp only at H
   simp only [Option.some.injEq, Prod.mk.injEq] at H
   obtain ⟨rfl, rfl, rfl, rfl, rfl, rfl, rfl, rfl⟩ := H
   go_wp2_with (fail)
   refine start_ (n := 18) (S := fun w' => (w'.cell? ⟨gb1_, 0, none⟩ = some (.int .i64 a0_0) ∧ w'.cell? ⟨gb1_, 1, none⟩ = some (.slice A0_1 l0_1.length c0_1) ∧ w'.cell? ⟨gb1_, 2, none⟩ = some (.int .i64 a0_2) ∧ w'.cell? ⟨gb1_, 3, none⟩ = some (.int .i64 a0_3) ∧ w'.cell? ⟨gb1_, 4, none⟩ = some (.slice A0_4 l0_4.length c0_4) ∧ w'.cell? ⟨gb1_, 5, none⟩ = some (.slice A0_5 l0_5.length c0_5) ∧ w'.cell? ⟨gb1_, 6, none⟩ = some (.slice A0_6 l0_6.length c0_6)) ∧ (w'.cell? ⟨gb2_, 0, none⟩ = some (.int .i64 a1_0) ∧ w'.cell? ⟨gb2_, 1, none⟩ = some (.int .i64 a1_1))) (ds := [16]) #[F, F, F, F, F, F, F, F, F, F, F, F, F, F, F, F, F, F] (by kernel_rfl) rfl rfl ⟨blk7_ BK1.out, blk2_ BK2.out⟩ (fun hHeld => ?_)
   clear Q1 Q2
   have hb := below_drew (Below.refl w3_.heap.size w3_)
   replace HS := aHs HS hb.size
   replace HO0_1 := aSb HO0_1 hb
   replace HO0_4 := aSb HO0_4 hb
   replace HO0_5 := aSb HO0_5 hb
   replace HO0_6 := aRb HO0_6 hb
   replace BK1 := aBb BK1 hb
   replace BK2 := aBb BK2 hb
   replace HK := A_.mk (HK.out.below hb)
   replace HB := aHB HB hb
   clear hb
   generalize w3_.drew = w18d_ at HO0_1 HO0_4 HO0_5 HO0_6 HK BK1 BK2 HB HS hHeld ⊢
   refine pd_ (i := 0) (N := some 16) #[T, F, F, F, F, F, F, F, F, F, F, F, F, F, F, F, F, F] rfl ?_
   refine pd_ (i := 1) (N := some 17) #[T, T, F, F, F, F, F, F, F, F, F, F, F, F, F, F, F, F] rfl ?_
   refine pd_ (i := 2) (N := some 18) #[T, T, T, F, F, F, F, F, F, F, F, F, F, F, F, F, F, F] rfl ?_
   refine tl_ (i := 3) (N := some 19) #[T, T, T, T, F, F, F, F, F, F, F, F, F, F, F, F, F, F] rfl hHeld ?_
   refine pd_ (i := 4) (N := some 20) #[T, T, T, T, T, F, F, F, F, F, F, F, F, F, F, F, F, F] rfl ?_
   refine tl_ (i := 5) (N := some 21) #[T, T, T, T, T, T, F, F, F, F, F, F, F, F, F, F, F, F] rfl hHeld ?_
   refine pd_ (i := 6) (N := some 22) #[T, T, T, T, T, T, T, F, F, F, F, F, F, F, F, F, F, F] rfl ?_
   refine pd_ (i := 7) (N := some 23) #[T, T, T, T, T, T, T, T, F, F, F, F, F, F, F, F, F, F] rfl ?_
   refine tl_ (i := 8) (N := some 24) #[T, T, T, T, T, T, T, T, T, F, F, F, F, F, F, F, F, F] rfl hHeld ?_
   refine pd_ (i := 9) (N := some 25) #[T, T, T, T, T, T, T, T, T, T, F, F, F, F, F, F, F, F] rfl ?_
   refine join_ (σ := Value × Value × Nat × Nat × Nat × (Nat → Nat)) 2 #[T, T, T, T, T, T, T, T, T, T, T, T, T, T, T, T, F, F] (fun s_ => [(26, s_.2.1), (27, .tuple #[.agg #[.int .i64 t3, s_.1, .int .i64 t5], .bool t6]), (15, .tuple #[.agg #[.int .i64 t3, s_.1, .int .i64 t5], .bool t6]), (28, .agg #[.int .i64 t3, s_.1, .int .i64 t5]), (29, .bool t6), (5, .pointer (some ⟨s_.2.2.1, 0, none⟩))]) (fun s_ w' => ((w'.cell? ⟨gb1_, 0, none⟩ = some (.int .i64 a0_0) ∧ w'.cell? ⟨gb1_, 1, none⟩ = some (.slice A0_1 l0_1.length c0_1) ∧ w'.cell? ⟨gb1_, 2, none⟩ = some (.int .i64 a0_2) ∧ w'.cell? ⟨gb1_, 3, none⟩ = some (.int .i64 a0_3) ∧ w'.cell? ⟨gb1_, 4, none⟩ = some (.slice A0_4 l0_4.length c0_4) ∧ w'.cell? ⟨gb1_, 5, none⟩ = some (.slice A0_5 l0_5.length c0_5) ∧ w'.cell? ⟨gb1_, 6, none⟩ = some (.slice A0_6 l0_6.length c0_6)) ∧ (w'.cell? ⟨gb2_, 0, none⟩ = some (.int .i64 a1_0) ∧ w'.cell? ⟨gb2_, 1, none⟩ = some (.int .i64 a1_1))) ∧ Kd.S (Kd.slice 3 (Kd.int .i64)) 32 w' w.heap.size (fun k_ => ((w.heap.size ≤ k_ ∧ k_ < w1.heap.size) ∧ k_ ≠ gb1_ ∧ f0_ k_ = 1)) (.slice A0_4 l0_4.length c0_4) l0_4 ∧ Kd.S (Kd.slice 3 (Kd.int .i64)) 32 w' w.heap.size (fun k_ => ((w.heap.size ≤ k_ ∧ k_ < w1.heap.size) ∧ k_ ≠ gb1_ ∧ f0_ k_ = 2)) (.slice A0_5 l0_5.length c0_5) l0_5 ∧ Kd.R (Kd.int .i64) 3 w' w.heap.size (fun k_ => ((w.heap.size ≤ k_ ∧ k_ < w1.heap.size) ∧ k_ ≠ gb1_ ∧ f0_ k_ = 3)) (.slice A0_6 l0_6.length c0_6) l0_6 ∧ w'.heap[gb1_]? = some (.cells #[.int .i64 a0_0, .slice A0_1 l0_1.length c0_1, .int .i64 a0_2, .int .i64 a0_3, .slice A0_4 l0_4.length c0_4, .slice A0_5 l0_5.length c0_5, .slice A0_6 l0_6.length c0_6] 34 (0, 0)) ∧ w'.heap[gb2_]? = some (.cells #[.int .i64 a1_0, .int .i64 a1_1] 39 (0, 0)) ∧ Kept w1 w' (fun k_ => k_ = gb1_ ∨ ((w.heap.size ≤ k_ ∧ k_ < w1.heap.size) ∧ k_ ≠ gb1_ ∧ f0_ k_ < 4)) ∧ Below w.heap.size w w' ∧ w18d_.heap.size ≤ w'.heap.size ∧ (w18d_.heap.size ≤ s_.2.2.2.1 ∧ s_.2.2.2.1 ≤ s_.2.2.2.2.1 ∧ s_.2.2.2.2.1 ≤ w'.heap.size) ∧ Kd.S k68 68 w' w.heap.size (fun k_ => (s_.2.2.2.1 ≤ k_ ∧ k_ < s_.2.2.2.2.1) ∧ s_.2.2.2.2.2 k_ = 0) s_.1 t4 ∧ w'.heap[s_.2.2.1]? = some (.cells #[.int .i64 0, .slice none 0 0, .int .i64 0] 28 (0, 0)) ∧ (w18d_.heap.size ≤ s_.2.2.1 ∧ s_.2.2.1 < w'.heap.size ∧ (s_.2.2.1 < s_.2.2.2.1 ∨ s_.2.2.2.2.1 ≤ s_.2.2.1))) ?_ ?_
   rotate_left
   ·intro hCont
    refine two_ (i := 10) (j := 15) (Ni := some 26) (Nj := some 5) #[T, T, T, T, T, T, T, T, T, T, T, F, F, F, F, F, F, F] #[T, T, T, T, T, T, T, T, T, T, F, F, F, F, F, T, F, F] rfl rfl rfl rfl (by kernel_rfl) (by decide) (by decide) (fun K hK => ?_) (fun K hK => ?_)
    ·skip
     refine Kd.R_lit_step (Kd.int .i64) (w0 := w) w.heap.size 3 (by rfl) (N := 26) rfl (xs := [(wrap64 (Int.tdiv a1_1 256)), (Int.tmod a1_1 256)]) (inner := [(.int .i64 (wrap64 (Int.tdiv a1_1 256))), (.int .i64 (Int.tmod a1_1 256))]) (ok := fun k_ => w18d_.heap.size ≤ k_) (okp := fun k_ => w18d_.heap.size ≤ k_) ?lR ?lP (fun _ hk => hk) (Nat.le_refl _) HB.out HB.out.size (by simp) ?_
     case lR => first | (go_simp; done) | (go_simp; rfl)
     case lP => exact (Reps.one (show Kd.M (Kd.int .i64) _ _ _ (wrap64 (Int.tdiv a1_1 256)) [.int .i64 (wrap64 (Int.tdiv a1_1 256))] from rfl) (Reps.one (show Kd.M (Kd.int .i64) _ _ _ (Int.tmod a1_1 256) [.int .i64 (Int.tmod a1_1 256)] from rfl) (Reps.none _ _)))
     intro v_ w4_ ho hbb hg_ hn_
     clear hn_
     rw [← Ny2.out] at ho
     have hkp : Kept w18d_ w4_ (fun k_ => k_ < 0) := Kept.of_grown hg_ (Kept.refl _ _) (fun k_ e_ => by cases e_)
     replace HK := A_.mk (HK.out.then_ hkp (fun k_ h_ => by have := HS.out; (try dsimp only at h_ ⊢); omega))
     replace HO0_1 := aSk HO0_1 hkp HS
     replace HO0_4 := aSk HO0_4 hkp HS
     replace HO0_5 := aSk HO0_5 hkp HS
     replace HO0_6 := aRk HO0_6 hkp HS
     replace BK1 := aBk BK1 hkp HS
     replace BK2 := aBk BK2 hkp HS
     replace HS := aHs HS hkp.1
     obtain ⟨Ao4, co4, ev_⟩ := Kd.R_slice ho
     subst ev_
     have HO4 := A_.mk (Kd.R_mono (ok' := (fun k_ => ((w18d_.heap.size ≤ k_ ∧ k_ < w4_.heap.size)))) (Kd.R_bound ho) (fun k_ hk_ => ⟨hk_.1, hk_.2.2.1⟩))
     replace HB := A_.mk hbb
     clear hkp hbb hg_ ho
     refine hK.out _ _ ⟨blk7_ BK1.out, blk2_ BK2.out⟩ (fun hHeld => ?_)
     clear hK K
     refine nm_ ?_
     refine two_ (i := 11) (j := 15) (Ni := some 27) (Nj := some 5) #[T, T, T, T, T, T, T, T, T, T, T, T, F, F, F, F, F, F] #[T, T, T, T, T, T, T, T, T, T, T, F, F, F, F, T, F, F] rfl rfl rfl rfl (by kernel_rfl) (by decide) (by decide) (fun K hK => ?_) (fun K hK => ?_)
     ·skip
      refine gz_ Try.func33 #[.agg #[.int .i64 a0_0, .slice A0_1 l0_1.length c0_1, .int .i64 a0_2], .slice Ao4 y2.length co4] ?_
      with_reducible refine (impl_QueueFrame.calls k a0_0 _ _ l0_1 a0_2 _ _ y2 t3 t4 t5 t6 _ (Kd.S_reads' HO0_1.out).2.2 (Kd.S_reads' HO0_1.out).2.1 (Kd.R_reads' HO4.out).2.2 (Kd.R_reads' HO4.out).2.1 A5.out).mono ?_
      rintro e w5_ ⟨f5_, v0_, rfl, ho0_, hb⟩
      refine ⟨_, rfl, ?_⟩
      replace HS := aHs HS hb.size
      obtain ⟨Ao5_0, co5_0, ev_⟩ := Kd.S_slice ho0_
      subst ev_
      have HO5_0 := aSn ho0_ HB.out.size
      replace HO0_1 := aSb HO0_1 hb
      replace HO0_4 := aSb HO0_4 hb
      replace HO0_5 := aSb HO0_5 hb
      replace HO0_6 := aRb HO0_6 hb
      replace HO4 := aRb HO4 hb
      replace BK1 := aBb BK1 hb
      replace BK2 := aBb BK2 hb
      replace HK := A_.mk (HK.out.below hb)
      replace HB := aHB HB hb
      clear hb ho0_
      refine hK.out _ _ ⟨blk7_ BK1.out, blk2_ BK2.out⟩ (fun hHeld => ?_)
      clear hK K
      refine nm_ ?_
      refine pd_ (i := 12) (N := some 15) #[T, T, T, T, T, T, T, T, T, T, T, T, T, F, F, F, F, F] rfl ?_
      refine pd_ (i := 13) (N := some 28) #[T, T, T, T, T, T, T, T, T, T, T, T, T, T, F, F, F, F] rfl ?_
      refine pd_ (i := 14) (N := some 29) #[T, T, T, T, T, T, T, T, T, T, T, T, T, T, T, F, F, F] rfl ?_
      refine on_ (i := 15) (N := some 5) #[T, T, T, T, T, T, T, T, T, T, T, T, T, T, T, T, F, F] rfl (fun K hK => ?_)
      refine box_step ?hg (N := 5) ?hd (cs := #[.int .i64 0, .slice none 0 0, .int .i64 0]) (t := 28) ?hr ?_; (case hd => rfl); (case hg => rfl); (case hr => first | (go_simp; done) | (go_simp; rfl))
      intro gb6_ hg w6_ hbox hb
      replace HS := A_.mk (And.intro HS.out (show gb6_ = w5_.heap.size ∧ gb6_ < w6_.heap.size from ⟨hg, blk_lt hbox⟩))
      replace HO0_1 := aSb HO0_1 hb
      replace HO0_4 := aSb HO0_4 hb
      replace HO0_5 := aSb HO0_5 hb
      replace HO0_6 := aRb HO0_6 hb
      replace HO4 := aRb HO4 hb
      replace HO5_0 := aSb HO5_0 hb
      replace BK1 := aBb BK1 hb
      replace BK2 := aBb BK2 hb
      replace HK := A_.mk (HK.out.below hb)
      replace HB := aHB HB hb
      have BK6 := A_.mk hbox
      clear hbox hb hg
      refine hK.out _ _ ⟨blk7_ BK1.out, blk2_ BK2.out⟩ (fun hHeld => ?_)
      clear hK K
      refine nm_ ?_
      exact norm_ (by simp only [putAll, Act.put, List.setIfInBounds_toArray, List.set_cons_zero, List.set_cons_succ]) (hCont (.slice Ao5_0 t4.length co5_0, .slice Ao4 y2.length co4, gb6_, (w4_.heap.size), (w5_.heap.size), f5_) _ ⟨hHeld, HO0_4.out, HO0_5.out, HO0_6.out, BK1.out, BK2.out, HK.out, HB.out, (by have := HS.out; omega), (by have := HS.out; (try dsimp only); omega), HO5_0.out, BK6.out, (by have := HS.out; (try dsimp only); omega)⟩)
     ·skip
      refine box_step ?hg (N := 5) ?hd (cs := #[.int .i64 0, .slice none 0 0, .int .i64 0]) (t := 28) ?hr ?_; (case hd => rfl); (case hg => rfl); (case hr => first | (go_simp; done) | (go_simp; rfl))
      intro gb6_ hg w6_ hbox hb
      replace HS := A_.mk (And.intro HS.out (show gb6_ = w4_.heap.size ∧ gb6_ < w6_.heap.size from ⟨hg, blk_lt hbox⟩))
      replace HO0_1 := aSb HO0_1 hb
      replace HO0_4 := aSb HO0_4 hb
      replace HO0_5 := aSb HO0_5 hb
      replace HO0_6 := aRb HO0_6 hb
      replace HO4 := aRb HO4 hb
      replace BK1 := aBb BK1 hb
      replace BK2 := aBb BK2 hb
      replace HK := A_.mk (HK.out.below hb)
      replace HB := aHB HB hb
      have BK6 := A_.mk hbox
      clear hbox hb hg
      refine hK.out _ _ ⟨blk7_ BK1.out, blk2_ BK2.out⟩ (fun hHeld => ?_)
      clear hK K
      refine nm_ ?_
      refine on_ (i := 11) (N := some 27) #[T, T, T, T, T, T, T, T, T, T, T, T, F, F, F, T, F, F] rfl (fun K hK => ?_)
      refine gz_ Try.func33 #[.agg #[.int .i64 a0_0, .slice A0_1 l0_1.length c0_1, .int .i64 a0_2], .slice Ao4 y2.length co4] ?_
      with_reducible refine (impl_QueueFrame.calls k a0_0 _ _ l0_1 a0_2 _ _ y2 t3 t4 t5 t6 _ (Kd.S_reads' HO0_1.out).2.2 (Kd.S_reads' HO0_1.out).2.1 (Kd.R_reads' HO4.out).2.2 (Kd.R_reads' HO4.out).2.1 A5.out).mono ?_
      rintro e w5_ ⟨f5_, v0_, rfl, ho0_, hb⟩
      refine ⟨_, rfl, ?_⟩
      replace HS := aHs HS hb.size
      obtain ⟨Ao5_0, co5_0, ev_⟩ := Kd.S_slice ho0_
      subst ev_
      have HO5_0 := aSn ho0_ HB.out.size
      replace HO0_1 := aSb HO0_1 hb
      replace HO0_4 := aSb HO0_4 hb
      replace HO0_5 := aSb HO0_5 hb
      replace HO0_6 := aRb HO0_6 hb
      replace HO4 := aRb HO4 hb
      replace BK1 := aBb BK1 hb
      replace BK2 := aBb BK2 hb
      replace BK6 := aBb BK6 hb
      replace HK := A_.mk (HK.out.below hb)
      replace HB := aHB HB hb
      clear hb ho0_
      refine hK.out _ _ ⟨blk7_ BK1.out, blk2_ BK2.out⟩ (fun hHeld => ?_)
      clear hK K
      refine nm_ ?_
      refine pd_ (i := 12) (N := some 15) #[T, T, T, T, T, T, T, T, T, T, T, T, T, F, F, T, F, F] rfl ?_
      refine pd_ (i := 13) (N := some 28) #[T, T, T, T, T, T, T, T, T, T, T, T, T, T, F, T, F, F] rfl ?_
      refine pd_ (i := 14) (N := some 29) #[T, T, T, T, T, T, T, T, T, T, T, T, T, T, T, T, F, F] rfl ?_
      exact norm_ (by simp only [putAll, Act.put, List.setIfInBounds_toArray, List.set_cons_zero, List.set_cons_succ]) (hCont (.slice Ao5_0 t4.length co5_0, .slice Ao4 y2.length co4, gb6_, (w6_.heap.size), (w5_.heap.size), f5_) _ ⟨hHeld, HO0_4.out, HO0_5.out, HO0_6.out, BK1.out, BK2.out, HK.out, HB.out, (by have := HS.out; omega), (by have := HS.out; (try dsimp only); omega), HO5_0.out, BK6.out, (by have := HS.out; (try dsimp only); omega)⟩)
    ·skip
     refine box_step ?hg (N := 5) ?hd (cs := #[.int .i64 0, .slice none 0 0, .int .i64 0]) (t := 28) ?hr ?_; (case hd => rfl); (case hg => rfl); (case hr => first | (go_simp; done) | (go_simp; rfl))
     intro gb6_ hg w6_ hbox hb
     replace HS := A_.mk (And.intro HS.out (show gb6_ = w18d_.heap.size ∧ gb6_ < w6_.heap.size from ⟨hg, blk_lt hbox⟩))
     replace HO0_1 := aSb HO0_1 hb
     replace HO0_4 := aSb HO0_4 hb
     replace HO0_5 := aSb HO0_5 hb
     replace HO0_6 := aRb HO0_6 hb
     replace BK1 := aBb BK1 hb
     replace BK2 := aBb BK2 hb
     replace HK := A_.mk (HK.out.below hb)
     replace HB := aHB HB hb
     have BK6 := A_.mk hbox
     clear hbox hb hg
     refine hK.out _ _ ⟨blk7_ BK1.out, blk2_ BK2.out⟩ (fun hHeld => ?_)
     clear hK K
     refine nm_ ?_
     refine on_ (i := 10) (N := some 26) #[T, T, T, T, T, T, T, T, T, T, T, F, F, F, F, T, F, F] rfl (fun K hK => ?_)
     refine Kd.R_lit_step (Kd.int .i64) (w0 := w) w.heap.size 3 (by rfl) (N := 26) rfl (xs := [(wrap64 (Int.tdiv a1_1 256)), (Int.tmod a1_1 256)]) (inner := [(.int .i64 (wrap64 (Int.tdiv a1_1 256))), (.int .i64 (Int.tmod a1_1 256))]) (ok := fun k_ => w6_.heap.size ≤ k_) (okp := fun k_ => w6_.heap.size ≤ k_) ?lR ?lP (fun _ hk => hk) (Nat.le_refl _) HB.out HB.out.size (by simp) ?_
     case lR => first | (go_simp; done) | (go_simp; rfl)
     case lP => exact (Reps.one (show Kd.M (Kd.int .i64) _ _ _ (wrap64 (Int.tdiv a1_1 256)) [.int .i64 (wrap64 (Int.tdiv a1_1 256))] from rfl) (Reps.one (show Kd.M (Kd.int .i64) _ _ _ (Int.tmod a1_1 256) [.int .i64 (Int.tmod a1_1 256)] from rfl) (Reps.none _ _)))
     intro v_ w4_ ho hbb hg_ hn_
     clear hn_
     rw [← Ny2.out] at ho
     have hkp : Kept w6_ w4_ (fun k_ => k_ < 0) := Kept.of_grown hg_ (Kept.refl _ _) (fun k_ e_ => by cases e_)
     replace HK := A_.mk (HK.out.then_ hkp (fun k_ h_ => by have := HS.out; (try dsimp only at h_ ⊢); omega))
     replace HO0_1 := aSk HO0_1 hkp HS
     replace HO0_4 := aSk HO0_4 hkp HS
     replace HO0_5 := aSk HO0_5 hkp HS
     replace HO0_6 := aRk HO0_6 hkp HS
     replace BK1 := aBk BK1 hkp HS
     replace BK2 := aBk BK2 hkp HS
     replace BK6 := aBk BK6 hkp HS
     replace HS := aHs HS hkp.1
     obtain ⟨Ao4, co4, ev_⟩ := Kd.R_slice ho
     subst ev_
     have HO4 := A_.mk (Kd.R_mono (ok' := (fun k_ => ((w6_.heap.size ≤ k_ ∧ k_ < w4_.heap.size)))) (Kd.R_bound ho) (fun k_ hk_ => ⟨hk_.1, hk_.2.2.1⟩))
     replace HB := A_.mk hbb
     clear hkp hbb hg_ ho
     refine hK.out _ _ ⟨blk7_ BK1.out, blk2_ BK2.out⟩ (fun hHeld => ?_)
     clear hK K
     refine nm_ ?_
     refine on_ (i := 11) (N := some 27) #[T, T, T, T, T, T, T, T, T, T, T, T, F, F, F, T, F, F] rfl (fun K hK => ?_)
     refine gz_ Try.func33 #[.agg #[.int .i64 a0_0, .slice A0_1 l0_1.length c0_1, .int .i64 a0_2], .slice Ao4 y2.length co4] ?_
     with_reducible refine (impl_QueueFrame.calls k a0_0 _ _ l0_1 a0_2 _ _ y2 t3 t4 t5 t6 _ (Kd.S_reads' HO0_1.out).2.2 (Kd.S_reads' HO0_1.out).2.1 (Kd.R_reads' HO4.out).2.2 (Kd.R_reads' HO4.out).2.1 A5.out).mono ?_
     rintro e w5_ ⟨f5_, v0_, rfl, ho0_, hb⟩
     refine ⟨_, rfl, ?_⟩
     replace HS := aHs HS hb.size
     obtain ⟨Ao5_0, co5_0, ev_⟩ := Kd.S_slice ho0_
     subst ev_
     have HO5_0 := aSn ho0_ HB.out.size
     replace HO0_1 := aSb HO0_1 hb
     replace HO0_4 := aSb HO0_4 hb
     replace HO0_5 := aSb HO0_5 hb
     replace HO0_6 := aRb HO0_6 hb
     replace HO4 := aRb HO4 hb
     replace BK1 := aBb BK1 hb
     replace BK2 := aBb BK2 hb
     replace BK6 := aBb BK6 hb
     replace HK := A_.mk (HK.out.below hb)
     replace HB := aHB HB hb
     clear hb ho0_
     refine hK.out _ _ ⟨blk7_ BK1.out, blk2_ BK2.out⟩ (fun hHeld => ?_)
     clear hK K
     refine nm_ ?_
     refine pd_ (i := 12) (N := some 15) #[T, T, T, T, T, T, T, T, T, T, T, T, T, F, F, T, F, F] rfl ?_
     refine pd_ (i := 13) (N := some 28) #[T, T, T, T, T, T, T, T, T, T, T, T, T, T, F, T, F, F] rfl ?_
     refine pd_ (i := 14) (N := some 29) #[T, T, T, T, T, T, T, T, T, T, T, T, T, T, T, T, F, F] rfl ?_
     exact norm_ (by simp only [putAll, Act.put, List.setIfInBounds_toArray, List.set_cons_zero, List.set_cons_succ]) (hCont (.slice Ao5_0 t4.length co5_0, .slice Ao4 y2.length co4, gb6_, (w4_.heap.size), (w5_.heap.size), f5_) _ ⟨hHeld, HO0_4.out, HO0_5.out, HO0_6.out, BK1.out, BK2.out, HK.out, HB.out, (by have := HS.out; omega), (by have := HS.out; (try dsimp only); omega), HO5_0.out, BK6.out, (by have := HS.out; (try dsimp only); omega)⟩)
   rintro ⟨z0_, z1_, gb6_, lo18j_, up18j_, f5_⟩ w18j_ ⟨hHeld, m0_, m1_, m2_, m3_, m4_, m5_, m6_, m7_, m8_, m9_, m10_, m11_⟩
   replace HO0_4 := A_.mk m0_
   replace HO0_5 := A_.mk m1_
   replace HO0_6 := A_.mk m2_
   replace BK1 := A_.mk m3_
   replace BK2 := A_.mk m4_
   replace HK := A_.mk m5_
   replace HB := A_.mk m6_
   replace HS := A_.mk (And.intro HS.out m7_)
   replace HS := A_.mk (And.intro HS.out (show w18d_.heap.size ≤ lo18j_ ∧ lo18j_ ≤ up18j_ ∧ up18j_ ≤ w18j_.heap.size from m8_))
   obtain ⟨Ao5_0, co5_0, ev_⟩ := Kd.S_slice m9_
   replace ev_ : z0_ = _ := ev_
   subst ev_
   have HO5_0 := A_.mk (show Kd.S k68 68 w18j_ w.heap.size (fun k_ => ((lo18j_ ≤ k_ ∧ k_ < up18j_) ∧ f5_ k_ = 0)) (.slice Ao5_0 t4.length co5_0) t4 from m9_)
   have BK6 := A_.mk (show w18j_.heap[gb6_]? = some (.cells #[.int .i64 0, .slice none 0 0, .int .i64 0] 28 (0, 0)) from m10_)
   replace HS := A_.mk (And.intro HS.out (show w18d_.heap.size ≤ gb6_ ∧ gb6_ < w18j_.heap.size ∧ (gb6_ < lo18j_ ∨ up18j_ ≤ gb6_) from m11_))
   clear m0_ m1_ m2_ m3_ m4_ m5_ m6_ m7_ m8_ m9_ m10_ m11_
   refine norm_ (a' := ?_) ?_ ?_
   rotate_left
   ·simp only [putAll, Act.put, List.setIfInBounds_toArray, List.set_cons_zero, List.set_cons_succ]
    rfl
   refine last_ (i := 16) (N := none) #[T, T, T, T, T, T, T, T, T, T, T, T, T, T, T, T, T, F] rfl rfl (by kernel_rfl) (by decide) (fun K hK => ?_)
   have Q1 := blk7_ BK1.out
   have Q2 := blk2_ BK2.out
   have Q6 := blk3_ BK6.out
   have qf0 := bf_ BK6.out 0; have qf1 := bf_ BK6.out 1; have qf2 := bf_ BK6.out 2
   obtain ⟨w7_, hw⟩ : ∃ q_ : World, q_ = (ch3_ w18j_ gb6_ (.int .i64 t3) (.slice Ao5_0 t4.length co5_0) (.int .i64 t5)) := ⟨_, rfl⟩
   refine skip_ (w1 := w7_) (by rfl) rfl ?_ ?_
   ·rw [hw]; go_simp; try rfl
   refine hK.out _ _ ?_
   clear hK K qf0 qf1 qf2 Q1 Q2 Q6
   obtain ⟨hbx, hkp, hbb⟩ := st3_ hw BK6 HB (by have := HS.out; omega)
   clear hw
   replace HK := A_.mk (HK.out.then_ hkp (fun k_ h_ => by have := HS.out; (try dsimp only at h_ ⊢); omega))
   replace HO0_4 := aSk HO0_4 hkp HS
   replace HO0_5 := aSk HO0_5 hkp HS
   replace HO0_6 := aRk HO0_6 hkp HS
   replace HO5_0 := aSk HO5_0 hkp HS
   replace BK1 := aBk BK1 hkp HS
   replace BK2 := aBk BK2 hkp HS
   replace BK6 := A_.mk hbx
   replace HB := A_.mk hbb
   replace HS := aHs HS hkp.1
   clear hkp hbb hbx
   refine pd_ (i := 17) (N := some 6) #[T, T, T, T, T, T, T, T, T, T, T, T, T, T, T, T, T, T] rfl ?_
   refine done_ (by kernel_rfl) ?_
   have Q1 := blk7_ BK1.out
   have Q2 := blk2_ BK2.out
   have Q6 := blk3_ BK6.out
   go_wp2_with (first | ((with_reducible refine gate_store (t := 28) (p := 33) rfl ?_); have qf0 := bf_ BK1.out 0; have qf1 := bf_ BK1.out 1; have qf2 := bf_ BK1.out 2; refine se_ (t := 28) (p := 33) (v := ?vo_8) (w1 := (((w7_.setCell ⟨gb1_, 0, none⟩ (.int .i64 t3)).setCell ⟨gb1_, 1, none⟩ (.slice Ao5_0 t4.length co5_0)).setCell ⟨gb1_, 2, none⟩ (.int .i64 t5))) ?hg ?ho ?hn ?hr ?_; (case ho => rfl); (case hg => rfl); (case hn => rfl); (case hr => first | (go_simp; done) | (go_simp; rfl)); intro w8_ hw; clear qf0 qf1 qf2; have hge : w.heap.size ≤ gb1_ := (by have := HS.out; omega); have hkp : Kept w7_ w8_ (fun k_ => k_ = gb1_) := (by rw [hw]; exact (Kept.of_set (Kept.of_set (Kept.of_set (Kept.refl _ _) _ _) _ _) _ _)); have hbb : Below w.heap.size w w8_ := (by rw [hw]; exact (bs_ (bs_ (bs_ HB.out hge) hge) hge)); have hbx : w8_.heap[gb1_]? = some (.cells #[.int .i64 t3, .slice Ao5_0 t4.length co5_0, .int .i64 t5, .int .i64 a0_3, .slice A0_4 l0_4.length c0_4, .slice A0_5 l0_5.length c0_5, .slice A0_6 l0_6.length c0_6] 34 (0, 0)) := (by rw [hw]; exact (bp_ (cs := #[.int .i64 t3, .slice Ao5_0 t4.length co5_0, .int .i64 a0_2, .int .i64 a0_3, .slice A0_4 l0_4.length c0_4, .slice A0_5 l0_5.length c0_5, .slice A0_6 l0_6.length c0_6]) (bp_ (cs := #[.int .i64 t3, .slice A0_1 l0_1.length c0_1, .int .i64 a0_2, .int .i64 a0_3, .slice A0_4 l0_4.length c0_4, .slice A0_5 l0_5.length c0_5, .slice A0_6 l0_6.length c0_6]) (bp_ (cs := #[.int .i64 a0_0, .slice A0_1 l0_1.length c0_1, .int .i64 a0_2, .int .i64 a0_3, .slice A0_4 l0_4.length c0_4, .slice A0_5 l0_5.length c0_5, .slice A0_6 l0_6.length c0_6]) BK1.out 0 _ rfl) 1 _ rfl) 2 _ rfl)); clear hw; replace HK := A_.mk (HK.out.then_ hkp (fun k_ h_ => by have := HS.out; (try dsimp only at h_ ⊢); omega)); replace HO0_4 := aSk HO0_4 hkp HS; replace HO0_5 := aSk HO0_5 hkp HS; replace HO0_6 := aRk HO0_6 hkp HS; replace HO5_0 := aSk HO5_0 hkp HS; replace BK2 := aBk BK2 hkp HS; replace BK6 := aBk BK6 hkp HS; replace BK1 := A_.mk hbx; replace HB := A_.mk hbb; replace HS := aHs HS hkp.1; clear hkp hbb hbx hge Q1 Q2 Q6; have Q1 := blk7_ BK1.out; have Q2 := blk2_ BK2.out; have Q6 := blk3_ BK6.out))
   go_ret
   obtain ⟨f_, hf_⟩ : ∃ f_ : Nat → Nat, ∀ k_, f_ k_ = (if ((lo18j_ ≤ k_ ∧ k_ < up18j_) ∧ f5_ k_ = 0) then 0 else (if ((w.heap.size ≤ k_ ∧ k_ < w1.heap.size) ∧ k_ ≠ gb1_ ∧ f0_ k_ = 1) then 1 else (if ((w.heap.size ≤ k_ ∧ k_ < w1.heap.size) ∧ k_ ≠ gb1_ ∧ f0_ k_ = 2) then 2 else (if ((w.heap.size ≤ k_ ∧ k_ < w1.heap.size) ∧ k_ ≠ gb1_ ∧ f0_ k_ = 3) then 3 else 4)))) := ⟨fun k_ => (if ((lo18j_ ≤ k_ ∧ k_ < up18j_) ∧ f5_ k_ = 0) then 0 else (if ((w.heap.size ≤ k_ ∧ k_ < w1.heap.size) ∧ k_ ≠ gb1_ ∧ f0_ k_ = 1) then 1 else (if ((w.heap.size ≤ k_ ∧ k_ < w1.heap.size) ∧ k_ ≠ gb1_ ∧ f0_ k_ = 2) then 2 else (if ((w.heap.size ≤ k_ ∧ k_ < w1.heap.size) ∧ k_ ≠ gb1_ ∧ f0_ k_ = 3) then 3 else 4)))), fun _ => rfl⟩
   have hcol0_ : ∀ k_, (((lo18j_ ≤ k_ ∧ k_ < up18j_) ∧ f5_ k_ = 0)) → ((w.heap.size ≤ k_ ∧ k_ < w8_.heap.size) ∧ k_ ≠ gb1_ ∧ f_ k_ = 0) := fun k_ hk_ => ⟨by have := HS.out; omega, by have := HS.out; omega, by rw [hf_]; have := HS.out; repeat' (first | omega | split)⟩
   have hcol1_ : ∀ k_, (((w.heap.size ≤ k_ ∧ k_ < w1.heap.size) ∧ k_ ≠ gb1_ ∧ f0_ k_ = 1)) → ((w.heap.size ≤ k_ ∧ k_ < w8_.heap.size) ∧ k_ ≠ gb1_ ∧ f_ k_ = 1) := fun k_ hk_ => ⟨by have := HS.out; omega, by have := HS.out; omega, by rw [hf_]; have := HS.out; repeat' (first | omega | split)⟩
   have hcol2_ : ∀ k_, (((w.heap.size ≤ k_ ∧ k_ < w1.heap.size) ∧ k_ ≠ gb1_ ∧ f0_ k_ = 2)) → ((w.heap.size ≤ k_ ∧ k_ < w8_.heap.size) ∧ k_ ≠ gb1_ ∧ f_ k_ = 2) := fun k_ hk_ => ⟨by have := HS.out; omega, by have := HS.out; omega, by rw [hf_]; have := HS.out; repeat' (first | omega | split)⟩
   have hcol3_ : ∀ k_, (((w.heap.size ≤ k_ ∧ k_ < w1.heap.size) ∧ k_ ≠ gb1_ ∧ f0_ k_ = 3)) → ((w.heap.size ≤ k_ ∧ k_ < w8_.heap.size) ∧ k_ ≠ gb1_ ∧ f_ k_ = 3) := fun k_ hk_ => ⟨by have := HS.out; omega, by have := HS.out; omega, by rw [hf_]; have := HS.out; repeat' (first | omega | split)⟩
   have hfk_ : ∀ k_, k_ < w1.heap.size → f_ k_ < 4 → k_ = gb1_ ∨ f0_ k_ < 4 := fun k_ h1_ h2_ => by have := HS.out; rw [hf_] at h2_; repeat' (first | omega | split at h2_)
   first | exact ⟨f_, _, _, _, _, rfl, BK1.out, Kd.S_mono HO5_0.out hcol0_, Kd.S_mono HO0_4.out hcol1_, Kd.S_mono HO0_5.out hcol2_, Kd.R_mono HO0_6.out hcol3_, hfk_, HB.out, HK.out⟩ | exact ⟨rfl, f_, _, _, _, _, BK1.out, Kd.S_mono HO5_0.out hcol0_, Kd.S_mono HO0_4.out hcol1_, Kd.S_mono HO0_5.out hcol2_, Kd.R_mono HO0_6.out hcol3_, hfk_, HB.out, HK.out⟩
  rw [if_neg hc2_] at H
  replace hc2_ := eq_false_of_ne_true hc2_
  subst hc2_
  simp only [Option.some.injEq, Prod.mk.injEq] at H
  obtain ⟨rfl, rfl, rfl, rfl, rfl, rfl, rfl, rfl⟩ := H
  go_wp2
  go_ret
  obtain ⟨f_, hf_⟩ : ∃ f_ : Nat → Nat, ∀ k_, f_ k_ = (if ((w.heap.size ≤ k_ ∧ k_ < w1.heap.size) ∧ k_ ≠ gb1_ ∧ f0_ k_ = 0) then 0 else (if ((w.heap.size ≤ k_ ∧ k_ < w1.heap.size) ∧ k_ ≠ gb1_ ∧ f0_ k_ = 1) then 1 else (if ((w.heap.size ≤ k_ ∧ k_ < w1.heap.size) ∧ k_ ≠ gb1_ ∧ f0_ k_ = 2) then 2 else (if ((w.heap.size ≤ k_ ∧ k_ < w1.heap.size) ∧ k_ ≠ gb1_ ∧ f0_ k_ = 3) then 3 else 4)))) := ⟨fun k_ => (if ((w.heap.size ≤ k_ ∧ k_ < w1.heap.size) ∧ k_ ≠ gb1_ ∧ f0_ k_ = 0) then 0 else (if ((w.heap.size ≤ k_ ∧ k_ < w1.heap.size) ∧ k_ ≠ gb1_ ∧ f0_ k_ = 1) then 1 else (if ((w.heap.size ≤ k_ ∧ k_ < w1.heap.size) ∧ k_ ≠ gb1_ ∧ f0_ k_ = 2) then 2 else (if ((w.heap.size ≤ k_ ∧ k_ < w1.heap.size) ∧ k_ ≠ gb1_ ∧ f0_ k_ = 3) then 3 else 4)))), fun _ => rfl⟩
  have hcol0_ : ∀ k_, (((w.heap.size ≤ k_ ∧ k_ < w1.heap.size) ∧ k_ ≠ gb1_ ∧ f0_ k_ = 0)) → ((w.heap.size ≤ k_ ∧ k_ < w3_.heap.size) ∧ k_ ≠ gb1_ ∧ f_ k_ = 0) := fun k_ hk_ => ⟨by have := HS.out; omega, by have := HS.out; omega, by rw [hf_]; have := HS.out; repeat' (first | omega | split)⟩
  have hcol1_ : ∀ k_, (((w.heap.size ≤ k_ ∧ k_ < w1.heap.size) ∧ k_ ≠ gb1_ ∧ f0_ k_ = 1)) → ((w.heap.size ≤ k_ ∧ k_ < w3_.heap.size) ∧ k_ ≠ gb1_ ∧ f_ k_ = 1) := fun k_ hk_ => ⟨by have := HS.out; omega, by have := HS.out; omega, by rw [hf_]; have := HS.out; repeat' (first | omega | split)⟩
  have hcol2_ : ∀ k_, (((w.heap.size ≤ k_ ∧ k_ < w1.heap.size) ∧ k_ ≠ gb1_ ∧ f0_ k_ = 2)) → ((w.heap.size ≤ k_ ∧ k_ < w3_.heap.size) ∧ k_ ≠ gb1_ ∧ f_ k_ = 2) := fun k_ hk_ => ⟨by have := HS.out; omega, by have := HS.out; omega, by rw [hf_]; have := HS.out; repeat' (first | omega | split)⟩
  have hcol3_ : ∀ k_, (((w.heap.size ≤ k_ ∧ k_ < w1.heap.size) ∧ k_ ≠ gb1_ ∧ f0_ k_ = 3)) → ((w.heap.size ≤ k_ ∧ k_ < w3_.heap.size) ∧ k_ ≠ gb1_ ∧ f_ k_ = 3) := fun k_ hk_ => ⟨by have := HS.out; omega, by have := HS.out; omega, by rw [hf_]; have := HS.out; repeat' (first | omega | split)⟩
  have hfk_ : ∀ k_, k_ < w1.heap.size → f_ k_ < 4 → k_ = gb1_ ∨ f0_ k_ < 4 := fun k_ h1_ h2_ => by have := HS.out; rw [hf_] at h2_; repeat' (first | omega | split at h2_)
  first | exact ⟨f_, _, _, _, _, rfl, BK1.out, Kd.S_mono HO0_1.out hcol0_, Kd.S_mono HO0_4.out hcol1_, Kd.S_mono HO0_5.out hcol2_, Kd.R_mono HO0_6.out hcol3_, hfk_, HB.out, HK.out⟩ | exact ⟨rfl, f_, _, _, _, _, BK1.out, Kd.S_mono HO0_1.out hcol0_, Kd.S_mono HO0_4.out hcol1_, Kd.S_mono HO0_5.out hcol2_, Kd.R_mono HO0_6.out hcol3_, hfk_, HB.out, HK.out⟩
 rw [if_neg hc1_] at H
 have hc1_b0 : (a1_0 == 7) = false := beq_eq_false_iff_ne.mpr hc1_
 have hc1_bn : (a1_0 != 7) = true := bne_iff_ne.mpr hc1_
 by_cases hc3_ : a1_0 = 1
 case pos =>
  rw [if_pos hc3_] at H
  have hc3_b0 : (a1_0 == 1) = true := beq_iff_eq.mpr hc3_
  have hc3_bn : (a1_0 != 1) = false := bne_eq_false_iff_eq.mpr hc3_
  replace hc3_ := A_.mk hc3_
  replace H := oa_ H
  obtain ⟨⟨t7, t8, t9, t10, t11, t12, t13, t14⟩, A9, H⟩ := H
  try dsimp only at H
  simp only [Option.some.injEq, Prod.mk.injEq] at H
  obtain ⟨rfl, rfl, rfl, rfl, rfl, rfl, rfl, rfl⟩ := H
  have hu28 := Try.underlying28
  have hu34 := Try.underlying34
  have hu39 := Try.underlying39
  go_enter Try.func15, Try.ntmps15
  have Q1 := blk7_ BK1.out
  go_wp2_with (first | ((with_reducible refine gd_ (N := 3) rfl ?_); refine by_ 3 (cs := #[.int .i64 a1_0, .int .i64 a1_1]) (t := 39) ?_; intro gb2_ hg w2_ hbox hb; replace HS := A_.mk (And.intro HS.out (show gb2_ = w1.heap.size ∧ gb2_ < w2_.heap.size from ⟨hg, blk_lt hbox⟩)); replace HO0_1 := aSb HO0_1 hb; replace HO0_4 := aSb HO0_4 hb; replace HO0_5 := aSb HO0_5 hb; replace HO0_6 := aRb HO0_6 hb; replace BK1 := aBb BK1 hb; replace HK := A_.mk (HK.out.below hb); replace HB := aHB HB hb; have BK2 := A_.mk hbox; clear hbox hb hg Q1; have Q1 := blk7_ BK1.out; have Q2 := blk2_ BK2.out))
  obtain ⟨fp9_, hfp_⟩ : ∃ f_ : Nat → Nat, ∀ k_, f_ k_ = (if ((w.heap.size ≤ k_ ∧ k_ < w1.heap.size) ∧ k_ ≠ gb1_ ∧ f0_ k_ = 0) then 0 else (if ((w.heap.size ≤ k_ ∧ k_ < w1.heap.size) ∧ k_ ≠ gb1_ ∧ f0_ k_ = 1) then 1 else (if ((w.heap.size ≤ k_ ∧ k_ < w1.heap.size) ∧ k_ ≠ gb1_ ∧ f0_ k_ = 2) then 2 else (if ((w.heap.size ≤ k_ ∧ k_ < w1.heap.size) ∧ k_ ≠ gb1_ ∧ f0_ k_ = 3) then 3 else 4)))) := ⟨fun k_ => (if ((w.heap.size ≤ k_ ∧ k_ < w1.heap.size) ∧ k_ ≠ gb1_ ∧ f0_ k_ = 0) then 0 else (if ((w.heap.size ≤ k_ ∧ k_ < w1.heap.size) ∧ k_ ≠ gb1_ ∧ f0_ k_ = 1) then 1 else (if ((w.heap.size ≤ k_ ∧ k_ < w1.heap.size) ∧ k_ ≠ gb1_ ∧ f0_ k_ = 2) then 2 else (if ((w.heap.size ≤ k_ ∧ k_ < w1.heap.size) ∧ k_ ≠ gb1_ ∧ f0_ k_ = 3) then 3 else 4)))), fun _ => rfl⟩
  have hcp1_ : ∀ k_, (((w.heap.size ≤ k_ ∧ k_ < w1.heap.size) ∧ k_ ≠ gb1_ ∧ f0_ k_ = 0)) → ((w.heap.size ≤ k_ ∧ k_ < w2_.heap.size) ∧ k_ ≠ gb1_ ∧ fp9_ k_ = 0) := fun k_ hk_ => ⟨by have := HS.out; omega, by have := HS.out; first | omega | (intro he_; subst he_; omega), by rw [hfp_]; have := HS.out; repeat' (first | omega | split)⟩
  have hcp4_ : ∀ k_, (((w.heap.size ≤ k_ ∧ k_ < w1.heap.size) ∧ k_ ≠ gb1_ ∧ f0_ k_ = 1)) → ((w.heap.size ≤ k_ ∧ k_ < w2_.heap.size) ∧ k_ ≠ gb1_ ∧ fp9_ k_ = 1) := fun k_ hk_ => ⟨by have := HS.out; omega, by have := HS.out; first | omega | (intro he_; subst he_; omega), by rw [hfp_]; have := HS.out; repeat' (first | omega | split)⟩
  have hcp5_ : ∀ k_, (((w.heap.size ≤ k_ ∧ k_ < w1.heap.size) ∧ k_ ≠ gb1_ ∧ f0_ k_ = 2)) → ((w.heap.size ≤ k_ ∧ k_ < w2_.heap.size) ∧ k_ ≠ gb1_ ∧ fp9_ k_ = 2) := fun k_ hk_ => ⟨by have := HS.out; omega, by have := HS.out; first | omega | (intro he_; subst he_; omega), by rw [hfp_]; have := HS.out; repeat' (first | omega | split)⟩
  have hcp6_ : ∀ k_, (((w.heap.size ≤ k_ ∧ k_ < w1.heap.size) ∧ k_ ≠ gb1_ ∧ f0_ k_ = 3)) → ((w.heap.size ≤ k_ ∧ k_ < w2_.heap.size) ∧ k_ ≠ gb1_ ∧ fp9_ k_ = 3) := fun k_ hk_ => ⟨by have := HS.out; omega, by have := HS.out; first | omega | (intro he_; subst he_; omega), by rw [hfp_]; have := HS.out; repeat' (first | omega | split)⟩
  have hfb2_ : fp9_ gb2_ = 4 := by rw [hfp_]; have := HS.out; repeat' (first | omega | split)
  refine (impl_Link_send.calls k gb1_ fp9_ a0_0 _ _ l0_1 a0_2 a0_3 _ _ l0_4 _ _ l0_5 _ _ l0_6 t7 t8 t9 t10 t11 t12 t13 t14 w _ HB.out (by have := HS.out; omega) BK1.out (Kd.S_mono HO0_1.out hcp1_) (Kd.S_mono HO0_4.out hcp4_) (Kd.S_mono HO0_5.out hcp5_) (Kd.R_mono HO0_6.out hcp6_) A9.out).mono ?_
  rintro e w9_ ⟨f9_, v0_, v1_, v2_, v3_, rfl, hbx_, ho1_, ho2_, ho3_, ho4_, hfk_, hbb, hkp⟩
  replace HK := A_.mk (HK.out.then_ hkp (fun k_ h_ => by have := HS.out; have h3_ := hfp_ k_; (try dsimp only at h_ ⊢); repeat' (first | omega | split at h3_)))
  have hge2_ : 4 ≤ f9_ gb2_ := by have h1_ := hfk_ gb2_ (blk_lt BK2.out); have := hfb2_; have := HS.out; omega
  have HF9 := A_.mk hfk_
  have HFP9 := A_.mk hfp_
  replace BK2 := A_.mk ((hkp.2 _ (blk_lt BK2.out) (fun _ => by have := hfb2_; have := HS.out; omega)).trans BK2.out)
  replace BK1 := A_.mk hbx_
  replace HB := A_.mk hbb
  replace HS := aHs HS hkp.1
  replace HS := aHs HS hge2_
  clear hfk_ hge2_
  obtain ⟨Ao9_0, co9_0, ev_⟩ := Kd.S_slice ho1_
  subst ev_
  have HO9_0 := A_.mk ho1_
  obtain ⟨Ao9_1, co9_1, ev_⟩ := Kd.S_slice ho2_
  subst ev_
  have HO9_1 := A_.mk ho2_
  obtain ⟨Ao9_2, co9_2, ev_⟩ := Kd.S_slice ho3_
  subst ev_
  have HO9_2 := A_.mk ho3_
  obtain ⟨Ao9_3, co9_3, ev_⟩ := Kd.R_slice ho4_
  subst ev_
  have HO9_3 := A_.mk ho4_
  clear hkp hbx_ hbb hfp_ hcp1_ hcp4_ hcp5_ hcp6_ ho1_ ho2_ ho3_ ho4_ hfb2_ Q1 Q2
  have Q1 := blk7_ BK1.out
  have Q2 := blk2_ BK2.out
  go_wp2
  go_ret
  obtain ⟨f_, hf_⟩ : ∃ f_ : Nat → Nat, ∀ k_, f_ k_ = (if ((w.heap.size ≤ k_ ∧ k_ < w9_.heap.size) ∧ k_ ≠ gb1_ ∧ f9_ k_ = 0) then 0 else (if ((w.heap.size ≤ k_ ∧ k_ < w9_.heap.size) ∧ k_ ≠ gb1_ ∧ f9_ k_ = 1) then 1 else (if ((w.heap.size ≤ k_ ∧ k_ < w9_.heap.size) ∧ k_ ≠ gb1_ ∧ f9_ k_ = 2) then 2 else (if ((w.heap.size ≤ k_ ∧ k_ < w9_.heap.size) ∧ k_ ≠ gb1_ ∧ f9_ k_ = 3) then 3 else 4)))) := ⟨fun k_ => (if ((w.heap.size ≤ k_ ∧ k_ < w9_.heap.size) ∧ k_ ≠ gb1_ ∧ f9_ k_ = 0) then 0 else (if ((w.heap.size ≤ k_ ∧ k_ < w9_.heap.size) ∧ k_ ≠ gb1_ ∧ f9_ k_ = 1) then 1 else (if ((w.heap.size ≤ k_ ∧ k_ < w9_.heap.size) ∧ k_ ≠ gb1_ ∧ f9_ k_ = 2) then 2 else (if ((w.heap.size ≤ k_ ∧ k_ < w9_.heap.size) ∧ k_ ≠ gb1_ ∧ f9_ k_ = 3) then 3 else 4)))), fun _ => rfl⟩
  have hcol0_ : ∀ k_, (((w.heap.size ≤ k_ ∧ k_ < w9_.heap.size) ∧ k_ ≠ gb1_ ∧ f9_ k_ = 0)) → ((w.heap.size ≤ k_ ∧ k_ < w9_.heap.size) ∧ k_ ≠ gb1_ ∧ f_ k_ = 0) := fun k_ hk_ => ⟨by have := HS.out; omega, by have := HS.out; omega, by rw [hf_]; have := HS.out; repeat' (first | omega | split)⟩
  have hcol1_ : ∀ k_, (((w.heap.size ≤ k_ ∧ k_ < w9_.heap.size) ∧ k_ ≠ gb1_ ∧ f9_ k_ = 1)) → ((w.heap.size ≤ k_ ∧ k_ < w9_.heap.size) ∧ k_ ≠ gb1_ ∧ f_ k_ = 1) := fun k_ hk_ => ⟨by have := HS.out; omega, by have := HS.out; omega, by rw [hf_]; have := HS.out; repeat' (first | omega | split)⟩
  have hcol2_ : ∀ k_, (((w.heap.size ≤ k_ ∧ k_ < w9_.heap.size) ∧ k_ ≠ gb1_ ∧ f9_ k_ = 2)) → ((w.heap.size ≤ k_ ∧ k_ < w9_.heap.size) ∧ k_ ≠ gb1_ ∧ f_ k_ = 2) := fun k_ hk_ => ⟨by have := HS.out; omega, by have := HS.out; omega, by rw [hf_]; have := HS.out; repeat' (first | omega | split)⟩
  have hcol3_ : ∀ k_, (((w.heap.size ≤ k_ ∧ k_ < w9_.heap.size) ∧ k_ ≠ gb1_ ∧ f9_ k_ = 3)) → ((w.heap.size ≤ k_ ∧ k_ < w9_.heap.size) ∧ k_ ≠ gb1_ ∧ f_ k_ = 3) := fun k_ hk_ => ⟨by have := HS.out; omega, by have := HS.out; omega, by rw [hf_]; have := HS.out; repeat' (first | omega | split)⟩
  have hfk_ : ∀ k_, k_ < w1.heap.size → f_ k_ < 4 → k_ = gb1_ ∨ f0_ k_ < 4 := fun k_ h1_ h2_ => by have := HS.out; rw [hf_] at h2_; have q9_ := HF9.out k_; have p9_ := HFP9.out k_; repeat' (first | omega | split at h2_ | split at p9_)
  first | exact ⟨f_, _, _, _, _, rfl, BK1.out, Kd.S_mono HO9_0.out hcol0_, Kd.S_mono HO9_1.out hcol1_, Kd.S_mono HO9_2.out hcol2_, Kd.R_mono HO9_3.out hcol3_, hfk_, HB.out, HK.out⟩ | exact ⟨rfl, f_, _, _, _, _, BK1.out, Kd.S_mono HO9_0.out hcol0_, Kd.S_mono HO9_1.out hcol1_, Kd.S_mono HO9_2.out hcol2_, Kd.R_mono HO9_3.out hcol3_, hfk_, HB.out, HK.out⟩
 rw [if_neg hc3_] at H
 have hc3_b0 : (a1_0 == 1) = false := beq_eq_false_iff_ne.mpr hc3_
 have hc3_bn : (a1_0 != 1) = true := bne_iff_ne.mpr hc3_
 by_cases hc4_ : a1_0 = 2
 case pos =>
  rw [if_pos hc4_] at H
  have hc4_b0 : (a1_0 == 2) = true := beq_iff_eq.mpr hc4_
  have hc4_bn : (a1_0 != 2) = false := bne_eq_false_iff_eq.mpr hc4_
  replace hc4_ := A_.mk hc4_
  replace H := oa_ H
  obtain ⟨⟨t15, t16, t17, t18, t19, t20, t21, t22⟩, A10, H⟩ := H
  try dsimp only at H
  simp only [Option.some.injEq, Prod.mk.injEq] at H
  obtain ⟨rfl, rfl, rfl, rfl, rfl, rfl, rfl, rfl⟩ := H
  have hu28 := Try.underlying28
  have hu34 := Try.underlying34
  have hu39 := Try.underlying39
  go_enter Try.func15, Try.ntmps15
  have Q1 := blk7_ BK1.out
  go_wp2_with (first | ((with_reducible refine gd_ (N := 3) rfl ?_); refine by_ 3 (cs := #[.int .i64 a1_0, .int .i64 a1_1]) (t := 39) ?_; intro gb2_ hg w2_ hbox hb; replace HS := A_.mk (And.intro HS.out (show gb2_ = w1.heap.size ∧ gb2_ < w2_.heap.size from ⟨hg, blk_lt hbox⟩)); replace HO0_1 := aSb HO0_1 hb; replace HO0_4 := aSb HO0_4 hb; replace HO0_5 := aSb HO0_5 hb; replace HO0_6 := aRb HO0_6 hb; replace BK1 := aBb BK1 hb; replace HK := A_.mk (HK.out.below hb); replace HB := aHB HB hb; have BK2 := A_.mk hbox; clear hbox hb hg Q1; have Q1 := blk7_ BK1.out; have Q2 := blk2_ BK2.out))
  obtain ⟨fp10_, hfp_⟩ : ∃ f_ : Nat → Nat, ∀ k_, f_ k_ = (if ((w.heap.size ≤ k_ ∧ k_ < w1.heap.size) ∧ k_ ≠ gb1_ ∧ f0_ k_ = 0) then 0 else (if ((w.heap.size ≤ k_ ∧ k_ < w1.heap.size) ∧ k_ ≠ gb1_ ∧ f0_ k_ = 1) then 1 else (if ((w.heap.size ≤ k_ ∧ k_ < w1.heap.size) ∧ k_ ≠ gb1_ ∧ f0_ k_ = 2) then 2 else (if ((w.heap.size ≤ k_ ∧ k_ < w1.heap.size) ∧ k_ ≠ gb1_ ∧ f0_ k_ = 3) then 3 else 4)))) := ⟨fun k_ => (if ((w.heap.size ≤ k_ ∧ k_ < w1.heap.size) ∧ k_ ≠ gb1_ ∧ f0_ k_ = 0) then 0 else (if ((w.heap.size ≤ k_ ∧ k_ < w1.heap.size) ∧ k_ ≠ gb1_ ∧ f0_ k_ = 1) then 1 else (if ((w.heap.size ≤ k_ ∧ k_ < w1.heap.size) ∧ k_ ≠ gb1_ ∧ f0_ k_ = 2) then 2 else (if ((w.heap.size ≤ k_ ∧ k_ < w1.heap.size) ∧ k_ ≠ gb1_ ∧ f0_ k_ = 3) then 3 else 4)))), fun _ => rfl⟩
  have hcp1_ : ∀ k_, (((w.heap.size ≤ k_ ∧ k_ < w1.heap.size) ∧ k_ ≠ gb1_ ∧ f0_ k_ = 0)) → ((w.heap.size ≤ k_ ∧ k_ < w2_.heap.size) ∧ k_ ≠ gb1_ ∧ fp10_ k_ = 0) := fun k_ hk_ => ⟨by have := HS.out; omega, by have := HS.out; first | omega | (intro he_; subst he_; omega), by rw [hfp_]; have := HS.out; repeat' (first | omega | split)⟩
  have hcp4_ : ∀ k_, (((w.heap.size ≤ k_ ∧ k_ < w1.heap.size) ∧ k_ ≠ gb1_ ∧ f0_ k_ = 1)) → ((w.heap.size ≤ k_ ∧ k_ < w2_.heap.size) ∧ k_ ≠ gb1_ ∧ fp10_ k_ = 1) := fun k_ hk_ => ⟨by have := HS.out; omega, by have := HS.out; first | omega | (intro he_; subst he_; omega), by rw [hfp_]; have := HS.out; repeat' (first | omega | split)⟩
  have hcp5_ : ∀ k_, (((w.heap.size ≤ k_ ∧ k_ < w1.heap.size) ∧ k_ ≠ gb1_ ∧ f0_ k_ = 2)) → ((w.heap.size ≤ k_ ∧ k_ < w2_.heap.size) ∧ k_ ≠ gb1_ ∧ fp10_ k_ = 2) := fun k_ hk_ => ⟨by have := HS.out; omega, by have := HS.out; first | omega | (intro he_; subst he_; omega), by rw [hfp_]; have := HS.out; repeat' (first | omega | split)⟩
  have hcp6_ : ∀ k_, (((w.heap.size ≤ k_ ∧ k_ < w1.heap.size) ∧ k_ ≠ gb1_ ∧ f0_ k_ = 3)) → ((w.heap.size ≤ k_ ∧ k_ < w2_.heap.size) ∧ k_ ≠ gb1_ ∧ fp10_ k_ = 3) := fun k_ hk_ => ⟨by have := HS.out; omega, by have := HS.out; first | omega | (intro he_; subst he_; omega), by rw [hfp_]; have := HS.out; repeat' (first | omega | split)⟩
  have hfb2_ : fp10_ gb2_ = 4 := by rw [hfp_]; have := HS.out; repeat' (first | omega | split)
  refine (impl_Link_deliver.calls k gb1_ fp10_ a0_0 _ _ l0_1 a0_2 a0_3 _ _ l0_4 _ _ l0_5 _ _ l0_6 t15 t16 t17 t18 t19 t20 t21 t22 w _ HB.out (by have := HS.out; omega) BK1.out (Kd.S_mono HO0_1.out hcp1_) (Kd.S_mono HO0_4.out hcp4_) (Kd.S_mono HO0_5.out hcp5_) (Kd.R_mono HO0_6.out hcp6_) A10.out).mono ?_
  rintro e w10_ ⟨f10_, v0_, v1_, v2_, v3_, rfl, hbx_, ho1_, ho2_, ho3_, ho4_, hfk_, hbb, hkp⟩
  replace HK := A_.mk (HK.out.then_ hkp (fun k_ h_ => by have := HS.out; have h3_ := hfp_ k_; (try dsimp only at h_ ⊢); repeat' (first | omega | split at h3_)))
  have hge2_ : 4 ≤ f10_ gb2_ := by have h1_ := hfk_ gb2_ (blk_lt BK2.out); have := hfb2_; have := HS.out; omega
  have HF10 := A_.mk hfk_
  have HFP10 := A_.mk hfp_
  replace BK2 := A_.mk ((hkp.2 _ (blk_lt BK2.out) (fun _ => by have := hfb2_; have := HS.out; omega)).trans BK2.out)
  replace BK1 := A_.mk hbx_
  replace HB := A_.mk hbb
  replace HS := aHs HS hkp.1
  replace HS := aHs HS hge2_
  clear hfk_ hge2_
  obtain ⟨Ao10_0, co10_0, ev_⟩ := Kd.S_slice ho1_
  subst ev_
  have HO10_0 := A_.mk ho1_
  obtain ⟨Ao10_1, co10_1, ev_⟩ := Kd.S_slice ho2_
  subst ev_
  have HO10_1 := A_.mk ho2_
  obtain ⟨Ao10_2, co10_2, ev_⟩ := Kd.S_slice ho3_
  subst ev_
  have HO10_2 := A_.mk ho3_
  obtain ⟨Ao10_3, co10_3, ev_⟩ := Kd.R_slice ho4_
  subst ev_
  have HO10_3 := A_.mk ho4_
  clear hkp hbx_ hbb hfp_ hcp1_ hcp4_ hcp5_ hcp6_ ho1_ ho2_ ho3_ ho4_ hfb2_ Q1 Q2
  have Q1 := blk7_ BK1.out
  have Q2 := blk2_ BK2.out
  go_wp2
  go_ret
  obtain ⟨f_, hf_⟩ : ∃ f_ : Nat → Nat, ∀ k_, f_ k_ = (if ((w.heap.size ≤ k_ ∧ k_ < w10_.heap.size) ∧ k_ ≠ gb1_ ∧ f10_ k_ = 0) then 0 else (if ((w.heap.size ≤ k_ ∧ k_ < w10_.heap.size) ∧ k_ ≠ gb1_ ∧ f10_ k_ = 1) then 1 else (if ((w.heap.size ≤ k_ ∧ k_ < w10_.heap.size) ∧ k_ ≠ gb1_ ∧ f10_ k_ = 2) then 2 else (if ((w.heap.size ≤ k_ ∧ k_ < w10_.heap.size) ∧ k_ ≠ gb1_ ∧ f10_ k_ = 3) then 3 else 4)))) := ⟨fun k_ => (if ((w.heap.size ≤ k_ ∧ k_ < w10_.heap.size) ∧ k_ ≠ gb1_ ∧ f10_ k_ = 0) then 0 else (if ((w.heap.size ≤ k_ ∧ k_ < w10_.heap.size) ∧ k_ ≠ gb1_ ∧ f10_ k_ = 1) then 1 else (if ((w.heap.size ≤ k_ ∧ k_ < w10_.heap.size) ∧ k_ ≠ gb1_ ∧ f10_ k_ = 2) then 2 else (if ((w.heap.size ≤ k_ ∧ k_ < w10_.heap.size) ∧ k_ ≠ gb1_ ∧ f10_ k_ = 3) then 3 else 4)))), fun _ => rfl⟩
  have hcol0_ : ∀ k_, (((w.heap.size ≤ k_ ∧ k_ < w10_.heap.size) ∧ k_ ≠ gb1_ ∧ f10_ k_ = 0)) → ((w.heap.size ≤ k_ ∧ k_ < w10_.heap.size) ∧ k_ ≠ gb1_ ∧ f_ k_ = 0) := fun k_ hk_ => ⟨by have := HS.out; omega, by have := HS.out; omega, by rw [hf_]; have := HS.out; repeat' (first | omega | split)⟩
  have hcol1_ : ∀ k_, (((w.heap.size ≤ k_ ∧ k_ < w10_.heap.size) ∧ k_ ≠ gb1_ ∧ f10_ k_ = 1)) → ((w.heap.size ≤ k_ ∧ k_ < w10_.heap.size) ∧ k_ ≠ gb1_ ∧ f_ k_ = 1) := fun k_ hk_ => ⟨by have := HS.out; omega, by have := HS.out; omega, by rw [hf_]; have := HS.out; repeat' (first | omega | split)⟩
  have hcol2_ : ∀ k_, (((w.heap.size ≤ k_ ∧ k_ < w10_.heap.size) ∧ k_ ≠ gb1_ ∧ f10_ k_ = 2)) → ((w.heap.size ≤ k_ ∧ k_ < w10_.heap.size) ∧ k_ ≠ gb1_ ∧ f_ k_ = 2) := fun k_ hk_ => ⟨by have := HS.out; omega, by have := HS.out; omega, by rw [hf_]; have := HS.out; repeat' (first | omega | split)⟩
  have hcol3_ : ∀ k_, (((w.heap.size ≤ k_ ∧ k_ < w10_.heap.size) ∧ k_ ≠ gb1_ ∧ f10_ k_ = 3)) → ((w.heap.size ≤ k_ ∧ k_ < w10_.heap.size) ∧ k_ ≠ gb1_ ∧ f_ k_ = 3) := fun k_ hk_ => ⟨by have := HS.out; omega, by have := HS.out; omega, by rw [hf_]; have := HS.out; repeat' (first | omega | split)⟩
  have hfk_ : ∀ k_, k_ < w1.heap.size → f_ k_ < 4 → k_ = gb1_ ∨ f0_ k_ < 4 := fun k_ h1_ h2_ => by have := HS.out; rw [hf_] at h2_; have q10_ := HF10.out k_; have p10_ := HFP10.out k_; repeat' (first | omega | split at h2_ | split at p10_)
  first | exact ⟨f_, _, _, _, _, rfl, BK1.out, Kd.S_mono HO10_0.out hcol0_, Kd.S_mono HO10_1.out hcol1_, Kd.S_mono HO10_2.out hcol2_, Kd.R_mono HO10_3.out hcol3_, hfk_, HB.out, HK.out⟩ | exact ⟨rfl, f_, _, _, _, _, BK1.out, Kd.S_mono HO10_0.out hcol0_, Kd.S_mono HO10_1.out hcol1_, Kd.S_mono HO10_2.out hcol2_, Kd.R_mono HO10_3.out hcol3_, hfk_, HB.out, HK.out⟩
 rw [if_neg hc4_] at H
 have hc4_b0 : (a1_0 == 2) = false := beq_eq_false_iff_ne.mpr hc4_
 have hc4_bn : (a1_0 != 2) = true := bne_iff_ne.mpr hc4_
 by_cases hc5_ : a1_0 = 3
 case pos =>
  rw [if_pos hc5_] at H
  have hc5_b0 : (a1_0 == 3) = true := beq_iff_eq.mpr hc5_
  have hc5_bn : (a1_0 != 3) = false := bne_eq_false_iff_eq.mpr hc5_
  replace hc5_ := A_.mk hc5_
  replace H := oa_ H
  obtain ⟨t23, A11, H⟩ := H
  replace H := A_.mk H
  have hu28 := Try.underlying28
  have hu34 := Try.underlying34
  have hu39 := Try.underlying39
  go_enter Try.func15, Try.ntmps15
  have Q1 := blk7_ BK1.out
  go_wp2_with (first | ((with_reducible refine gd_ (N := 3) rfl ?_); refine by_ 3 (cs := #[.int .i64 a1_0, .int .i64 a1_1]) (t := 39) ?_; intro gb2_ hg w2_ hbox hb; replace HS := A_.mk (And.intro HS.out (show gb2_ = w1.heap.size ∧ gb2_ < w2_.heap.size from ⟨hg, blk_lt hbox⟩)); replace HO0_1 := aSb HO0_1 hb; replace HO0_4 := aSb HO0_4 hb; replace HO0_5 := aSb HO0_5 hb; replace HO0_6 := aRb HO0_6 hb; replace BK1 := aBb BK1 hb; replace HK := A_.mk (HK.out.below hb); replace HB := aHB HB hb; have BK2 := A_.mk hbox; clear hbox hb hg Q1; have Q1 := blk7_ BK1.out; have Q2 := blk2_ BK2.out))
  refine start_ (n := 10) (S := fun w' => (w'.cell? ⟨gb1_, 0, none⟩ = some (.int .i64 a0_0) ∧ w'.cell? ⟨gb1_, 1, none⟩ = some (.slice A0_1 l0_1.length c0_1) ∧ w'.cell? ⟨gb1_, 2, none⟩ = some (.int .i64 a0_2) ∧ w'.cell? ⟨gb1_, 3, none⟩ = some (.int .i64 a0_3) ∧ w'.cell? ⟨gb1_, 4, none⟩ = some (.slice A0_4 l0_4.length c0_4) ∧ w'.cell? ⟨gb1_, 5, none⟩ = some (.slice A0_5 l0_5.length c0_5) ∧ w'.cell? ⟨gb1_, 6, none⟩ = some (.slice A0_6 l0_6.length c0_6)) ∧ (w'.cell? ⟨gb2_, 0, none⟩ = some (.int .i64 a1_0) ∧ w'.cell? ⟨gb2_, 1, none⟩ = some (.int .i64 a1_1))) (ds := []) #[F, F, F, F, F, F, F, F, F, F] (by kernel_rfl) rfl rfl ⟨blk7_ BK1.out, blk2_ BK2.out⟩ (fun hHeld => ?_)
  clear Q1 Q2
  have hb := below_drew (Below.refl w2_.heap.size w2_)
  replace HS := aHs HS hb.size
  replace HO0_1 := aSb HO0_1 hb
  replace HO0_4 := aSb HO0_4 hb
  replace HO0_5 := aSb HO0_5 hb
  replace HO0_6 := aRb HO0_6 hb
  replace BK1 := aBb BK1 hb
  replace BK2 := aBb BK2 hb
  replace HK := A_.mk (HK.out.below hb)
  replace HB := aHB HB hb
  clear hb
  generalize w2_.drew = w19d_ at HO0_1 HO0_4 HO0_5 HO0_6 HK BK1 BK2 HB HS hHeld ⊢
  refine pd_ (i := 0) (N := some 45) #[T, F, F, F, F, F, F, F, F, F] rfl ?_
  refine tl_ (i := 1) (N := some 46) #[T, T, F, F, F, F, F, F, F, F] rfl hHeld ?_
  refine pd_ (i := 2) (N := some 47) #[T, T, T, F, F, F, F, F, F, F] rfl ?_
  refine pd_ (i := 3) (N := some 48) #[T, T, T, T, F, F, F, F, F, F] rfl ?_
  refine pd_ (i := 4) (N := some 49) #[T, T, T, T, T, F, F, F, F, F] rfl ?_
  refine tl_ (i := 5) (N := some 50) #[T, T, T, T, T, T, F, F, F, F] rfl hHeld ?_
  refine pd_ (i := 6) (N := some 51) #[T, T, T, T, T, T, T, F, F, F] rfl ?_
  refine pd_ (i := 7) (N := some 52) #[T, T, T, T, T, T, T, T, F, F] rfl ?_
  refine on_ (i := 8) (N := some 53) #[T, T, T, T, T, T, T, T, T, F] rfl (fun K hK => ?_)
  refine gz_ Try.func31 #[.int .i64 a1_1, .int .i64 0, .int .i64 (wrap64 ((l0_5.length : Int) - 1))] ?_
  with_reducible refine (impl_within.calls a1_1 0 (wrap64 ((l0_5.length : Int) - 1)) t23 _ A11.out).mono ?_
  rintro e w11_ ⟨rfl, hb⟩
  refine ⟨_, rfl, ?_⟩
  replace hb := Drawn0.below hb
  replace HS := aHs HS hb.size
  replace HO0_1 := aSb HO0_1 hb
  replace HO0_4 := aSb HO0_4 hb
  replace HO0_5 := aSb HO0_5 hb
  replace HO0_6 := aRb HO0_6 hb
  replace BK1 := aBb BK1 hb
  replace BK2 := aBb BK2 hb
  replace HK := A_.mk (HK.out.below hb)
  replace HB := aHB HB hb
  clear hb 
  refine hK.out _ _ ⟨blk7_ BK1.out, blk2_ BK2.out⟩ (fun hHeld => ?_)
  clear hK K
  refine nm_ ?_
  refine pd_ (i := 9) (N := some 54) #[T, T, T, T, T, T, T, T, T, T] rfl ?_
  refine done_ (by kernel_rfl) ?_
  have Q1 := blk7_ BK1.out
  have Q2 := blk2_ BK2.out
  replace H := H.out
  by_cases hc6_ : t23 = true
  case pos =>
   rw [if_pos hc6_] at H
   subst hc6_
   by_cases hp12_ : 0 ≤ a1_1
   case neg => rw [if_neg hp12_] at H; cases H
   rw [if_pos hp12_] at H
   by_cases hq12_ : a1_1 < (l0_5.length : Int)
   case neg => rw [if_neg hq12_] at H; cases H
   rw [if_pos hq12_] at H
   have EB12 := A_.mk (And.intro hp12_ hq12_)
   clear hp12_ hq12_
   obtain ⟨y24, Ny24⟩ : ∃ q_, q_ = (l0_5.eraseIdx (a1_1).toNat) := ⟨_, rfl⟩
   rw [← Ny24] at H
   replace Ny24 := A_.mk Ny24
   simp only [Option.some.injEq, Prod.mk.injEq] at H
   obtain ⟨rfl, rfl, rfl, rfl, rfl, rfl, rfl, rfl⟩ := H
   go_wp2_with (fail)
   refine start_ (n := 14) (S := fun w' => (w'.cell? ⟨gb1_, 0, none⟩ = some (.int .i64 a0_0) ∧ w'.cell? ⟨gb1_, 1, none⟩ = some (.slice A0_1 l0_1.length c0_1) ∧ w'.cell? ⟨gb1_, 2, none⟩ = some (.int .i64 a0_2) ∧ w'.cell? ⟨gb1_, 3, none⟩ = some (.int .i64 a0_3) ∧ w'.cell? ⟨gb1_, 4, none⟩ = some (.slice A0_4 l0_4.length c0_4) ∧ w'.cell? ⟨gb1_, 5, none⟩ = some (.slice A0_5 l0_5.length c0_5) ∧ w'.cell? ⟨gb1_, 6, none⟩ = some (.slice A0_6 l0_6.length c0_6)) ∧ (w'.cell? ⟨gb2_, 0, none⟩ = some (.int .i64 a1_0) ∧ w'.cell? ⟨gb2_, 1, none⟩ = some (.int .i64 a1_1))) (ds := [13]) #[F, F, F, F, F, F, F, F, F, F, F, F, F, F] (by kernel_rfl) rfl rfl ⟨blk7_ BK1.out, blk2_ BK2.out⟩ (fun hHeld => ?_)
   clear Q1 Q2
   have hb := below_drew (Below.refl w11_.heap.size w11_)
   replace HS := aHs HS hb.size
   replace HO0_1 := aSb HO0_1 hb
   replace HO0_4 := aSb HO0_4 hb
   replace HO0_5 := aSb HO0_5 hb
   replace HO0_6 := aRb HO0_6 hb
   replace BK1 := aBb BK1 hb
   replace BK2 := aBb BK2 hb
   replace HK := A_.mk (HK.out.below hb)
   replace HB := aHB HB hb
   clear hb
   generalize w11_.drew = w20d_ at HO0_1 HO0_4 HO0_5 HO0_6 HK BK1 BK2 HB HS hHeld ⊢
   refine pd_ (i := 0) (N := some 55) #[T, F, F, F, F, F, F, F, F, F, F, F, F, F] rfl ?_
   refine pd_ (i := 1) (N := some 56) #[T, T, F, F, F, F, F, F, F, F, F, F, F, F] rfl ?_
   refine pd_ (i := 2) (N := some 57) #[T, T, T, F, F, F, F, F, F, F, F, F, F, F] rfl ?_
   refine pd_ (i := 3) (N := some 58) #[T, T, T, T, F, F, F, F, F, F, F, F, F, F] rfl ?_
   refine tl_ (i := 4) (N := some 59) #[T, T, T, T, T, F, F, F, F, F, F, F, F, F] rfl hHeld ?_
   refine pd_ (i := 5) (N := some 60) #[T, T, T, T, T, T, F, F, F, F, F, F, F, F] rfl ?_
   refine tl_ (i := 6) (N := some 61) #[T, T, T, T, T, T, T, F, F, F, F, F, F, F] rfl hHeld ?_
   refine pd_ (i := 7) (N := some 62) #[T, T, T, T, T, T, T, T, F, F, F, F, F, F] rfl ?_
   refine tl_ (i := 8) (N := some 63) #[T, T, T, T, T, T, T, T, T, F, F, F, F, F] rfl hHeld ?_
   refine pd_ (i := 9) (N := some 64) #[T, T, T, T, T, T, T, T, T, T, F, F, F, F] rfl ?_
   refine on_ (i := 10) (N := some 65) #[T, T, T, T, T, T, T, T, T, T, T, F, F, F] rfl (fun K hK => ?_)
   obtain ⟨gd12_, ed_⟩ := S_at0 HO0_5.out (by have := EB12.out; omega)
   subst ed_
   refine gz_ Try.func34 #[.slice (some ⟨gd12_, 0, none⟩) l0_5.length c0_5, .int .i64 a1_1, .int .i64 (wrap64 (a1_1 + 1))] ?_
   refine (slices_Delete_32.calls (fun k_ => ((w.heap.size ≤ k_ ∧ k_ < w1.heap.size) ∧ k_ ≠ gb1_ ∧ f0_ k_ = 2)) _ _ _ l0_5 a1_1 w _ HB.out HO0_5.out EB12.out.1 EB12.out.2).mono ?_
   rintro e w12_ ⟨he_, ho, hb2, hkp⟩
   rw [← Ny24.out] at ho
   have hl_ := (Kd.S_reads' ho).1
   rw [hl_] at he_ ho
   subst he_
   clear hl_
   refine ⟨_, rfl, ?_⟩
   replace hkp := Kept.mono (S' := fun k_ => ((w.heap.size ≤ k_ ∧ k_ < w1.heap.size) ∧ k_ ≠ gb1_ ∧ f0_ k_ = 2)) hkp (fun k_ e_ => by subst e_; exact (Kd.S_R HO0_5.out).1 _ rfl)
   replace HK := A_.mk (HK.out.then_ hkp (fun k_ h_ => by have := HS.out; (try dsimp only at h_ ⊢); omega))
   replace HO0_1 := aSk HO0_1 hkp HS
   replace HO0_4 := aSk HO0_4 hkp HS
   replace HO0_6 := aRk HO0_6 hkp HS
   replace BK1 := aBk BK1 hkp HS
   replace BK2 := aBk BK2 hkp HS
   replace HS := aHs HS hkp.1
   have HO12 := A_.mk ho
   replace HB := A_.mk hb2
   clear hkp hb2 ho HO0_5
   refine hK.out _ _ ⟨blk7_ BK1.out, blk2_ BK2.out⟩ (fun hHeld => ?_)
   clear hK K
   refine nm_ ?_
   refine pd_ (i := 11) (N := some 66) #[T, T, T, T, T, T, T, T, T, T, T, T, F, F] rfl ?_
   refine pd_ (i := 12) (N := some 67) #[T, T, T, T, T, T, T, T, T, T, T, T, T, F] rfl ?_
   refine last_ (i := 13) (N := none) #[T, T, T, T, T, T, T, T, T, T, T, T, T, T] rfl rfl (by kernel_rfl) (by decide) (fun K hK => ?_)
   have Q1 := blk7_ BK1.out
   have Q2 := blk2_ BK2.out
   have qf0 := bf_ BK1.out 5
   obtain ⟨w13_, hw⟩ : ∃ q_ : World, q_ = (w12_.setCell ⟨gb1_, 5, none⟩ (.slice (some ⟨gd12_, 0, none⟩) y24.length c0_5)) := ⟨_, rfl⟩
   refine skip_ (w1 := w13_) (by rfl) rfl ?_ ?_
   ·rw [hw]; go_simp; try rfl
   refine hK.out _ _ ?_
   clear hK K qf0 Q1 Q2
   have hge : w.heap.size ≤ gb1_ := (by have := HS.out; omega)
   have hkp : Kept w12_ w13_ (fun k_ => k_ = gb1_) := (by rw [hw]; exact (Kept.of_set (Kept.refl _ _) _ _))
   have hbb : Below w.heap.size w w13_ := (by rw [hw]; exact (bs_ HB.out hge))
   have hbx : w13_.heap[gb1_]? = some (.cells #[.int .i64 a0_0, .slice A0_1 l0_1.length c0_1, .int .i64 a0_2, .int .i64 a0_3, .slice A0_4 l0_4.length c0_4, .slice (some ⟨gd12_, 0, none⟩) y24.length c0_5, .slice A0_6 l0_6.length c0_6] 34 (0, 0)) := (by rw [hw]; exact (bp_ (cs := #[.int .i64 a0_0, .slice A0_1 l0_1.length c0_1, .int .i64 a0_2, .int .i64 a0_3, .slice A0_4 l0_4.length c0_4, .slice (some ⟨gd12_, 0, none⟩) l0_5.length c0_5, .slice A0_6 l0_6.length c0_6]) BK1.out 5 _ rfl))
   clear hw
   replace HK := A_.mk (HK.out.then_ hkp (fun k_ h_ => by have := HS.out; (try dsimp only at h_ ⊢); omega))
   replace HO0_1 := aSk HO0_1 hkp HS
   replace HO0_4 := aSk HO0_4 hkp HS
   replace HO0_6 := aRk HO0_6 hkp HS
   replace HO12 := aSk HO12 hkp HS
   replace BK2 := aBk BK2 hkp HS
   replace BK1 := A_.mk hbx
   replace HB := A_.mk hbb
   replace HS := aHs HS hkp.1
   clear hkp hbb hbx hge
   refine done_ (by kernel_rfl) ?_
   have Q1 := blk7_ BK1.out
   have Q2 := blk2_ BK2.out
   go_wp2
   go_ret
   obtain ⟨f_, hf_⟩ : ∃ f_ : Nat → Nat, ∀ k_, f_ k_ = (if ((w.heap.size ≤ k_ ∧ k_ < w1.heap.size) ∧ k_ ≠ gb1_ ∧ f0_ k_ = 0) then 0 else (if ((w.heap.size ≤ k_ ∧ k_ < w1.heap.size) ∧ k_ ≠ gb1_ ∧ f0_ k_ = 1) then 1 else (if ((w.heap.size ≤ k_ ∧ k_ < w1.heap.size) ∧ k_ ≠ gb1_ ∧ f0_ k_ = 2) then 2 else (if ((w.heap.size ≤ k_ ∧ k_ < w1.heap.size) ∧ k_ ≠ gb1_ ∧ f0_ k_ = 3) then 3 else 4)))) := ⟨fun k_ => (if ((w.heap.size ≤ k_ ∧ k_ < w1.heap.size) ∧ k_ ≠ gb1_ ∧ f0_ k_ = 0) then 0 else (if ((w.heap.size ≤ k_ ∧ k_ < w1.heap.size) ∧ k_ ≠ gb1_ ∧ f0_ k_ = 1) then 1 else (if ((w.heap.size ≤ k_ ∧ k_ < w1.heap.size) ∧ k_ ≠ gb1_ ∧ f0_ k_ = 2) then 2 else (if ((w.heap.size ≤ k_ ∧ k_ < w1.heap.size) ∧ k_ ≠ gb1_ ∧ f0_ k_ = 3) then 3 else 4)))), fun _ => rfl⟩
   have hcol0_ : ∀ k_, (((w.heap.size ≤ k_ ∧ k_ < w1.heap.size) ∧ k_ ≠ gb1_ ∧ f0_ k_ = 0)) → ((w.heap.size ≤ k_ ∧ k_ < w13_.heap.size) ∧ k_ ≠ gb1_ ∧ f_ k_ = 0) := fun k_ hk_ => ⟨by have := HS.out; omega, by have := HS.out; omega, by rw [hf_]; have := HS.out; repeat' (first | omega | split)⟩
   have hcol1_ : ∀ k_, (((w.heap.size ≤ k_ ∧ k_ < w1.heap.size) ∧ k_ ≠ gb1_ ∧ f0_ k_ = 1)) → ((w.heap.size ≤ k_ ∧ k_ < w13_.heap.size) ∧ k_ ≠ gb1_ ∧ f_ k_ = 1) := fun k_ hk_ => ⟨by have := HS.out; omega, by have := HS.out; omega, by rw [hf_]; have := HS.out; repeat' (first | omega | split)⟩
   have hcol2_ : ∀ k_, (((w.heap.size ≤ k_ ∧ k_ < w1.heap.size) ∧ k_ ≠ gb1_ ∧ f0_ k_ = 2)) → ((w.heap.size ≤ k_ ∧ k_ < w13_.heap.size) ∧ k_ ≠ gb1_ ∧ f_ k_ = 2) := fun k_ hk_ => ⟨by have := HS.out; omega, by have := HS.out; omega, by rw [hf_]; have := HS.out; repeat' (first | omega | split)⟩
   have hcol3_ : ∀ k_, (((w.heap.size ≤ k_ ∧ k_ < w1.heap.size) ∧ k_ ≠ gb1_ ∧ f0_ k_ = 3)) → ((w.heap.size ≤ k_ ∧ k_ < w13_.heap.size) ∧ k_ ≠ gb1_ ∧ f_ k_ = 3) := fun k_ hk_ => ⟨by have := HS.out; omega, by have := HS.out; omega, by rw [hf_]; have := HS.out; repeat' (first | omega | split)⟩
   have hfk_ : ∀ k_, k_ < w1.heap.size → f_ k_ < 4 → k_ = gb1_ ∨ f0_ k_ < 4 := fun k_ h1_ h2_ => by have := HS.out; rw [hf_] at h2_; repeat' (first | omega | split at h2_)
   first | exact ⟨f_, _, _, _, _, rfl, BK1.out, Kd.S_mono HO0_1.out hcol0_, Kd.S_mono HO0_4.out hcol1_, Kd.S_mono HO12.out hcol2_, Kd.R_mono HO0_6.out hcol3_, hfk_, HB.out, HK.out⟩ | exact ⟨rfl, f_, _, _, _, _, BK1.out, Kd.S_mono HO0_1.out hcol0_, Kd.S_mono HO0_4.out hcol1_, Kd.S_mono HO12.out hcol2_, Kd.R_mono HO0_6.out hcol3_, hfk_, HB.out, HK.out⟩
  rw [if_neg hc6_] at H
  replace hc6_ := eq_false_of_ne_true hc6_
  subst hc6_
  simp only [Option.some.injEq, Prod.mk.injEq] at H
  obtain ⟨rfl, rfl, rfl, rfl, rfl, rfl, rfl, rfl⟩ := H
  go_wp2
  go_ret
  obtain ⟨f_, hf_⟩ : ∃ f_ : Nat → Nat, ∀ k_, f_ k_ = (if ((w.heap.size ≤ k_ ∧ k_ < w1.heap.size) ∧ k_ ≠ gb1_ ∧ f0_ k_ = 0) then 0 else (if ((w.heap.size ≤ k_ ∧ k_ < w1.heap.size) ∧ k_ ≠ gb1_ ∧ f0_ k_ = 1) then 1 else (if ((w.heap.size ≤ k_ ∧ k_ < w1.heap.size) ∧ k_ ≠ gb1_ ∧ f0_ k_ = 2) then 2 else (if ((w.heap.size ≤ k_ ∧ k_ < w1.heap.size) ∧ k_ ≠ gb1_ ∧ f0_ k_ = 3) then 3 else 4)))) := ⟨fun k_ => (if ((w.heap.size ≤ k_ ∧ k_ < w1.heap.size) ∧ k_ ≠ gb1_ ∧ f0_ k_ = 0) then 0 else (if ((w.heap.size ≤ k_ ∧ k_ < w1.heap.size) ∧ k_ ≠ gb1_ ∧ f0_ k_ = 1) then 1 else (if ((w.heap.size ≤ k_ ∧ k_ < w1.heap.size) ∧ k_ ≠ gb1_ ∧ f0_ k_ = 2) then 2 else (if ((w.heap.size ≤ k_ ∧ k_ < w1.heap.size) ∧ k_ ≠ gb1_ ∧ f0_ k_ = 3) then 3 else 4)))), fun _ => rfl⟩
  have hcol0_ : ∀ k_, (((w.heap.size ≤ k_ ∧ k_ < w1.heap.size) ∧ k_ ≠ gb1_ ∧ f0_ k_ = 0)) → ((w.heap.size ≤ k_ ∧ k_ < w11_.heap.size) ∧ k_ ≠ gb1_ ∧ f_ k_ = 0) := fun k_ hk_ => ⟨by have := HS.out; omega, by have := HS.out; omega, by rw [hf_]; have := HS.out; repeat' (first | omega | split)⟩
  have hcol1_ : ∀ k_, (((w.heap.size ≤ k_ ∧ k_ < w1.heap.size) ∧ k_ ≠ gb1_ ∧ f0_ k_ = 1)) → ((w.heap.size ≤ k_ ∧ k_ < w11_.heap.size) ∧ k_ ≠ gb1_ ∧ f_ k_ = 1) := fun k_ hk_ => ⟨by have := HS.out; omega, by have := HS.out; omega, by rw [hf_]; have := HS.out; repeat' (first | omega | split)⟩
  have hcol2_ : ∀ k_, (((w.heap.size ≤ k_ ∧ k_ < w1.heap.size) ∧ k_ ≠ gb1_ ∧ f0_ k_ = 2)) → ((w.heap.size ≤ k_ ∧ k_ < w11_.heap.size) ∧ k_ ≠ gb1_ ∧ f_ k_ = 2) := fun k_ hk_ => ⟨by have := HS.out; omega, by have := HS.out; omega, by rw [hf_]; have := HS.out; repeat' (first | omega | split)⟩
  have hcol3_ : ∀ k_, (((w.heap.size ≤ k_ ∧ k_ < w1.heap.size) ∧ k_ ≠ gb1_ ∧ f0_ k_ = 3)) → ((w.heap.size ≤ k_ ∧ k_ < w11_.heap.size) ∧ k_ ≠ gb1_ ∧ f_ k_ = 3) := fun k_ hk_ => ⟨by have := HS.out; omega, by have := HS.out; omega, by rw [hf_]; have := HS.out; repeat' (first | omega | split)⟩
  have hfk_ : ∀ k_, k_ < w1.heap.size → f_ k_ < 4 → k_ = gb1_ ∨ f0_ k_ < 4 := fun k_ h1_ h2_ => by have := HS.out; rw [hf_] at h2_; repeat' (first | omega | split at h2_)
  first | exact ⟨f_, _, _, _, _, rfl, BK1.out, Kd.S_mono HO0_1.out hcol0_, Kd.S_mono HO0_4.out hcol1_, Kd.S_mono HO0_5.out hcol2_, Kd.R_mono HO0_6.out hcol3_, hfk_, HB.out, HK.out⟩ | exact ⟨rfl, f_, _, _, _, _, BK1.out, Kd.S_mono HO0_1.out hcol0_, Kd.S_mono HO0_4.out hcol1_, Kd.S_mono HO0_5.out hcol2_, Kd.R_mono HO0_6.out hcol3_, hfk_, HB.out, HK.out⟩
 rw [if_neg hc5_] at H
 have hc5_b0 : (a1_0 == 3) = false := beq_eq_false_iff_ne.mpr hc5_
 have hc5_bn : (a1_0 != 3) = true := bne_iff_ne.mpr hc5_
 by_cases hc7_ : a1_0 = 4
 case pos =>
  rw [if_pos hc7_] at H
  have hc7_b0 : (a1_0 == 4) = true := beq_iff_eq.mpr hc7_
  have hc7_bn : (a1_0 != 4) = false := bne_eq_false_iff_eq.mpr hc7_
  replace hc7_ := A_.mk hc7_
  replace H := oa_ H
  obtain ⟨⟨t25, t26, t27, t28, t29, t30, t31, t32⟩, A14, H⟩ := H
  try dsimp only at H
  simp only [Option.some.injEq, Prod.mk.injEq] at H
  obtain ⟨rfl, rfl, rfl, rfl, rfl, rfl, rfl, rfl⟩ := H
  have hu28 := Try.underlying28
  have hu34 := Try.underlying34
  have hu39 := Try.underlying39
  go_enter Try.func15, Try.ntmps15
  have Q1 := blk7_ BK1.out
  go_wp2_with (first | ((with_reducible refine gd_ (N := 3) rfl ?_); refine by_ 3 (cs := #[.int .i64 a1_0, .int .i64 a1_1]) (t := 39) ?_; intro gb2_ hg w2_ hbox hb; replace HS := A_.mk (And.intro HS.out (show gb2_ = w1.heap.size ∧ gb2_ < w2_.heap.size from ⟨hg, blk_lt hbox⟩)); replace HO0_1 := aSb HO0_1 hb; replace HO0_4 := aSb HO0_4 hb; replace HO0_5 := aSb HO0_5 hb; replace HO0_6 := aRb HO0_6 hb; replace BK1 := aBb BK1 hb; replace HK := A_.mk (HK.out.below hb); replace HB := aHB HB hb; have BK2 := A_.mk hbox; clear hbox hb hg Q1; have Q1 := blk7_ BK1.out; have Q2 := blk2_ BK2.out))
  obtain ⟨fp14_, hfp_⟩ : ∃ f_ : Nat → Nat, ∀ k_, f_ k_ = (if ((w.heap.size ≤ k_ ∧ k_ < w1.heap.size) ∧ k_ ≠ gb1_ ∧ f0_ k_ = 0) then 0 else (if ((w.heap.size ≤ k_ ∧ k_ < w1.heap.size) ∧ k_ ≠ gb1_ ∧ f0_ k_ = 1) then 1 else (if ((w.heap.size ≤ k_ ∧ k_ < w1.heap.size) ∧ k_ ≠ gb1_ ∧ f0_ k_ = 2) then 2 else (if ((w.heap.size ≤ k_ ∧ k_ < w1.heap.size) ∧ k_ ≠ gb1_ ∧ f0_ k_ = 3) then 3 else 4)))) := ⟨fun k_ => (if ((w.heap.size ≤ k_ ∧ k_ < w1.heap.size) ∧ k_ ≠ gb1_ ∧ f0_ k_ = 0) then 0 else (if ((w.heap.size ≤ k_ ∧ k_ < w1.heap.size) ∧ k_ ≠ gb1_ ∧ f0_ k_ = 1) then 1 else (if ((w.heap.size ≤ k_ ∧ k_ < w1.heap.size) ∧ k_ ≠ gb1_ ∧ f0_ k_ = 2) then 2 else (if ((w.heap.size ≤ k_ ∧ k_ < w1.heap.size) ∧ k_ ≠ gb1_ ∧ f0_ k_ = 3) then 3 else 4)))), fun _ => rfl⟩
  have hcp1_ : ∀ k_, (((w.heap.size ≤ k_ ∧ k_ < w1.heap.size) ∧ k_ ≠ gb1_ ∧ f0_ k_ = 0)) → ((w.heap.size ≤ k_ ∧ k_ < w2_.heap.size) ∧ k_ ≠ gb1_ ∧ fp14_ k_ = 0) := fun k_ hk_ => ⟨by have := HS.out; omega, by have := HS.out; first | omega | (intro he_; subst he_; omega), by rw [hfp_]; have := HS.out; repeat' (first | omega | split)⟩
  have hcp4_ : ∀ k_, (((w.heap.size ≤ k_ ∧ k_ < w1.heap.size) ∧ k_ ≠ gb1_ ∧ f0_ k_ = 1)) → ((w.heap.size ≤ k_ ∧ k_ < w2_.heap.size) ∧ k_ ≠ gb1_ ∧ fp14_ k_ = 1) := fun k_ hk_ => ⟨by have := HS.out; omega, by have := HS.out; first | omega | (intro he_; subst he_; omega), by rw [hfp_]; have := HS.out; repeat' (first | omega | split)⟩
  have hcp5_ : ∀ k_, (((w.heap.size ≤ k_ ∧ k_ < w1.heap.size) ∧ k_ ≠ gb1_ ∧ f0_ k_ = 2)) → ((w.heap.size ≤ k_ ∧ k_ < w2_.heap.size) ∧ k_ ≠ gb1_ ∧ fp14_ k_ = 2) := fun k_ hk_ => ⟨by have := HS.out; omega, by have := HS.out; first | omega | (intro he_; subst he_; omega), by rw [hfp_]; have := HS.out; repeat' (first | omega | split)⟩
  have hcp6_ : ∀ k_, (((w.heap.size ≤ k_ ∧ k_ < w1.heap.size) ∧ k_ ≠ gb1_ ∧ f0_ k_ = 3)) → ((w.heap.size ≤ k_ ∧ k_ < w2_.heap.size) ∧ k_ ≠ gb1_ ∧ fp14_ k_ = 3) := fun k_ hk_ => ⟨by have := HS.out; omega, by have := HS.out; first | omega | (intro he_; subst he_; omega), by rw [hfp_]; have := HS.out; repeat' (first | omega | split)⟩
  have hfb2_ : fp14_ gb2_ = 4 := by rw [hfp_]; have := HS.out; repeat' (first | omega | split)
  refine (impl_Link_damage.calls k gb1_ fp14_ a0_0 _ _ l0_1 a0_2 a0_3 _ _ l0_4 _ _ l0_5 _ _ l0_6 a1_1 t25 t26 t27 t28 t29 t30 t31 t32 w _ HB.out (by have := HS.out; omega) BK1.out (Kd.S_mono HO0_1.out hcp1_) (Kd.S_mono HO0_4.out hcp4_) (Kd.S_mono HO0_5.out hcp5_) (Kd.R_mono HO0_6.out hcp6_) A14.out).mono ?_
  rintro e w14_ ⟨f14_, v0_, v1_, v2_, v3_, rfl, hbx_, ho1_, ho2_, ho3_, ho4_, hfk_, hbb, hkp⟩
  replace HK := A_.mk (HK.out.then_ hkp (fun k_ h_ => by have := HS.out; have h3_ := hfp_ k_; (try dsimp only at h_ ⊢); repeat' (first | omega | split at h3_)))
  have hge2_ : 4 ≤ f14_ gb2_ := by have h1_ := hfk_ gb2_ (blk_lt BK2.out); have := hfb2_; have := HS.out; omega
  have HF14 := A_.mk hfk_
  have HFP14 := A_.mk hfp_
  replace BK2 := A_.mk ((hkp.2 _ (blk_lt BK2.out) (fun _ => by have := hfb2_; have := HS.out; omega)).trans BK2.out)
  replace BK1 := A_.mk hbx_
  replace HB := A_.mk hbb
  replace HS := aHs HS hkp.1
  replace HS := aHs HS hge2_
  clear hfk_ hge2_
  obtain ⟨Ao14_0, co14_0, ev_⟩ := Kd.S_slice ho1_
  subst ev_
  have HO14_0 := A_.mk ho1_
  obtain ⟨Ao14_1, co14_1, ev_⟩ := Kd.S_slice ho2_
  subst ev_
  have HO14_1 := A_.mk ho2_
  obtain ⟨Ao14_2, co14_2, ev_⟩ := Kd.S_slice ho3_
  subst ev_
  have HO14_2 := A_.mk ho3_
  obtain ⟨Ao14_3, co14_3, ev_⟩ := Kd.R_slice ho4_
  subst ev_
  have HO14_3 := A_.mk ho4_
  clear hkp hbx_ hbb hfp_ hcp1_ hcp4_ hcp5_ hcp6_ ho1_ ho2_ ho3_ ho4_ hfb2_ Q1 Q2
  have Q1 := blk7_ BK1.out
  have Q2 := blk2_ BK2.out
  go_wp2
  go_ret
  obtain ⟨f_, hf_⟩ : ∃ f_ : Nat → Nat, ∀ k_, f_ k_ = (if ((w.heap.size ≤ k_ ∧ k_ < w14_.heap.size) ∧ k_ ≠ gb1_ ∧ f14_ k_ = 0) then 0 else (if ((w.heap.size ≤ k_ ∧ k_ < w14_.heap.size) ∧ k_ ≠ gb1_ ∧ f14_ k_ = 1) then 1 else (if ((w.heap.size ≤ k_ ∧ k_ < w14_.heap.size) ∧ k_ ≠ gb1_ ∧ f14_ k_ = 2) then 2 else (if ((w.heap.size ≤ k_ ∧ k_ < w14_.heap.size) ∧ k_ ≠ gb1_ ∧ f14_ k_ = 3) then 3 else 4)))) := ⟨fun k_ => (if ((w.heap.size ≤ k_ ∧ k_ < w14_.heap.size) ∧ k_ ≠ gb1_ ∧ f14_ k_ = 0) then 0 else (if ((w.heap.size ≤ k_ ∧ k_ < w14_.heap.size) ∧ k_ ≠ gb1_ ∧ f14_ k_ = 1) then 1 else (if ((w.heap.size ≤ k_ ∧ k_ < w14_.heap.size) ∧ k_ ≠ gb1_ ∧ f14_ k_ = 2) then 2 else (if ((w.heap.size ≤ k_ ∧ k_ < w14_.heap.size) ∧ k_ ≠ gb1_ ∧ f14_ k_ = 3) then 3 else 4)))), fun _ => rfl⟩
  have hcol0_ : ∀ k_, (((w.heap.size ≤ k_ ∧ k_ < w14_.heap.size) ∧ k_ ≠ gb1_ ∧ f14_ k_ = 0)) → ((w.heap.size ≤ k_ ∧ k_ < w14_.heap.size) ∧ k_ ≠ gb1_ ∧ f_ k_ = 0) := fun k_ hk_ => ⟨by have := HS.out; omega, by have := HS.out; omega, by rw [hf_]; have := HS.out; repeat' (first | omega | split)⟩
  have hcol1_ : ∀ k_, (((w.heap.size ≤ k_ ∧ k_ < w14_.heap.size) ∧ k_ ≠ gb1_ ∧ f14_ k_ = 1)) → ((w.heap.size ≤ k_ ∧ k_ < w14_.heap.size) ∧ k_ ≠ gb1_ ∧ f_ k_ = 1) := fun k_ hk_ => ⟨by have := HS.out; omega, by have := HS.out; omega, by rw [hf_]; have := HS.out; repeat' (first | omega | split)⟩
  have hcol2_ : ∀ k_, (((w.heap.size ≤ k_ ∧ k_ < w14_.heap.size) ∧ k_ ≠ gb1_ ∧ f14_ k_ = 2)) → ((w.heap.size ≤ k_ ∧ k_ < w14_.heap.size) ∧ k_ ≠ gb1_ ∧ f_ k_ = 2) := fun k_ hk_ => ⟨by have := HS.out; omega, by have := HS.out; omega, by rw [hf_]; have := HS.out; repeat' (first | omega | split)⟩
  have hcol3_ : ∀ k_, (((w.heap.size ≤ k_ ∧ k_ < w14_.heap.size) ∧ k_ ≠ gb1_ ∧ f14_ k_ = 3)) → ((w.heap.size ≤ k_ ∧ k_ < w14_.heap.size) ∧ k_ ≠ gb1_ ∧ f_ k_ = 3) := fun k_ hk_ => ⟨by have := HS.out; omega, by have := HS.out; omega, by rw [hf_]; have := HS.out; repeat' (first | omega | split)⟩
  have hfk_ : ∀ k_, k_ < w1.heap.size → f_ k_ < 4 → k_ = gb1_ ∨ f0_ k_ < 4 := fun k_ h1_ h2_ => by have := HS.out; rw [hf_] at h2_; have q14_ := HF14.out k_; have p14_ := HFP14.out k_; repeat' (first | omega | split at h2_ | split at p14_)
  first | exact ⟨f_, _, _, _, _, rfl, BK1.out, Kd.S_mono HO14_0.out hcol0_, Kd.S_mono HO14_1.out hcol1_, Kd.S_mono HO14_2.out hcol2_, Kd.R_mono HO14_3.out hcol3_, hfk_, HB.out, HK.out⟩ | exact ⟨rfl, f_, _, _, _, _, BK1.out, Kd.S_mono HO14_0.out hcol0_, Kd.S_mono HO14_1.out hcol1_, Kd.S_mono HO14_2.out hcol2_, Kd.R_mono HO14_3.out hcol3_, hfk_, HB.out, HK.out⟩
 rw [if_neg hc7_] at H
 have hc7_b0 : (a1_0 == 4) = false := beq_eq_false_iff_ne.mpr hc7_
 have hc7_bn : (a1_0 != 4) = true := bne_iff_ne.mpr hc7_
 by_cases hc8_ : a1_0 = 5
 case pos =>
  rw [if_pos hc8_] at H
  have hc8_b0 : (a1_0 == 5) = true := beq_iff_eq.mpr hc8_
  have hc8_bn : (a1_0 != 5) = false := bne_eq_false_iff_eq.mpr hc8_
  replace hc8_ := A_.mk hc8_
  replace H := oa_ H
  obtain ⟨⟨t33, t34, t35, t36, t37, t38, t39, t40⟩, A15, H⟩ := H
  try dsimp only at H
  simp only [Option.some.injEq, Prod.mk.injEq] at H
  obtain ⟨rfl, rfl, rfl, rfl, rfl, rfl, rfl, rfl⟩ := H
  have hu28 := Try.underlying28
  have hu34 := Try.underlying34
  have hu39 := Try.underlying39
  go_enter Try.func15, Try.ntmps15
  have Q1 := blk7_ BK1.out
  go_wp2_with (first | ((with_reducible refine gd_ (N := 3) rfl ?_); refine by_ 3 (cs := #[.int .i64 a1_0, .int .i64 a1_1]) (t := 39) ?_; intro gb2_ hg w2_ hbox hb; replace HS := A_.mk (And.intro HS.out (show gb2_ = w1.heap.size ∧ gb2_ < w2_.heap.size from ⟨hg, blk_lt hbox⟩)); replace HO0_1 := aSb HO0_1 hb; replace HO0_4 := aSb HO0_4 hb; replace HO0_5 := aSb HO0_5 hb; replace HO0_6 := aRb HO0_6 hb; replace BK1 := aBb BK1 hb; replace HK := A_.mk (HK.out.below hb); replace HB := aHB HB hb; have BK2 := A_.mk hbox; clear hbox hb hg Q1; have Q1 := blk7_ BK1.out; have Q2 := blk2_ BK2.out))
  obtain ⟨fp15_, hfp_⟩ : ∃ f_ : Nat → Nat, ∀ k_, f_ k_ = (if ((w.heap.size ≤ k_ ∧ k_ < w1.heap.size) ∧ k_ ≠ gb1_ ∧ f0_ k_ = 0) then 0 else (if ((w.heap.size ≤ k_ ∧ k_ < w1.heap.size) ∧ k_ ≠ gb1_ ∧ f0_ k_ = 1) then 1 else (if ((w.heap.size ≤ k_ ∧ k_ < w1.heap.size) ∧ k_ ≠ gb1_ ∧ f0_ k_ = 2) then 2 else (if ((w.heap.size ≤ k_ ∧ k_ < w1.heap.size) ∧ k_ ≠ gb1_ ∧ f0_ k_ = 3) then 3 else 4)))) := ⟨fun k_ => (if ((w.heap.size ≤ k_ ∧ k_ < w1.heap.size) ∧ k_ ≠ gb1_ ∧ f0_ k_ = 0) then 0 else (if ((w.heap.size ≤ k_ ∧ k_ < w1.heap.size) ∧ k_ ≠ gb1_ ∧ f0_ k_ = 1) then 1 else (if ((w.heap.size ≤ k_ ∧ k_ < w1.heap.size) ∧ k_ ≠ gb1_ ∧ f0_ k_ = 2) then 2 else (if ((w.heap.size ≤ k_ ∧ k_ < w1.heap.size) ∧ k_ ≠ gb1_ ∧ f0_ k_ = 3) then 3 else 4)))), fun _ => rfl⟩
  have hcp1_ : ∀ k_, (((w.heap.size ≤ k_ ∧ k_ < w1.heap.size) ∧ k_ ≠ gb1_ ∧ f0_ k_ = 0)) → ((w.heap.size ≤ k_ ∧ k_ < w2_.heap.size) ∧ k_ ≠ gb1_ ∧ fp15_ k_ = 0) := fun k_ hk_ => ⟨by have := HS.out; omega, by have := HS.out; first | omega | (intro he_; subst he_; omega), by rw [hfp_]; have := HS.out; repeat' (first | omega | split)⟩
  have hcp4_ : ∀ k_, (((w.heap.size ≤ k_ ∧ k_ < w1.heap.size) ∧ k_ ≠ gb1_ ∧ f0_ k_ = 1)) → ((w.heap.size ≤ k_ ∧ k_ < w2_.heap.size) ∧ k_ ≠ gb1_ ∧ fp15_ k_ = 1) := fun k_ hk_ => ⟨by have := HS.out; omega, by have := HS.out; first | omega | (intro he_; subst he_; omega), by rw [hfp_]; have := HS.out; repeat' (first | omega | split)⟩
  have hcp5_ : ∀ k_, (((w.heap.size ≤ k_ ∧ k_ < w1.heap.size) ∧ k_ ≠ gb1_ ∧ f0_ k_ = 2)) → ((w.heap.size ≤ k_ ∧ k_ < w2_.heap.size) ∧ k_ ≠ gb1_ ∧ fp15_ k_ = 2) := fun k_ hk_ => ⟨by have := HS.out; omega, by have := HS.out; first | omega | (intro he_; subst he_; omega), by rw [hfp_]; have := HS.out; repeat' (first | omega | split)⟩
  have hcp6_ : ∀ k_, (((w.heap.size ≤ k_ ∧ k_ < w1.heap.size) ∧ k_ ≠ gb1_ ∧ f0_ k_ = 3)) → ((w.heap.size ≤ k_ ∧ k_ < w2_.heap.size) ∧ k_ ≠ gb1_ ∧ fp15_ k_ = 3) := fun k_ hk_ => ⟨by have := HS.out; omega, by have := HS.out; first | omega | (intro he_; subst he_; omega), by rw [hfp_]; have := HS.out; repeat' (first | omega | split)⟩
  have hfb2_ : fp15_ gb2_ = 4 := by rw [hfp_]; have := HS.out; repeat' (first | omega | split)
  refine (impl_Link_answer.calls k gb1_ fp15_ a0_0 _ _ l0_1 a0_2 a0_3 _ _ l0_4 _ _ l0_5 _ _ l0_6 t33 t34 t35 t36 t37 t38 t39 t40 w _ HB.out (by have := HS.out; omega) BK1.out (Kd.S_mono HO0_1.out hcp1_) (Kd.S_mono HO0_4.out hcp4_) (Kd.S_mono HO0_5.out hcp5_) (Kd.R_mono HO0_6.out hcp6_) A15.out).mono ?_
  rintro e w15_ ⟨f15_, v0_, v1_, v2_, v3_, rfl, hbx_, ho1_, ho2_, ho3_, ho4_, hfk_, hbb, hkp⟩
  replace HK := A_.mk (HK.out.then_ hkp (fun k_ h_ => by have := HS.out; have h3_ := hfp_ k_; (try dsimp only at h_ ⊢); repeat' (first | omega | split at h3_)))
  have hge2_ : 4 ≤ f15_ gb2_ := by have h1_ := hfk_ gb2_ (blk_lt BK2.out); have := hfb2_; have := HS.out; omega
  have HF15 := A_.mk hfk_
  have HFP15 := A_.mk hfp_
  replace BK2 := A_.mk ((hkp.2 _ (blk_lt BK2.out) (fun _ => by have := hfb2_; have := HS.out; omega)).trans BK2.out)
  replace BK1 := A_.mk hbx_
  replace HB := A_.mk hbb
  replace HS := aHs HS hkp.1
  replace HS := aHs HS hge2_
  clear hfk_ hge2_
  obtain ⟨Ao15_0, co15_0, ev_⟩ := Kd.S_slice ho1_
  subst ev_
  have HO15_0 := A_.mk ho1_
  obtain ⟨Ao15_1, co15_1, ev_⟩ := Kd.S_slice ho2_
  subst ev_
  have HO15_1 := A_.mk ho2_
  obtain ⟨Ao15_2, co15_2, ev_⟩ := Kd.S_slice ho3_
  subst ev_
  have HO15_2 := A_.mk ho3_
  obtain ⟨Ao15_3, co15_3, ev_⟩ := Kd.R_slice ho4_
  subst ev_
  have HO15_3 := A_.mk ho4_
  clear hkp hbx_ hbb hfp_ hcp1_ hcp4_ hcp5_ hcp6_ ho1_ ho2_ ho3_ ho4_ hfb2_ Q1 Q2
  have Q1 := blk7_ BK1.out
  have Q2 := blk2_ BK2.out
  go_wp2
  go_ret
  obtain ⟨f_, hf_⟩ : ∃ f_ : Nat → Nat, ∀ k_, f_ k_ = (if ((w.heap.size ≤ k_ ∧ k_ < w15_.heap.size) ∧ k_ ≠ gb1_ ∧ f15_ k_ = 0) then 0 else (if ((w.heap.size ≤ k_ ∧ k_ < w15_.heap.size) ∧ k_ ≠ gb1_ ∧ f15_ k_ = 1) then 1 else (if ((w.heap.size ≤ k_ ∧ k_ < w15_.heap.size) ∧ k_ ≠ gb1_ ∧ f15_ k_ = 2) then 2 else (if ((w.heap.size ≤ k_ ∧ k_ < w15_.heap.size) ∧ k_ ≠ gb1_ ∧ f15_ k_ = 3) then 3 else 4)))) := ⟨fun k_ => (if ((w.heap.size ≤ k_ ∧ k_ < w15_.heap.size) ∧ k_ ≠ gb1_ ∧ f15_ k_ = 0) then 0 else (if ((w.heap.size ≤ k_ ∧ k_ < w15_.heap.size) ∧ k_ ≠ gb1_ ∧ f15_ k_ = 1) then 1 else (if ((w.heap.size ≤ k_ ∧ k_ < w15_.heap.size) ∧ k_ ≠ gb1_ ∧ f15_ k_ = 2) then 2 else (if ((w.heap.size ≤ k_ ∧ k_ < w15_.heap.size) ∧ k_ ≠ gb1_ ∧ f15_ k_ = 3) then 3 else 4)))), fun _ => rfl⟩
  have hcol0_ : ∀ k_, (((w.heap.size ≤ k_ ∧ k_ < w15_.heap.size) ∧ k_ ≠ gb1_ ∧ f15_ k_ = 0)) → ((w.heap.size ≤ k_ ∧ k_ < w15_.heap.size) ∧ k_ ≠ gb1_ ∧ f_ k_ = 0) := fun k_ hk_ => ⟨by have := HS.out; omega, by have := HS.out; omega, by rw [hf_]; have := HS.out; repeat' (first | omega | split)⟩
  have hcol1_ : ∀ k_, (((w.heap.size ≤ k_ ∧ k_ < w15_.heap.size) ∧ k_ ≠ gb1_ ∧ f15_ k_ = 1)) → ((w.heap.size ≤ k_ ∧ k_ < w15_.heap.size) ∧ k_ ≠ gb1_ ∧ f_ k_ = 1) := fun k_ hk_ => ⟨by have := HS.out; omega, by have := HS.out; omega, by rw [hf_]; have := HS.out; repeat' (first | omega | split)⟩
  have hcol2_ : ∀ k_, (((w.heap.size ≤ k_ ∧ k_ < w15_.heap.size) ∧ k_ ≠ gb1_ ∧ f15_ k_ = 2)) → ((w.heap.size ≤ k_ ∧ k_ < w15_.heap.size) ∧ k_ ≠ gb1_ ∧ f_ k_ = 2) := fun k_ hk_ => ⟨by have := HS.out; omega, by have := HS.out; omega, by rw [hf_]; have := HS.out; repeat' (first | omega | split)⟩
  have hcol3_ : ∀ k_, (((w.heap.size ≤ k_ ∧ k_ < w15_.heap.size) ∧ k_ ≠ gb1_ ∧ f15_ k_ = 3)) → ((w.heap.size ≤ k_ ∧ k_ < w15_.heap.size) ∧ k_ ≠ gb1_ ∧ f_ k_ = 3) := fun k_ hk_ => ⟨by have := HS.out; omega, by have := HS.out; omega, by rw [hf_]; have := HS.out; repeat' (first | omega | split)⟩
  have hfk_ : ∀ k_, k_ < w1.heap.size → f_ k_ < 4 → k_ = gb1_ ∨ f0_ k_ < 4 := fun k_ h1_ h2_ => by have := HS.out; rw [hf_] at h2_; have q15_ := HF15.out k_; have p15_ := HFP15.out k_; repeat' (first | omega | split at h2_ | split at p15_)
  first | exact ⟨f_, _, _, _, _, rfl, BK1.out, Kd.S_mono HO15_0.out hcol0_, Kd.S_mono HO15_1.out hcol1_, Kd.S_mono HO15_2.out hcol2_, Kd.R_mono HO15_3.out hcol3_, hfk_, HB.out, HK.out⟩ | exact ⟨rfl, f_, _, _, _, _, BK1.out, Kd.S_mono HO15_0.out hcol0_, Kd.S_mono HO15_1.out hcol1_, Kd.S_mono HO15_2.out hcol2_, Kd.R_mono HO15_3.out hcol3_, hfk_, HB.out, HK.out⟩
 rw [if_neg hc8_] at H
 have hc8_b0 : (a1_0 == 5) = false := beq_eq_false_iff_ne.mpr hc8_
 have hc8_bn : (a1_0 != 5) = true := bne_iff_ne.mpr hc8_
 by_cases hc9_ : a1_0 = 6
 case pos =>
  rw [if_pos hc9_] at H
  have hc9_b0 : (a1_0 == 6) = true := beq_iff_eq.mpr hc9_
  have hc9_bn : (a1_0 != 6) = false := bne_eq_false_iff_eq.mpr hc9_
  replace hc9_ := A_.mk hc9_
  replace H := oa_ H
  obtain ⟨⟨t41, t42, t43⟩, A16, H⟩ := H
  try dsimp only at H
  simp only [Option.some.injEq, Prod.mk.injEq] at H
  obtain ⟨rfl, rfl, rfl, rfl, rfl, rfl, rfl, rfl⟩ := H
  have hu28 := Try.underlying28
  have hu34 := Try.underlying34
  have hu39 := Try.underlying39
  go_enter Try.func15, Try.ntmps15
  have Q1 := blk7_ BK1.out
  go_wp2_with (first | ((with_reducible refine gd_ (N := 3) rfl ?_); refine by_ 3 (cs := #[.int .i64 a1_0, .int .i64 a1_1]) (t := 39) ?_; intro gb2_ hg w2_ hbox hb; replace HS := A_.mk (And.intro HS.out (show gb2_ = w1.heap.size ∧ gb2_ < w2_.heap.size from ⟨hg, blk_lt hbox⟩)); replace HO0_1 := aSb HO0_1 hb; replace HO0_4 := aSb HO0_4 hb; replace HO0_5 := aSb HO0_5 hb; replace HO0_6 := aRb HO0_6 hb; replace BK1 := aBb BK1 hb; replace HK := A_.mk (HK.out.below hb); replace HB := aHB HB hb; have BK2 := A_.mk hbox; clear hbox hb hg Q1; have Q1 := blk7_ BK1.out; have Q2 := blk2_ BK2.out) | ((with_reducible refine gc_ (f := 36) rfl ?_); refine gl_ (some 85) Try.func36 #[.agg #[.int .i64 a0_0, .slice A0_1 l0_1.length c0_1, .int .i64 a0_2]] ?_; (with_reducible refine (impl_Replay.calls k a0_0 _ _ l0_1 a0_2 t41 t42 t43 _ (Kd.S_reads' HO0_1.out).2.2 (Kd.S_reads' HO0_1.out).2.1 A16.out).mono ?_); rintro e w16_ ⟨f16_, v0_, rfl, ho0_, hb⟩; refine ⟨_, rfl, ?_⟩; replace HS := aHs HS hb.size; obtain ⟨Ao16_0, co16_0, ev_⟩ := Kd.S_slice ho0_; subst ev_; have HO16_0 := aSn ho0_ HB.out.size; replace HO0_1 := aSb HO0_1 hb; replace HO0_4 := aSb HO0_4 hb; replace HO0_5 := aSb HO0_5 hb; replace HO0_6 := aRb HO0_6 hb; replace BK1 := aBb BK1 hb; replace BK2 := aBb BK2 hb; replace HK := A_.mk (HK.out.below hb); replace HB := aHB HB hb; clear hb ho0_ Q1 Q2; have Q1 := blk7_ BK1.out; have Q2 := blk2_ BK2.out) | ((with_reducible refine gate_store (t := 28) (p := 87) rfl ?_); have qf0 := bf_ BK1.out 0; have qf1 := bf_ BK1.out 1; have qf2 := bf_ BK1.out 2; refine se_ (t := 28) (p := 87) (v := ?vo_17) (w1 := (((w16_.setCell ⟨gb1_, 0, none⟩ (.int .i64 t41)).setCell ⟨gb1_, 1, none⟩ (.slice Ao16_0 t42.length co16_0)).setCell ⟨gb1_, 2, none⟩ (.int .i64 t43))) ?hg ?ho ?hn ?hr ?_; (case ho => rfl); (case hg => rfl); (case hn => rfl); (case hr => first | (go_simp; done) | (go_simp; rfl)); intro w17_ hw; clear qf0 qf1 qf2; have hge : w.heap.size ≤ gb1_ := (by have := HS.out; omega); have hkp : Kept w16_ w17_ (fun k_ => k_ = gb1_) := (by rw [hw]; exact (Kept.of_set (Kept.of_set (Kept.of_set (Kept.refl _ _) _ _) _ _) _ _)); have hbb : Below w.heap.size w w17_ := (by rw [hw]; exact (bs_ (bs_ (bs_ HB.out hge) hge) hge)); have hbx : w17_.heap[gb1_]? = some (.cells #[.int .i64 t41, .slice Ao16_0 t42.length co16_0, .int .i64 t43, .int .i64 a0_3, .slice A0_4 l0_4.length c0_4, .slice A0_5 l0_5.length c0_5, .slice A0_6 l0_6.length c0_6] 34 (0, 0)) := (by rw [hw]; exact (bp_ (cs := #[.int .i64 t41, .slice Ao16_0 t42.length co16_0, .int .i64 a0_2, .int .i64 a0_3, .slice A0_4 l0_4.length c0_4, .slice A0_5 l0_5.length c0_5, .slice A0_6 l0_6.length c0_6]) (bp_ (cs := #[.int .i64 t41, .slice A0_1 l0_1.length c0_1, .int .i64 a0_2, .int .i64 a0_3, .slice A0_4 l0_4.length c0_4, .slice A0_5 l0_5.length c0_5, .slice A0_6 l0_6.length c0_6]) (bp_ (cs := #[.int .i64 a0_0, .slice A0_1 l0_1.length c0_1, .int .i64 a0_2, .int .i64 a0_3, .slice A0_4 l0_4.length c0_4, .slice A0_5 l0_5.length c0_5, .slice A0_6 l0_6.length c0_6]) BK1.out 0 _ rfl) 1 _ rfl) 2 _ rfl)); clear hw; replace HK := A_.mk (HK.out.then_ hkp (fun k_ h_ => by have := HS.out; (try dsimp only at h_ ⊢); omega)); replace HO0_4 := aSk HO0_4 hkp HS; replace HO0_5 := aSk HO0_5 hkp HS; replace HO0_6 := aRk HO0_6 hkp HS; replace HO16_0 := aSk HO16_0 hkp HS; replace BK2 := aBk BK2 hkp HS; replace BK1 := A_.mk hbx; replace HB := A_.mk hbb; replace HS := aHs HS hkp.1; clear hkp hbb hbx hge Q1 Q2; have Q1 := blk7_ BK1.out; have Q2 := blk2_ BK2.out))
  go_ret
  obtain ⟨f_, hf_⟩ : ∃ f_ : Nat → Nat, ∀ k_, f_ k_ = (if ((w2_.heap.size ≤ k_ ∧ k_ < w16_.heap.size) ∧ f16_ k_ = 0) then 0 else (if ((w.heap.size ≤ k_ ∧ k_ < w1.heap.size) ∧ k_ ≠ gb1_ ∧ f0_ k_ = 1) then 1 else (if ((w.heap.size ≤ k_ ∧ k_ < w1.heap.size) ∧ k_ ≠ gb1_ ∧ f0_ k_ = 2) then 2 else (if ((w.heap.size ≤ k_ ∧ k_ < w1.heap.size) ∧ k_ ≠ gb1_ ∧ f0_ k_ = 3) then 3 else 4)))) := ⟨fun k_ => (if ((w2_.heap.size ≤ k_ ∧ k_ < w16_.heap.size) ∧ f16_ k_ = 0) then 0 else (if ((w.heap.size ≤ k_ ∧ k_ < w1.heap.size) ∧ k_ ≠ gb1_ ∧ f0_ k_ = 1) then 1 else (if ((w.heap.size ≤ k_ ∧ k_ < w1.heap.size) ∧ k_ ≠ gb1_ ∧ f0_ k_ = 2) then 2 else (if ((w.heap.size ≤ k_ ∧ k_ < w1.heap.size) ∧ k_ ≠ gb1_ ∧ f0_ k_ = 3) then 3 else 4)))), fun _ => rfl⟩
  have hcol0_ : ∀ k_, (((w2_.heap.size ≤ k_ ∧ k_ < w16_.heap.size) ∧ f16_ k_ = 0)) → ((w.heap.size ≤ k_ ∧ k_ < w17_.heap.size) ∧ k_ ≠ gb1_ ∧ f_ k_ = 0) := fun k_ hk_ => ⟨by have := HS.out; omega, by have := HS.out; omega, by rw [hf_]; have := HS.out; repeat' (first | omega | split)⟩
  have hcol1_ : ∀ k_, (((w.heap.size ≤ k_ ∧ k_ < w1.heap.size) ∧ k_ ≠ gb1_ ∧ f0_ k_ = 1)) → ((w.heap.size ≤ k_ ∧ k_ < w17_.heap.size) ∧ k_ ≠ gb1_ ∧ f_ k_ = 1) := fun k_ hk_ => ⟨by have := HS.out; omega, by have := HS.out; omega, by rw [hf_]; have := HS.out; repeat' (first | omega | split)⟩
  have hcol2_ : ∀ k_, (((w.heap.size ≤ k_ ∧ k_ < w1.heap.size) ∧ k_ ≠ gb1_ ∧ f0_ k_ = 2)) → ((w.heap.size ≤ k_ ∧ k_ < w17_.heap.size) ∧ k_ ≠ gb1_ ∧ f_ k_ = 2) := fun k_ hk_ => ⟨by have := HS.out; omega, by have := HS.out; omega, by rw [hf_]; have := HS.out; repeat' (first | omega | split)⟩
  have hcol3_ : ∀ k_, (((w.heap.size ≤ k_ ∧ k_ < w1.heap.size) ∧ k_ ≠ gb1_ ∧ f0_ k_ = 3)) → ((w.heap.size ≤ k_ ∧ k_ < w17_.heap.size) ∧ k_ ≠ gb1_ ∧ f_ k_ = 3) := fun k_ hk_ => ⟨by have := HS.out; omega, by have := HS.out; omega, by rw [hf_]; have := HS.out; repeat' (first | omega | split)⟩
  have hfk_ : ∀ k_, k_ < w1.heap.size → f_ k_ < 4 → k_ = gb1_ ∨ f0_ k_ < 4 := fun k_ h1_ h2_ => by have := HS.out; rw [hf_] at h2_; repeat' (first | omega | split at h2_)
  first | exact ⟨f_, _, _, _, _, rfl, BK1.out, Kd.S_mono HO16_0.out hcol0_, Kd.S_mono HO0_4.out hcol1_, Kd.S_mono HO0_5.out hcol2_, Kd.R_mono HO0_6.out hcol3_, hfk_, HB.out, HK.out⟩ | exact ⟨rfl, f_, _, _, _, _, BK1.out, Kd.S_mono HO16_0.out hcol0_, Kd.S_mono HO0_4.out hcol1_, Kd.S_mono HO0_5.out hcol2_, Kd.R_mono HO0_6.out hcol3_, hfk_, HB.out, HK.out⟩
 rw [if_neg hc9_] at H
 have hc9_b0 : (a1_0 == 6) = false := beq_eq_false_iff_ne.mpr hc9_
 have hc9_bn : (a1_0 != 6) = true := bne_iff_ne.mpr hc9_
 simp only [Option.some.injEq, Prod.mk.injEq] at H
 obtain ⟨rfl, rfl, rfl, rfl, rfl, rfl, rfl, rfl⟩ := H
 have hu28 := Try.underlying28
 have hu34 := Try.underlying34
 have hu39 := Try.underlying39
 go_enter Try.func15, Try.ntmps15
 have Q1 := blk7_ BK1.out
 go_wp2_with (first | ((with_reducible refine gd_ (N := 3) rfl ?_); refine by_ 3 (cs := #[.int .i64 a1_0, .int .i64 a1_1]) (t := 39) ?_; intro gb2_ hg w2_ hbox hb; replace HS := A_.mk (And.intro HS.out (show gb2_ = w1.heap.size ∧ gb2_ < w2_.heap.size from ⟨hg, blk_lt hbox⟩)); replace HO0_1 := aSb HO0_1 hb; replace HO0_4 := aSb HO0_4 hb; replace HO0_5 := aSb HO0_5 hb; replace HO0_6 := aRb HO0_6 hb; replace BK1 := aBb BK1 hb; replace HK := A_.mk (HK.out.below hb); replace HB := aHB HB hb; have BK2 := A_.mk hbox; clear hbox hb hg Q1; have Q1 := blk7_ BK1.out; have Q2 := blk2_ BK2.out))
 go_ret
 obtain ⟨f_, hf_⟩ : ∃ f_ : Nat → Nat, ∀ k_, f_ k_ = (if ((w.heap.size ≤ k_ ∧ k_ < w1.heap.size) ∧ k_ ≠ gb1_ ∧ f0_ k_ = 0) then 0 else (if ((w.heap.size ≤ k_ ∧ k_ < w1.heap.size) ∧ k_ ≠ gb1_ ∧ f0_ k_ = 1) then 1 else (if ((w.heap.size ≤ k_ ∧ k_ < w1.heap.size) ∧ k_ ≠ gb1_ ∧ f0_ k_ = 2) then 2 else (if ((w.heap.size ≤ k_ ∧ k_ < w1.heap.size) ∧ k_ ≠ gb1_ ∧ f0_ k_ = 3) then 3 else 4)))) := ⟨fun k_ => (if ((w.heap.size ≤ k_ ∧ k_ < w1.heap.size) ∧ k_ ≠ gb1_ ∧ f0_ k_ = 0) then 0 else (if ((w.heap.size ≤ k_ ∧ k_ < w1.heap.size) ∧ k_ ≠ gb1_ ∧ f0_ k_ = 1) then 1 else (if ((w.heap.size ≤ k_ ∧ k_ < w1.heap.size) ∧ k_ ≠ gb1_ ∧ f0_ k_ = 2) then 2 else (if ((w.heap.size ≤ k_ ∧ k_ < w1.heap.size) ∧ k_ ≠ gb1_ ∧ f0_ k_ = 3) then 3 else 4)))), fun _ => rfl⟩
 have hcol0_ : ∀ k_, (((w.heap.size ≤ k_ ∧ k_ < w1.heap.size) ∧ k_ ≠ gb1_ ∧ f0_ k_ = 0)) → ((w.heap.size ≤ k_ ∧ k_ < w2_.heap.size) ∧ k_ ≠ gb1_ ∧ f_ k_ = 0) := fun k_ hk_ => ⟨by have := HS.out; omega, by have := HS.out; omega, by rw [hf_]; have := HS.out; repeat' (first | omega | split)⟩
 have hcol1_ : ∀ k_, (((w.heap.size ≤ k_ ∧ k_ < w1.heap.size) ∧ k_ ≠ gb1_ ∧ f0_ k_ = 1)) → ((w.heap.size ≤ k_ ∧ k_ < w2_.heap.size) ∧ k_ ≠ gb1_ ∧ f_ k_ = 1) := fun k_ hk_ => ⟨by have := HS.out; omega, by have := HS.out; omega, by rw [hf_]; have := HS.out; repeat' (first | omega | split)⟩
 have hcol2_ : ∀ k_, (((w.heap.size ≤ k_ ∧ k_ < w1.heap.size) ∧ k_ ≠ gb1_ ∧ f0_ k_ = 2)) → ((w.heap.size ≤ k_ ∧ k_ < w2_.heap.size) ∧ k_ ≠ gb1_ ∧ f_ k_ = 2) := fun k_ hk_ => ⟨by have := HS.out; omega, by have := HS.out; omega, by rw [hf_]; have := HS.out; repeat' (first | omega | split)⟩
 have hcol3_ : ∀ k_, (((w.heap.size ≤ k_ ∧ k_ < w1.heap.size) ∧ k_ ≠ gb1_ ∧ f0_ k_ = 3)) → ((w.heap.size ≤ k_ ∧ k_ < w2_.heap.size) ∧ k_ ≠ gb1_ ∧ f_ k_ = 3) := fun k_ hk_ => ⟨by have := HS.out; omega, by have := HS.out; omega, by rw [hf_]; have := HS.out; repeat' (first | omega | split)⟩
 have hfk_ : ∀ k_, k_ < w1.heap.size → f_ k_ < 4 → k_ = gb1_ ∨ f0_ k_ < 4 := fun k_ h1_ h2_ => by have := HS.out; rw [hf_] at h2_; repeat' (first | omega | split at h2_)
 first | exact ⟨f_, _, _, _, _, rfl, BK1.out, Kd.S_mono HO0_1.out hcol0_, Kd.S_mono HO0_4.out hcol1_, Kd.S_mono HO0_5.out hcol2_, Kd.R_mono HO0_6.out hcol3_, hfk_, HB.out, HK.out⟩ | exact ⟨rfl, f_, _, _, _, _, BK1.out, Kd.S_mono HO0_1.out hcol0_, Kd.S_mono HO0_4.out hcol1_, Kd.S_mono HO0_5.out hcol2_, Kd.R_mono HO0_6.out hcol3_, hfk_, HB.out, HK.out⟩
end Go.Proofs.Ytflopendlbciaaa.PFnLinkOnce
