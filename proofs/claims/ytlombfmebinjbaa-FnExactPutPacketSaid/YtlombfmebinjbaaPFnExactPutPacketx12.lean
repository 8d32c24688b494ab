-- Written by a program of this session (wip/xp): not trusted, Lean checks it.
import Derived.Test.YtlombfmebinjbaaPFnExactPutPacketx0
import Derived.Test.YtlombfmebinjbaaPFnExactPutPacketx1
import Derived.Test.YtlombfmebinjbaaPFnExactPutPacketx6
import Derived.Test.YtlombfmebinjbaaPFnExactPutPacketx9
namespace Go.Proofs.Ytlombfmebinjbaa.PFnExactPutPacket
open Go.RowKit Go.Proofs.YtlombfmebinjbaaW.PrintWords Go.Proofs.YtlombfmebinjbaaW.PrintLast Go.Proofs.YtlombfmebinjbaaW.PrintMore
attribute [local go_sem] max2_int min2_int max_two min_two max_three min_three max_four min_four   -- for this text's walks alone
set_option linter.unusedVariables false
set_option linter.unusedSimpArgs false

theorem el1_ {w W : World} {a0 : Addr} {v0 : Value} (hb : Below w.heap.size w W) (h : w.cell? a0 = some v0) : W.cell? a0 = some v0 := (hb.cell (wl_ _ _ h)).trans h
theorem R_at0 {α : Type} {d : Kd α} {e base n c : Nat} {W : World} {ok : Nat → Prop} {A : Option Addr} {xs : List α} (h : Kd.R d e W base ok (.slice A n c) xs) (hn : 0 < n) : ∃ g, A = some ⟨g, 0, none⟩ := by
 obtain ⟨_, inner, hown, _⟩ := h
 rcases hown.2 with ⟨hv, _⟩ | ⟨g', cap', cur, hv, _⟩
 ·cases hv; omega
 ·cases hv; exact ⟨_, rfl⟩
theorem rcl_ {W : World} {base e g n c : Nat} {ok : Nat → Prop} {xs : List Int} {j : Int} (h : Kd.R (Kd.int .i64) e W base ok (.slice (some ⟨g, 0, none⟩) n c) xs) (hb : 0 ≤ j ∧ j < (xs.length : Int)) : W.cell? ⟨g, j.toNat, none⟩ = some (.int .i64 (rd xs j)) := by
 obtain ⟨rfl, _⟩ := Kd.R_reads' h
 exact (Kd.R_celln 0 h j hb.1 hb.2).1
theorem rcf_ {W : World} {base e g n c : Nat} {ok : Nat → Prop} {xs : List Int} {j : Int} (h : Kd.R (Kd.int .i64) e W base ok (.slice (some ⟨g, 0, none⟩) n c) xs) (hb : 0 ≤ j ∧ j < (xs.length : Int)) : W.frozen? ⟨g, j.toNat, none⟩ = false := by
 obtain ⟨rfl, _⟩ := Kd.R_reads' h
 exact (Kd.R_celln 0 h j hb.1 hb.2).2
theorem ost_ {w W W' : World} {e g n c : Nat} {ok : Nat → Prop} {xs : List Int} {j x : Int} (hw : W' = W.setCell ⟨g, j.toNat, none⟩ (.int .i64 x)) (h : A_ (Kd.R (Kd.int .i64) e W w.heap.size ok (.slice (some ⟨g, 0, none⟩) n c) xs)) (hb : A_ (Below w.heap.size w W)) :
  Kd.R (Kd.int .i64) e W' w.heap.size ok (.slice (some ⟨g, 0, none⟩) n c) (xs.set j.toNat x) ∧ Kept W W' (fun k_ => ok k_) ∧ Below w.heap.size w W' := by
 subst hw
 exact ⟨Kd.R_putn h.out j x, Kept.setCell (Kept.refl _ _) (.inl (h.out.1 g rfl)) _, bs_ hb.out (Kd.R_base h.out _ (by simp [Value.ownBlock]))⟩
/-! ### spec_CanSend: function 65, its calls in a row -/
def spec_CanSend.f (k : Nat) (l0_0 : List Int) (l0_1 : List Int) (a1_0 : Int) (a1_1 : Int) (a1_2 : Int) (a1_3 : Int) (a1_4 : Int) (a1_5 : Int) (a1_6 : Int) (l1_7 : List Int) : Option ((Bool)) := ((spec_ClassOf.f k a1_0 a1_1 a1_2 a1_3 a1_4 a1_5 a1_6 l1_7).bind fun t1 => ((spec_CreditsOk.f k l0_0 l0_1).bind fun t2 => (if t2 = true then (if 0 ≤ t1 then (if 0 ≤ t1 then (if t1 < (l0_0.length : Int) then (if 1 ≤ (rd l0_0 t1) then (if 0 ≤ t1 then (if t1 < (l0_1.length : Int) then ((spec_PacketUnits.f k a1_0 a1_1 a1_2 a1_3 a1_4 a1_5 a1_6 l1_7).bind fun t3 => (if t3 ≤ (rd l0_1 t1) then (some (true)) else (some (false)))) else none) else none) else (some (false))) else none) else none) else (some (false))) else (some (false)))))
set_option maxHeartbeats 8000000 in
set_option maxRecDepth 100000 in
theorem spec_CanSend.calls (k : Nat) (A0_0 : Option Addr) (c0_0 : Nat) (l0_0 : List Int) (A0_1 : Option Addr) (c0_1 : Nat) (l0_1 : List Int) (a1_0 : Int) (a1_1 : Int) (a1_2 : Int) (a1_3 : Int) (a1_4 : Int) (a1_5 : Int) (a1_6 : Int) (A1_7 : Option Addr) (c1_7 : Nat) (l1_7 : List Int) (r : Bool) (w : World) (hr0_0 : Kd.C (Kd.int .i64) w A0_0 l0_0.length l0_0) (hc0_0 : l0_0.length ≤ c0_0) (hr0_1 : Kd.C (Kd.int .i64) w A0_1 l0_1.length l0_1) (hc0_1 : l0_1.length ≤ c0_1) (hr1_7 : Kd.C (Kd.int .i64) w A1_7 l1_7.length l1_7) (hc1_7 : l1_7.length ≤ c1_7) (h : spec_CanSend.f k l0_0 l0_1 a1_0 a1_1 a1_2 a1_3 a1_4 a1_5 a1_6 l1_7 = some r) :
  Calls Try.prog 65 #[.agg #[.slice A0_0 l0_0.length c0_0, .slice A0_1 l0_1.length c0_1], .agg #[.int .i64 a1_0, .int .i64 a1_1, .int .i64 a1_2, .int .i64 a1_3, .int .i64 a1_4, .int .i64 a1_5, .int .i64 a1_6, .slice A1_7 l1_7.length c1_7]] w fun e w' => e = .returned (.bool r) ∧ Below w.heap.size w w' := by
 have HR0_0 := A_.mk hr0_0
 have HC0_0 := A_.mk hc0_0
 have HW0_0 := A_.mk hr0_0
 clear hr0_0 hc0_0
 have HR0_1 := A_.mk hr0_1
 have HC0_1 := A_.mk hc0_1
 have HW0_1 := A_.mk hr0_1
 clear hr0_1 hc0_1
 have HR1_7 := A_.mk hr1_7
 have HC1_7 := A_.mk hc1_7
 clear hr1_7 hc1_7
 have HB := A_.mk (Below.refl w.heap.size w)
 unfold spec_CanSend.f at h
 have H := h
 clear h
 replace H := oa_ H
 obtain ⟨t1, A3, H⟩ := H
 replace H := oa_ H
 obtain ⟨t2, A4, H⟩ := H
 by_cases hc1_ : t2 = true
 case neg =>
  rw [if_neg hc1_] at H
  replace hc1_ := eq_false_of_ne_true hc1_
  subst hc1_
  replace H := Option.some.inj H
  subst H
  have hu30 := Try.underlying30
  have hu38 := Try.underlying38
  go_enter Try.func65, Try.ntmps65
  have HS := A_.mk (Nat.le_refl w.heap.size)
  go_wp2_with (first | ((with_reducible refine gd_ (N := 2) rfl ?_); refine by_ 2 (cs := #[.slice A0_0 l0_0.length c0_0, .slice A0_1 l0_1.length c0_1]) (t := 30) ?_; intro gb1_ hg w1_ hbox hb; replace HS := A_.mk (And.intro HS.out (show gb1_ = w.heap.size ∧ gb1_ < w1_.heap.size from ⟨hg, blk_lt hbox⟩)); replace HB := aHB HB hb; have BK1 := A_.mk hbox; clear hbox hb hg; have Q1 := blk2_ BK1.out) | ((with_reducible refine gd_ (N := 3) rfl ?_); refine by_ 3 (cs := #[.int .i64 a1_0, .int .i64 a1_1, .int .i64 a1_2, .int .i64 a1_3, .int .i64 a1_4, .int .i64 a1_5, .int .i64 a1_6, .slice A1_7 l1_7.length c1_7]) (t := 38) ?_; intro gb2_ hg w2_ hbox hb; replace HS := A_.mk (And.intro HS.out (show gb2_ = w1_.heap.size ∧ gb2_ < w2_.heap.size from ⟨hg, blk_lt hbox⟩)); replace BK1 := aBb BK1 hb; replace HB := aHB HB hb; have BK2 := A_.mk hbox; clear hbox hb hg Q1; have Q1 := blk2_ BK1.out; have Q2 := blk8_ BK2.out))
  (with_reducible refine (spec_ClassOf.calls k a1_0 a1_1 a1_2 a1_3 a1_4 a1_5 a1_6 _ _ l1_7 t1 _ (Kd.C_below HR1_7.out HB.out) HC1_7.out A3.out).mono ?_)
  rintro e w3_ ⟨rfl, hb⟩
  replace HS := aHs HS hb.size
  replace BK1 := aBb BK1 hb
  replace BK2 := aBb BK2 hb
  replace HB := aHB HB hb
  clear hb  Q1 Q2
  have Q1 := blk2_ BK1.out
  have Q2 := blk8_ BK2.out
  go_wp2_with (fail)
  refine start_ (n := 25) (S := fun w' => (w'.cell? ⟨gb1_, 0, none⟩ = some (.slice A0_0 l0_0.length c0_0) ∧ w'.cell? ⟨gb1_, 1, none⟩ = some (.slice A0_1 l0_1.length c0_1))) (ds := []) #[F, F, F, F, F, F, F, F, F, F, F, F, F, F, F, F, F, F, F, F, F, F, F, F, F] (by kernel_rfl) rfl rfl (blk2_ BK1.out) (fun hHeld => ?_)
  clear Q1 Q2
  have hb := below_drew (Below.refl w3_.heap.size w3_)
  replace HS := aHs HS hb.size
  replace BK1 := aBb BK1 hb
  replace BK2 := aBb BK2 hb
  replace HB := aHB HB hb
  clear hb
  generalize w3_.drew = w8d_ at BK1 BK2 HB HS hHeld ⊢
  refine tl_ (i := 0) (N := some 8) #[T, F, F, F, F, F, F, F, F, F, F, F, F, F, F, F, F, F, F, F, F, F, F, F, F] rfl hHeld ?_
  refine on_ (i := 1) (N := some 9) #[T, T, F, F, F, F, F, F, F, F, F, F, F, F, F, F, F, F, F, F, F, F, F, F, F] rfl (fun K hK => ?_)
  refine gz_ Try.func33 #[.agg #[.slice A0_0 l0_0.length c0_0, .slice A0_1 l0_1.length c0_1]] ?_
  with_reducible refine (spec_CreditsOk.calls k _ _ l0_0 _ _ l0_1 false _ (Kd.C_below HR0_0.out HB.out) HC0_0.out (Kd.C_below HR0_1.out HB.out) HC0_1.out A4.out).mono ?_
  rintro e w4_ ⟨rfl, hb⟩
  refine ⟨_, rfl, ?_⟩
  replace HS := aHs HS hb.size
  replace BK1 := aBb BK1 hb
  replace BK2 := aBb BK2 hb
  replace HB := aHB HB hb
  clear hb 
  refine hK.out _ _ (blk2_ BK1.out) (fun hHeld => ?_)
  clear hK K
  refine nm_ ?_
  refine pd_ (i := 2) (N := some 10) #[T, T, T, F, F, F, F, F, F, F, F, F, F, F, F, F, F, F, F, F, F, F, F, F, F] rfl ?_
  refine pw_ (i := 3) (N := some 11) #[T, T, T, T, F, F, F, F, F, F, F, F, F, F, F, F, F, F, F, F, F, F, F, F, F] rfl ?_
  refine pw_ (i := 4) (N := some 12) #[T, T, T, T, T, F, F, F, F, F, F, F, F, F, F, F, F, F, F, F, F, F, F, F, F] rfl ?_
  refine pd_ (i := 5) (N := some 13) #[T, T, T, T, T, T, F, F, F, F, F, F, F, F, F, F, F, F, F, F, F, F, F, F, F] rfl ?_
  refine pd_ (i := 6) (N := some 14) #[T, T, T, T, T, T, T, F, F, F, F, F, F, F, F, F, F, F, F, F, F, F, F, F, F] rfl ?_
  refine pw_ (i := 7) (N := some 15) #[T, T, T, T, T, T, T, T, F, F, F, F, F, F, F, F, F, F, F, F, F, F, F, F, F] rfl ?_
  refine pw_ (i := 8) (N := some 16) #[T, T, T, T, T, T, T, T, T, F, F, F, F, F, F, F, F, F, F, F, F, F, F, F, F] rfl ?_
  refine pw_ (i := 9) (N := some 17) #[T, T, T, T, T, T, T, T, T, T, F, F, F, F, F, F, F, F, F, F, F, F, F, F, F] rfl ?_
  refine pw_ (i := 10) (N := some 18) #[T, T, T, T, T, T, T, T, T, T, T, F, F, F, F, F, F, F, F, F, F, F, F, F, F] rfl ?_
  refine pw_ (i := 11) (N := some 19) #[T, T, T, T, T, T, T, T, T, T, T, T, F, F, F, F, F, F, F, F, F, F, F, F, F] rfl ?_
  refine pw_ (i := 12) (N := some 20) #[T, T, T, T, T, T, T, T, T, T, T, T, T, F, F, F, F, F, F, F, F, F, F, F, F] rfl ?_
  refine pd_ (i := 13) (N := some 21) #[T, T, T, T, T, T, T, T, T, T, T, T, T, T, F, F, F, F, F, F, F, F, F, F, F] rfl ?_
  refine pd_ (i := 14) (N := some 22) #[T, T, T, T, T, T, T, T, T, T, T, T, T, T, T, F, F, F, F, F, F, F, F, F, F] rfl ?_
  refine pw_ (i := 15) (N := some 23) #[T, T, T, T, T, T, T, T, T, T, T, T, T, T, T, T, F, F, F, F, F, F, F, F, F] rfl ?_
  refine pw_ (i := 16) (N := some 24) #[T, T, T, T, T, T, T, T, T, T, T, T, T, T, T, T, T, F, F, F, F, F, F, F, F] rfl ?_
  refine pw_ (i := 17) (N := some 25) #[T, T, T, T, T, T, T, T, T, T, T, T, T, T, T, T, T, T, F, F, F, F, F, F, F] rfl ?_
  refine pw_ (i := 18) (N := some 26) #[T, T, T, T, T, T, T, T, T, T, T, T, T, T, T, T, T, T, T, F, F, F, F, F, F] rfl ?_
  refine pw_ (i := 19) (N := some 27) #[T, T, T, T, T, T, T, T, T, T, T, T, T, T, T, T, T, T, T, T, F, F, F, F, F] rfl ?_
  refine pw_ (i := 20) (N := some 28) #[T, T, T, T, T, T, T, T, T, T, T, T, T, T, T, T, T, T, T, T, T, F, F, F, F] rfl ?_
  refine pw_ (i := 21) (N := some 29) #[T, T, T, T, T, T, T, T, T, T, T, T, T, T, T, T, T, T, T, T, T, T, F, F, F] rfl ?_
  refine pw_ (i := 22) (N := some 30) #[T, T, T, T, T, T, T, T, T, T, T, T, T, T, T, T, T, T, T, T, T, T, T, F, F] rfl ?_
  refine pd_ (i := 23) (N := some 31) #[T, T, T, T, T, T, T, T, T, T, T, T, T, T, T, T, T, T, T, T, T, T, T, T, F] rfl ?_
  refine pd_ (i := 24) (N := some 4) #[T, T, T, T, T, T, T, T, T, T, T, T, T, T, T, T, T, T, T, T, T, T, T, T, T] rfl ?_
  refine done_ (by kernel_rfl) ?_
  have Q1 := blk2_ BK1.out
  have Q2 := blk8_ BK2.out
  go_wp2
  go_ret
  exact ⟨rfl, HB.out⟩
 rw [if_pos hc1_] at H
 subst hc1_
 by_cases hc2_ : 0 ≤ t1
 case neg =>
  rw [if_neg hc2_] at H
  have hc2_b0 : decide (0 ≤ t1) = false := decide_eq_false hc2_
  replace H := Option.some.inj H
  subst H
  have hu30 := Try.underlying30
  have hu38 := Try.underlying38
  go_enter Try.func65, Try.ntmps65
  have HS := A_.mk (Nat.le_refl w.heap.size)
  go_wp2_with (first | ((with_reducible refine gd_ (N := 2) rfl ?_); refine by_ 2 (cs := #[.slice A0_0 l0_0.length c0_0, .slice A0_1 l0_1.length c0_1]) (t := 30) ?_; intro gb1_ hg w1_ hbox hb; replace HS := A_.mk (And.intro HS.out (show gb1_ = w.heap.size ∧ gb1_ < w1_.heap.size from ⟨hg, blk_lt hbox⟩)); replace HB := aHB HB hb; have BK1 := A_.mk hbox; clear hbox hb hg; have Q1 := blk2_ BK1.out) | ((with_reducible refine gd_ (N := 3) rfl ?_); refine by_ 3 (cs := #[.int .i64 a1_0, .int .i64 a1_1, .int .i64 a1_2, .int .i64 a1_3, .int .i64 a1_4, .int .i64 a1_5, .int .i64 a1_6, .slice A1_7 l1_7.length c1_7]) (t := 38) ?_; intro gb2_ hg w2_ hbox hb; replace HS := A_.mk (And.intro HS.out (show gb2_ = w1_.heap.size ∧ gb2_ < w2_.heap.size from ⟨hg, blk_lt hbox⟩)); replace BK1 := aBb BK1 hb; replace HB := aHB HB hb; have BK2 := A_.mk hbox; clear hbox hb hg Q1; have Q1 := blk2_ BK1.out; have Q2 := blk8_ BK2.out))
  (with_reducible refine (spec_ClassOf.calls k a1_0 a1_1 a1_2 a1_3 a1_4 a1_5 a1_6 _ _ l1_7 t1 _ (Kd.C_below HR1_7.out HB.out) HC1_7.out A3.out).mono ?_)
  rintro e w3_ ⟨rfl, hb⟩
  replace HS := aHs HS hb.size
  replace BK1 := aBb BK1 hb
  replace BK2 := aBb BK2 hb
  replace HB := aHB HB hb
  clear hb  Q1 Q2
  have Q1 := blk2_ BK1.out
  have Q2 := blk8_ BK2.out
  go_wp2_with (fail)
  refine start_ (n := 25) (S := fun w' => (w'.cell? ⟨gb1_, 0, none⟩ = some (.slice A0_0 l0_0.length c0_0) ∧ w'.cell? ⟨gb1_, 1, none⟩ = some (.slice A0_1 l0_1.length c0_1))) (ds := []) #[F, F, F, F, F, F, F, F, F, F, F, F, F, F, F, F, F, F, F, F, F, F, F, F, F] (by kernel_rfl) rfl rfl (blk2_ BK1.out) (fun hHeld => ?_)
  clear Q1 Q2
  have hb := below_drew (Below.refl w3_.heap.size w3_)
  replace HS := aHs HS hb.size
  replace BK1 := aBb BK1 hb
  replace BK2 := aBb BK2 hb
  replace HB := aHB HB hb
  clear hb
  generalize w3_.drew = w9d_ at BK1 BK2 HB HS hHeld ⊢
  refine tl_ (i := 0) (N := some 8) #[T, F, F, F, F, F, F, F, F, F, F, F, F, F, F, F, F, F, F, F, F, F, F, F, F] rfl hHeld ?_
  refine on_ (i := 1) (N := some 9) #[T, T, F, F, F, F, F, F, F, F, F, F, F, F, F, F, F, F, F, F, F, F, F, F, F] rfl (fun K hK => ?_)
  refine gz_ Try.func33 #[.agg #[.slice A0_0 l0_0.length c0_0, .slice A0_1 l0_1.length c0_1]] ?_
  with_reducible refine (spec_CreditsOk.calls k _ _ l0_0 _ _ l0_1 true _ (Kd.C_below HR0_0.out HB.out) HC0_0.out (Kd.C_below HR0_1.out HB.out) HC0_1.out A4.out).mono ?_
  rintro e w4_ ⟨rfl, hb⟩
  refine ⟨_, rfl, ?_⟩
  replace HS := aHs HS hb.size
  replace BK1 := aBb BK1 hb
  replace BK2 := aBb BK2 hb
  replace HB := aHB HB hb
  clear hb 
  refine hK.out _ _ (blk2_ BK1.out) (fun hHeld => ?_)
  clear hK K
  refine nm_ ?_
  refine pd_ (i := 2) (N := some 10) #[T, T, T, F, F, F, F, F, F, F, F, F, F, F, F, F, F, F, F, F, F, F, F, F, F] rfl ?_
  refine pd_ (i := 3) (N := some 11) #[T, T, T, T, F, F, F, F, F, F, F, F, F, F, F, F, F, F, F, F, F, F, F, F, F] rfl ?_
  refine pd_ (i := 4) (N := some 12) #[T, T, T, T, T, F, F, F, F, F, F, F, F, F, F, F, F, F, F, F, F, F, F, F, F] rfl ?_
  refine pd_ (i := 5) (N := some 13) #[T, T, T, T, T, T, F, F, F, F, F, F, F, F, F, F, F, F, F, F, F, F, F, F, F] rfl ?_
  refine pd_ (i := 6) (N := some 14) #[T, T, T, T, T, T, T, F, F, F, F, F, F, F, F, F, F, F, F, F, F, F, F, F, F] rfl ?_
  refine pw_ (i := 7) (N := some 15) #[T, T, T, T, T, T, T, T, F, F, F, F, F, F, F, F, F, F, F, F, F, F, F, F, F] rfl ?_
  refine pw_ (i := 8) (N := some 16) #[T, T, T, T, T, T, T, T, T, F, F, F, F, F, F, F, F, F, F, F, F, F, F, F, F] rfl ?_
  refine pw_ (i := 9) (N := some 17) #[T, T, T, T, T, T, T, T, T, T, F, F, F, F, F, F, F, F, F, F, F, F, F, F, F] rfl ?_
  refine pw_ (i := 10) (N := some 18) #[T, T, T, T, T, T, T, T, T, T, T, F, F, F, F, F, F, F, F, F, F, F, F, F, F] rfl ?_
  refine pw_ (i := 11) (N := some 19) #[T, T, T, T, T, T, T, T, T, T, T, T, F, F, F, F, F, F, F, F, F, F, F, F, F] rfl ?_
  refine pw_ (i := 12) (N := some 20) #[T, T, T, T, T, T, T, T, T, T, T, T, T, F, F, F, F, F, F, F, F, F, F, F, F] rfl ?_
  refine pd_ (i := 13) (N := some 21) #[T, T, T, T, T, T, T, T, T, T, T, T, T, T, F, F, F, F, F, F, F, F, F, F, F] rfl ?_
  refine pd_ (i := 14) (N := some 22) #[T, T, T, T, T, T, T, T, T, T, T, T, T, T, T, F, F, F, F, F, F, F, F, F, F] rfl ?_
  refine pw_ (i := 15) (N := some 23) #[T, T, T, T, T, T, T, T, T, T, T, T, T, T, T, T, F, F, F, F, F, F, F, F, F] rfl ?_
  refine pw_ (i := 16) (N := some 24) #[T, T, T, T, T, T, T, T, T, T, T, T, T, T, T, T, T, F, F, F, F, F, F, F, F] rfl ?_
  refine pw_ (i := 17) (N := some 25) #[T, T, T, T, T, T, T, T, T, T, T, T, T, T, T, T, T, T, F, F, F, F, F, F, F] rfl ?_
  refine pw_ (i := 18) (N := some 26) #[T, T, T, T, T, T, T, T, T, T, T, T, T, T, T, T, T, T, T, F, F, F, F, F, F] rfl ?_
  refine pw_ (i := 19) (N := some 27) #[T, T, T, T, T, T, T, T, T, T, T, T, T, T, T, T, T, T, T, T, F, F, F, F, F] rfl ?_
  refine pw_ (i := 20) (N := some 28) #[T, T, T, T, T, T, T, T, T, T, T, T, T, T, T, T, T, T, T, T, T, F, F, F, F] rfl ?_
  refine pw_ (i := 21) (N := some 29) #[T, T, T, T, T, T, T, T, T, T, T, T, T, T, T, T, T, T, T, T, T, T, F, F, F] rfl ?_
  refine pw_ (i := 22) (N := some 30) #[T, T, T, T, T, T, T, T, T, T, T, T, T, T, T, T, T, T, T, T, T, T, T, F, F] rfl ?_
  refine pd_ (i := 23) (N := some 31) #[T, T, T, T, T, T, T, T, T, T, T, T, T, T, T, T, T, T, T, T, T, T, T, T, F] rfl ?_
  refine pd_ (i := 24) (N := some 4) #[T, T, T, T, T, T, T, T, T, T, T, T, T, T, T, T, T, T, T, T, T, T, T, T, T] rfl ?_
  refine done_ (by kernel_rfl) ?_
  have Q1 := blk2_ BK1.out
  have Q2 := blk8_ BK2.out
  go_wp2
  go_ret
  exact ⟨rfl, HB.out⟩
 rw [if_pos hc2_] at H
 have hc2_b0 : decide (0 ≤ t1) = true := decide_eq_true hc2_
 by_cases hp5_ : 0 ≤ t1
 case neg => rw [if_neg hp5_] at H; cases H
 rw [if_pos hp5_] at H
 by_cases hq5_ : t1 < (l0_0.length : Int)
 case neg => rw [if_neg hq5_] at H; cases H
 rw [if_pos hq5_] at H
 have EB5 := A_.mk (And.intro hp5_ hq5_)
 obtain ⟨ad5_, eA_, hx0_⟩ := Kd.at_int HW0_0.out t1 hp5_ hq5_
 subst eA_
 have HX5 := A_.mk hx0_
 clear hx0_
 replace hp5_ := eq_true hp5_
 replace hq5_ := eq_true hq5_
 by_cases hc3_ : 1 ≤ (rd l0_0 t1)
 case neg =>
  rw [if_neg hc3_] at H
  have hc3_b0 : decide (1 ≤ (rd l0_0 t1)) = false := decide_eq_false hc3_
  replace H := Option.some.inj H
  subst H
  have hu30 := Try.underlying30
  have hu38 := Try.underlying38
  go_enter Try.func65, Try.ntmps65
  have HS := A_.mk (Nat.le_refl w.heap.size)
  go_wp2_with (first | ((with_reducible refine gd_ (N := 2) rfl ?_); refine by_ 2 (cs := #[.slice (some ad5_) l0_0.length c0_0, .slice A0_1 l0_1.length c0_1]) (t := 30) ?_; intro gb1_ hg w1_ hbox hb; replace HS := A_.mk (And.intro HS.out (show gb1_ = w.heap.size ∧ gb1_ < w1_.heap.size from ⟨hg, blk_lt hbox⟩)); replace HB := aHB HB hb; have BK1 := A_.mk hbox; clear hbox hb hg; have Q1 := blk2_ BK1.out) | ((with_reducible refine gd_ (N := 3) rfl ?_); refine by_ 3 (cs := #[.int .i64 a1_0, .int .i64 a1_1, .int .i64 a1_2, .int .i64 a1_3, .int .i64 a1_4, .int .i64 a1_5, .int .i64 a1_6, .slice A1_7 l1_7.length c1_7]) (t := 38) ?_; intro gb2_ hg w2_ hbox hb; replace HS := A_.mk (And.intro HS.out (show gb2_ = w1_.heap.size ∧ gb2_ < w2_.heap.size from ⟨hg, blk_lt hbox⟩)); replace BK1 := aBb BK1 hb; replace HB := aHB HB hb; have BK2 := A_.mk hbox; clear hbox hb hg Q1; have Q1 := blk2_ BK1.out; have Q2 := blk8_ BK2.out))
  (with_reducible refine (spec_ClassOf.calls k a1_0 a1_1 a1_2 a1_3 a1_4 a1_5 a1_6 _ _ l1_7 t1 _ (Kd.C_below HR1_7.out HB.out) HC1_7.out A3.out).mono ?_)
  rintro e w3_ ⟨rfl, hb⟩
  replace HS := aHs HS hb.size
  replace BK1 := aBb BK1 hb
  replace BK2 := aBb BK2 hb
  replace HB := aHB HB hb
  clear hb  Q1 Q2
  have Q1 := blk2_ BK1.out
  have Q2 := blk8_ BK2.out
  go_wp2_with (fail)
  refine start_ (n := 25) (S := fun w' => (w'.cell? ⟨gb1_, 0, none⟩ = some (.slice (some ad5_) l0_0.length c0_0) ∧ w'.cell? ⟨gb1_, 1, none⟩ = some (.slice A0_1 l0_1.length c0_1)) ∧ (w'.cell? (ad5_.add (t1).toNat) = some (.int .i64 (rd l0_0 t1)))) (ds := []) #[F, F, F, F, F, F, F, F, F, F, F, F, F, F, F, F, F, F, F, F, F, F, F, F, F] (by kernel_rfl) rfl rfl ⟨blk2_ BK1.out, el1_ (below_drew HB.out) HX5.out⟩ (fun hHeld => ?_)
  clear Q1 Q2
  have hb := below_drew (Below.refl w3_.heap.size w3_)
  replace HS := aHs HS hb.size
  replace BK1 := aBb BK1 hb
  replace BK2 := aBb BK2 hb
  replace HB := aHB HB hb
  clear hb
  generalize w3_.drew = w10d_ at BK1 BK2 HB HS hHeld ⊢
  refine tl_ (i := 0) (N := some 8) #[T, F, F, F, F, F, F, F, F, F, F, F, F, F, F, F, F, F, F, F, F, F, F, F, F] rfl hHeld ?_
  refine on_ (i := 1) (N := some 9) #[T, T, F, F, F, F, F, F, F, F, F, F, F, F, F, F, F, F, F, F, F, F, F, F, F] rfl (fun K hK => ?_)
  refine gz_ Try.func33 #[.agg #[.slice (some ad5_) l0_0.length c0_0, .slice A0_1 l0_1.length c0_1]] ?_
  with_reducible refine (spec_CreditsOk.calls k _ _ l0_0 _ _ l0_1 true _ (Kd.C_below HR0_0.out HB.out) HC0_0.out (Kd.C_below HR0_1.out HB.out) HC0_1.out A4.out).mono ?_
  rintro e w4_ ⟨rfl, hb⟩
  refine ⟨_, rfl, ?_⟩
  replace HS := aHs HS hb.size
  replace BK1 := aBb BK1 hb
  replace BK2 := aBb BK2 hb
  replace HB := aHB HB hb
  clear hb 
  refine hK.out _ _ ⟨blk2_ BK1.out, el1_ HB.out HX5.out⟩ (fun hHeld => ?_)
  clear hK K
  refine nm_ ?_
  refine pd_ (i := 2) (N := some 10) #[T, T, T, F, F, F, F, F, F, F, F, F, F, F, F, F, F, F, F, F, F, F, F, F, F] rfl ?_
  refine pd_ (i := 3) (N := some 11) #[T, T, T, T, F, F, F, F, F, F, F, F, F, F, F, F, F, F, F, F, F, F, F, F, F] rfl ?_
  refine pd_ (i := 4) (N := some 12) #[T, T, T, T, T, F, F, F, F, F, F, F, F, F, F, F, F, F, F, F, F, F, F, F, F] rfl ?_
  refine pd_ (i := 5) (N := some 13) #[T, T, T, T, T, T, F, F, F, F, F, F, F, F, F, F, F, F, F, F, F, F, F, F, F] rfl ?_
  refine pd_ (i := 6) (N := some 14) #[T, T, T, T, T, T, T, F, F, F, F, F, F, F, F, F, F, F, F, F, F, F, F, F, F] rfl ?_
  refine pd_ (i := 7) (N := some 15) #[T, T, T, T, T, T, T, T, F, F, F, F, F, F, F, F, F, F, F, F, F, F, F, F, F] rfl ?_
  refine tl_ (i := 8) (N := some 16) #[T, T, T, T, T, T, T, T, T, F, F, F, F, F, F, F, F, F, F, F, F, F, F, F, F] rfl hHeld ?_
  refine pd_ (i := 9) (N := some 17) #[T, T, T, T, T, T, T, T, T, T, F, F, F, F, F, F, F, F, F, F, F, F, F, F, F] rfl ?_
  refine pd_ (i := 10) (N := some 18) #[T, T, T, T, T, T, T, T, T, T, T, F, F, F, F, F, F, F, F, F, F, F, F, F, F] rfl ?_
  refine tl_ (i := 11) (N := some 19) #[T, T, T, T, T, T, T, T, T, T, T, T, F, F, F, F, F, F, F, F, F, F, F, F, F] rfl hHeld ?_
  refine pd_ (i := 12) (N := some 20) #[T, T, T, T, T, T, T, T, T, T, T, T, T, F, F, F, F, F, F, F, F, F, F, F, F] rfl ?_
  refine pd_ (i := 13) (N := some 21) #[T, T, T, T, T, T, T, T, T, T, T, T, T, T, F, F, F, F, F, F, F, F, F, F, F] rfl ?_
  refine pd_ (i := 14) (N := some 22) #[T, T, T, T, T, T, T, T, T, T, T, T, T, T, T, F, F, F, F, F, F, F, F, F, F] rfl ?_
  refine pw_ (i := 15) (N := some 23) #[T, T, T, T, T, T, T, T, T, T, T, T, T, T, T, T, F, F, F, F, F, F, F, F, F] rfl ?_
  refine pw_ (i := 16) (N := some 24) #[T, T, T, T, T, T, T, T, T, T, T, T, T, T, T, T, T, F, F, F, F, F, F, F, F] rfl ?_
  refine pw_ (i := 17) (N := some 25) #[T, T, T, T, T, T, T, T, T, T, T, T, T, T, T, T, T, T, F, F, F, F, F, F, F] rfl ?_
  refine pw_ (i := 18) (N := some 26) #[T, T, T, T, T, T, T, T, T, T, T, T, T, T, T, T, T, T, T, F, F, F, F, F, F] rfl ?_
  refine pw_ (i := 19) (N := some 27) #[T, T, T, T, T, T, T, T, T, T, T, T, T, T, T, T, T, T, T, T, F, F, F, F, F] rfl ?_
  refine pw_ (i := 20) (N := some 28) #[T, T, T, T, T, T, T, T, T, T, T, T, T, T, T, T, T, T, T, T, T, F, F, F, F] rfl ?_
  refine pw_ (i := 21) (N := some 29) #[T, T, T, T, T, T, T, T, T, T, T, T, T, T, T, T, T, T, T, T, T, T, F, F, F] rfl ?_
  refine pw_ (i := 22) (N := some 30) #[T, T, T, T, T, T, T, T, T, T, T, T, T, T, T, T, T, T, T, T, T, T, T, F, F] rfl ?_
  refine pd_ (i := 23) (N := some 31) #[T, T, T, T, T, T, T, T, T, T, T, T, T, T, T, T, T, T, T, T, T, T, T, T, F] rfl ?_
  refine pd_ (i := 24) (N := some 4) #[T, T, T, T, T, T, T, T, T, T, T, T, T, T, T, T, T, T, T, T, T, T, T, T, T] rfl ?_
  refine done_ (by kernel_rfl) ?_
  have Q1 := blk2_ BK1.out
  have Q2 := blk8_ BK2.out
  go_wp2
  go_ret
  exact ⟨rfl, HB.out⟩
 rw [if_pos hc3_] at H
 have hc3_b0 : decide (1 ≤ (rd l0_0 t1)) = true := decide_eq_true hc3_
 by_cases hp6_ : 0 ≤ t1
 case neg => rw [if_neg hp6_] at H; cases H
 rw [if_pos hp6_] at H
 by_cases hq6_ : t1 < (l0_1.length : Int)
 case neg => rw [if_neg hq6_] at H; cases H
 rw [if_pos hq6_] at H
 have EB6 := A_.mk (And.intro hp6_ hq6_)
 obtain ⟨ad6_, eA_, hx0_⟩ := Kd.at_int HW0_1.out t1 hp6_ hq6_
 subst eA_
 have HX6 := A_.mk hx0_
 clear hx0_
 replace hp6_ := eq_true hp6_
 replace hq6_ := eq_true hq6_
 replace H := oa_ H
 obtain ⟨t3, A7, H⟩ := H
 by_cases hc4_ : t3 ≤ (rd l0_1 t1)
 case pos =>
  rw [if_pos hc4_] at H
  have hc4_b0 : decide (t3 ≤ (rd l0_1 t1)) = true := decide_eq_true hc4_
  replace H := Option.some.inj H
  subst H
  have hu30 := Try.underlying30
  have hu38 := Try.underlying38
  go_enter Try.func65, Try.ntmps65
  have HS := A_.mk (Nat.le_refl w.heap.size)
  go_wp2_with (first | ((with_reducible refine gd_ (N := 2) rfl ?_); refine by_ 2 (cs := #[.slice (some ad5_) l0_0.length c0_0, .slice (some ad6_) l0_1.length c0_1]) (t := 30) ?_; intro gb1_ hg w1_ hbox hb; replace HS := A_.mk (And.intro HS.out (show gb1_ = w.heap.size ∧ gb1_ < w1_.heap.size from ⟨hg, blk_lt hbox⟩)); replace HB := aHB HB hb; have BK1 := A_.mk hbox; clear hbox hb hg; have Q1 := blk2_ BK1.out) | ((with_reducible refine gd_ (N := 3) rfl ?_); refine by_ 3 (cs := #[.int .i64 a1_0, .int .i64 a1_1, .int .i64 a1_2, .int .i64 a1_3, .int .i64 a1_4, .int .i64 a1_5, .int .i64 a1_6, .slice A1_7 l1_7.length c1_7]) (t := 38) ?_; intro gb2_ hg w2_ hbox hb; replace HS := A_.mk (And.intro HS.out (show gb2_ = w1_.heap.size ∧ gb2_ < w2_.heap.size from ⟨hg, blk_lt hbox⟩)); replace BK1 := aBb BK1 hb; replace HB := aHB HB hb; have BK2 := A_.mk hbox; clear hbox hb hg Q1; have Q1 := blk2_ BK1.out; have Q2 := blk8_ BK2.out))
  (with_reducible refine (spec_ClassOf.calls k a1_0 a1_1 a1_2 a1_3 a1_4 a1_5 a1_6 _ _ l1_7 t1 _ (Kd.C_below HR1_7.out HB.out) HC1_7.out A3.out).mono ?_)
  rintro e w3_ ⟨rfl, hb⟩
  replace HS := aHs HS hb.size
  replace BK1 := aBb BK1 hb
  replace BK2 := aBb BK2 hb
  replace HB := aHB HB hb
  clear hb  Q1 Q2
  have Q1 := blk2_ BK1.out
  have Q2 := blk8_ BK2.out
  go_wp2_with (fail)
  refine start_ (n := 25) (S := fun w' => (w'.cell? ⟨gb1_, 0, none⟩ = some (.slice (some ad5_) l0_0.length c0_0) ∧ w'.cell? ⟨gb1_, 1, none⟩ = some (.slice (some ad6_) l0_1.length c0_1)) ∧ (w'.cell? ⟨gb2_, 0, none⟩ = some (.int .i64 a1_0) ∧ w'.cell? ⟨gb2_, 1, none⟩ = some (.int .i64 a1_1) ∧ w'.cell? ⟨gb2_, 2, none⟩ = some (.int .i64 a1_2) ∧ w'.cell? ⟨gb2_, 3, none⟩ = some (.int .i64 a1_3) ∧ w'.cell? ⟨gb2_, 4, none⟩ = some (.int .i64 a1_4) ∧ w'.cell? ⟨gb2_, 5, none⟩ = some (.int .i64 a1_5) ∧ w'.cell? ⟨gb2_, 6, none⟩ = some (.int .i64 a1_6) ∧ w'.cell? ⟨gb2_, 7, none⟩ = some (.slice A1_7 l1_7.length c1_7)) ∧ (w'.cell? (ad5_.add (t1).toNat) = some (.int .i64 (rd l0_0 t1))) ∧ (w'.cell? (ad6_.add (t1).toNat) = some (.int .i64 (rd l0_1 t1)))) (ds := []) #[F, F, F, F, F, F, F, F, F, F, F, F, F, F, F, F, F, F, F, F, F, F, F, F, F] (by kernel_rfl) rfl rfl ⟨blk2_ BK1.out, blk8_ BK2.out, el1_ (below_drew HB.out) HX5.out, el1_ (below_drew HB.out) HX6.out⟩ (fun hHeld => ?_)
  clear Q1 Q2
  have hb := below_drew (Below.refl w3_.heap.size w3_)
  replace HS := aHs HS hb.size
  replace BK1 := aBb BK1 hb
  replace BK2 := aBb BK2 hb
  replace HB := aHB HB hb
  clear hb
  generalize w3_.drew = w11d_ at BK1 BK2 HB HS hHeld ⊢
  refine tl_ (i := 0) (N := some 8) #[T, F, F, F, F, F, F, F, F, F, F, F, F, F, F, F, F, F, F, F, F, F, F, F, F] rfl hHeld ?_
  refine on_ (i := 1) (N := some 9) #[T, T, F, F, F, F, F, F, F, F, F, F, F, F, F, F, F, F, F, F, F, F, F, F, F] rfl (fun K hK => ?_)
  refine gz_ Try.func33 #[.agg #[.slice (some ad5_) l0_0.length c0_0, .slice (some ad6_) l0_1.length c0_1]] ?_
  with_reducible refine (spec_CreditsOk.calls k _ _ l0_0 _ _ l0_1 true _ (Kd.C_below HR0_0.out HB.out) HC0_0.out (Kd.C_below HR0_1.out HB.out) HC0_1.out A4.out).mono ?_
  rintro e w4_ ⟨rfl, hb⟩
  refine ⟨_, rfl, ?_⟩
  replace HS := aHs HS hb.size
  replace BK1 := aBb BK1 hb
  replace BK2 := aBb BK2 hb
  replace HB := aHB HB hb
  clear hb 
  refine hK.out _ _ ⟨blk2_ BK1.out, blk8_ BK2.out, el1_ HB.out HX5.out, el1_ HB.out HX6.out⟩ (fun hHeld => ?_)
  clear hK K
  refine nm_ ?_
  refine pd_ (i := 2) (N := some 10) #[T, T, T, F, F, F, F, F, F, F, F, F, F, F, F, F, F, F, F, F, F, F, F, F, F] rfl ?_
  refine pd_ (i := 3) (N := some 11) #[T, T, T, T, F, F, F, F, F, F, F, F, F, F, F, F, F, F, F, F, F, F, F, F, F] rfl ?_
  refine pd_ (i := 4) (N := some 12) #[T, T, T, T, T, F, F, F, F, F, F, F, F, F, F, F, F, F, F, F, F, F, F, F, F] rfl ?_
  refine pd_ (i := 5) (N := some 13) #[T, T, T, T, T, T, F, F, F, F, F, F, F, F, F, F, F, F, F, F, F, F, F, F, F] rfl ?_
  refine pd_ (i := 6) (N := some 14) #[T, T, T, T, T, T, T, F, F, F, F, F, F, F, F, F, F, F, F, F, F, F, F, F, F] rfl ?_
  refine pd_ (i := 7) (N := some 15) #[T, T, T, T, T, T, T, T, F, F, F, F, F, F, F, F, F, F, F, F, F, F, F, F, F] rfl ?_
  refine tl_ (i := 8) (N := some 16) #[T, T, T, T, T, T, T, T, T, F, F, F, F, F, F, F, F, F, F, F, F, F, F, F, F] rfl hHeld ?_
  refine pd_ (i := 9) (N := some 17) #[T, T, T, T, T, T, T, T, T, T, F, F, F, F, F, F, F, F, F, F, F, F, F, F, F] rfl ?_
  refine pd_ (i := 10) (N := some 18) #[T, T, T, T, T, T, T, T, T, T, T, F, F, F, F, F, F, F, F, F, F, F, F, F, F] rfl ?_
  refine tl_ (i := 11) (N := some 19) #[T, T, T, T, T, T, T, T, T, T, T, T, F, F, F, F, F, F, F, F, F, F, F, F, F] rfl hHeld ?_
  refine pd_ (i := 12) (N := some 20) #[T, T, T, T, T, T, T, T, T, T, T, T, T, F, F, F, F, F, F, F, F, F, F, F, F] rfl ?_
  refine pd_ (i := 13) (N := some 21) #[T, T, T, T, T, T, T, T, T, T, T, T, T, T, F, F, F, F, F, F, F, F, F, F, F] rfl ?_
  refine pd_ (i := 14) (N := some 22) #[T, T, T, T, T, T, T, T, T, T, T, T, T, T, T, F, F, F, F, F, F, F, F, F, F] rfl ?_
  refine pd_ (i := 15) (N := some 23) #[T, T, T, T, T, T, T, T, T, T, T, T, T, T, T, T, F, F, F, F, F, F, F, F, F] rfl ?_
  refine tl_ (i := 16) (N := some 24) #[T, T, T, T, T, T, T, T, T, T, T, T, T, T, T, T, T, F, F, F, F, F, F, F, F] rfl hHeld ?_
  refine pd_ (i := 17) (N := some 25) #[T, T, T, T, T, T, T, T, T, T, T, T, T, T, T, T, T, T, F, F, F, F, F, F, F] rfl ?_
  refine pd_ (i := 18) (N := some 26) #[T, T, T, T, T, T, T, T, T, T, T, T, T, T, T, T, T, T, T, F, F, F, F, F, F] rfl ?_
  refine tl_ (i := 19) (N := some 27) #[T, T, T, T, T, T, T, T, T, T, T, T, T, T, T, T, T, T, T, T, F, F, F, F, F] rfl hHeld ?_
  refine tl_ (i := 20) (N := some 28) #[T, T, T, T, T, T, T, T, T, T, T, T, T, T, T, T, T, T, T, T, T, F, F, F, F] rfl hHeld ?_
  refine on_ (i := 21) (N := some 29) #[T, T, T, T, T, T, T, T, T, T, T, T, T, T, T, T, T, T, T, T, T, T, F, F, F] rfl (fun K hK => ?_)
  refine gz_ Try.func36 #[.agg #[.int .i64 a1_0, .int .i64 a1_1, .int .i64 a1_2, .int .i64 a1_3, .int .i64 a1_4, .int .i64 a1_5, .int .i64 a1_6, .slice A1_7 l1_7.length c1_7]] ?_
  with_reducible refine (spec_PacketUnits.calls k a1_0 a1_1 a1_2 a1_3 a1_4 a1_5 a1_6 _ _ l1_7 t3 _ (Kd.C_below HR1_7.out HB.out) HC1_7.out A7.out).mono ?_
  rintro e w7_ ⟨rfl, hb⟩
  refine ⟨_, rfl, ?_⟩
  replace HS := aHs HS hb.size
  replace BK1 := aBb BK1 hb
  replace BK2 := aBb BK2 hb
  replace HB := aHB HB hb
  clear hb 
  refine hK.out _ _ ⟨blk2_ BK1.out, blk8_ BK2.out, el1_ HB.out HX5.out, el1_ HB.out HX6.out⟩ (fun hHeld => ?_)
  clear hK K
  refine nm_ ?_
  refine pd_ (i := 22) (N := some 30) #[T, T, T, T, T, T, T, T, T, T, T, T, T, T, T, T, T, T, T, T, T, T, T, F, F] rfl ?_
  refine pd_ (i := 23) (N := some 31) #[T, T, T, T, T, T, T, T, T, T, T, T, T, T, T, T, T, T, T, T, T, T, T, T, F] rfl ?_
  refine pd_ (i := 24) (N := some 4) #[T, T, T, T, T, T, T, T, T, T, T, T, T, T, T, T, T, T, T, T, T, T, T, T, T] rfl ?_
  refine done_ (by kernel_rfl) ?_
  have Q1 := blk2_ BK1.out
  have Q2 := blk8_ BK2.out
  go_wp2
  go_ret
  exact ⟨rfl, HB.out⟩
 rw [if_neg hc4_] at H
 have hc4_b0 : decide (t3 ≤ (rd l0_1 t1)) = false := decide_eq_false hc4_
 replace H := Option.some.inj H
 subst H
 have hu30 := Try.underlying30
 have hu38 := Try.underlying38
 go_enter Try.func65, Try.ntmps65
 have HS := A_.mk (Nat.le_refl w.heap.size)
 go_wp2_with (first | ((with_reducible refine gd_ (N := 2) rfl ?_); refine by_ 2 (cs := #[.slice (some ad5_) l0_0.length c0_0, .slice (some ad6_) l0_1.length c0_1]) (t := 30) ?_; intro gb1_ hg w1_ hbox hb; replace HS := A_.mk (And.intro HS.out (show gb1_ = w.heap.size ∧ gb1_ < w1_.heap.size from ⟨hg, blk_lt hbox⟩)); replace HB := aHB HB hb; have BK1 := A_.mk hbox; clear hbox hb hg; have Q1 := blk2_ BK1.out) | ((with_reducible refine gd_ (N := 3) rfl ?_); refine by_ 3 (cs := #[.int .i64 a1_0, .int .i64 a1_1, .int .i64 a1_2, .int .i64 a1_3, .int .i64 a1_4, .int .i64 a1_5, .int .i64 a1_6, .slice A1_7 l1_7.length c1_7]) (t := 38) ?_; intro gb2_ hg w2_ hbox hb; replace HS := A_.mk (And.intro HS.out (show gb2_ = w1_.heap.size ∧ gb2_ < w2_.heap.size from ⟨hg, blk_lt hbox⟩)); replace BK1 := aBb BK1 hb; replace HB := aHB HB hb; have BK2 := A_.mk hbox; clear hbox hb hg Q1; have Q1 := blk2_ BK1.out; have Q2 := blk8_ BK2.out))
 (with_reducible refine (spec_ClassOf.calls k a1_0 a1_1 a1_2 a1_3 a1_4 a1_5 a1_6 _ _ l1_7 t1 _ (Kd.C_below HR1_7.out HB.out) HC1_7.out A3.out).mono ?_)
 rintro e w3_ ⟨rfl, hb⟩
 replace HS := aHs HS hb.size
 replace BK1 := aBb BK1 hb
 replace BK2 := aBb BK2 hb
 replace HB := aHB HB hb
 clear hb  Q1 Q2
 have Q1 := blk2_ BK1.out
 have Q2 := blk8_ BK2.out
 go_wp2_with (fail)
 refine start_ (n := 25) (S := fun w' => (w'.cell? ⟨gb1_, 0, none⟩ = some (.slice (some ad5_) l0_0.length c0_0) ∧ w'.cell? ⟨gb1_, 1, none⟩ = some (.slice (some ad6_) l0_1.length c0_1)) ∧ (w'.cell? ⟨gb2_, 0, none⟩ = some (.int .i64 a1_0) ∧ w'.cell? ⟨gb2_, 1, none⟩ = some (.int .i64 a1_1) ∧ w'.cell? ⟨gb2_, 2, none⟩ = some (.int .i64 a1_2) ∧ w'.cell? ⟨gb2_, 3, none⟩ = some (.int .i64 a1_3) ∧ w'.cell? ⟨gb2_, 4, none⟩ = some (.int .i64 a1_4) ∧ w'.cell? ⟨gb2_, 5, none⟩ = some (.int .i64 a1_5) ∧ w'.cell? ⟨gb2_, 6, none⟩ = some (.int .i64 a1_6) ∧ w'.cell? ⟨gb2_, 7, none⟩ = some (.slice A1_7 l1_7.length c1_7)) ∧ (w'.cell? (ad5_.add (t1).toNat) = some (.int .i64 (rd l0_0 t1))) ∧ (w'.cell? (ad6_.add (t1).toNat) = some (.int .i64 (rd l0_1 t1)))) (ds := []) #[F, F, F, F, F, F, F, F, F, F, F, F, F, F, F, F, F, F, F, F, F, F, F, F, F] (by kernel_rfl) rfl rfl ⟨blk2_ BK1.out, blk8_ BK2.out, el1_ (below_drew HB.out) HX5.out, el1_ (below_drew HB.out) HX6.out⟩ (fun hHeld => ?_)
 clear Q1 Q2
 have hb := below_drew (Below.refl w3_.heap.size w3_)
 replace HS := aHs HS hb.size
 replace BK1 := aBb BK1 hb
 replace BK2 := aBb BK2 hb
 replace HB := aHB HB hb
 clear hb
 generalize w3_.drew = w12d_ at BK1 BK2 HB HS hHeld ⊢
 refine tl_ (i := 0) (N := some 8) #[T, F, F, F, F, F, F, F, F, F, F, F, F, F, F, F, F, F, F, F, F, F, F, F, F] rfl hHeld ?_
 refine on_ (i := 1) (N := some 9) #[T, T, F, F, F, F, F, F, F, F, F, F, F, F, F, F, F, F, F, F, F, F, F, F, F] rfl (fun K hK => ?_)
 refine gz_ Try.func33 #[.agg #[.slice (some ad5_) l0_0.length c0_0, .slice (some ad6_) l0_1.length c0_1]] ?_
 with_reducible refine (spec_CreditsOk.calls k _ _ l0_0 _ _ l0_1 true _ (Kd.C_below HR0_0.out HB.out) HC0_0.out (Kd.C_below HR0_1.out HB.out) HC0_1.out A4.out).mono ?_
 rintro e w4_ ⟨rfl, hb⟩
 refine ⟨_, rfl, ?_⟩
 replace HS := aHs HS hb.size
 replace BK1 := aBb BK1 hb
 replace BK2 := aBb BK2 hb
 replace HB := aHB HB hb
 clear hb 
 refine hK.out _ _ ⟨blk2_ BK1.out, blk8_ BK2.out, el1_ HB.out HX5.out, el1_ HB.out HX6.out⟩ (fun hHeld => ?_)
 clear hK K
 refine nm_ ?_
 refine pd_ (i := 2) (N := some 10) #[T, T, T, F, F, F, F, F, F, F, F, F, F, F, F, F, F, F, F, F, F, F, F, F, F] rfl ?_
 refine pd_ (i := 3) (N := some 11) #[T, T, T, T, F, F, F, F, F, F, F, F, F, F, F, F, F, F, F, F, F, F, F, F, F] rfl ?_
 refine pd_ (i := 4) (N := some 12) #[T, T, T, T, T, F, F, F, F, F, F, F, F, F, F, F, F, F, F, F, F, F, F, F, F] rfl ?_
 refine pd_ (i := 5) (N := some 13) #[T, T, T, T, T, T, F, F, F, F, F, F, F, F, F, F, F, F, F, F, F, F, F, F, F] rfl ?_
 refine pd_ (i := 6) (N := some 14) #[T, T, T, T, T, T, T, F, F, F, F, F, F, F, F, F, F, F, F, F, F, F, F, F, F] rfl ?_
 refine pd_ (i := 7) (N := some 15) #[T, T, T, T, T, T, T, T, F, F, F, F, F, F, F, F, F, F, F, F, F, F, F, F, F] rfl ?_
 refine tl_ (i := 8) (N := some 16) #[T, T, T, T, T, T, T, T, T, F, F, F, F, F, F, F, F, F, F, F, F, F, F, F, F] rfl hHeld ?_
 refine pd_ (i := 9) (N := some 17) #[T, T, T, T, T, T, T, T, T, T, F, F, F, F, F, F, F, F, F, F, F, F, F, F, F] rfl ?_
 refine pd_ (i := 10) (N := some 18) #[T, T, T, T, T, T, T, T, T, T, T, F, F, F, F, F, F, F, F, F, F, F, F, F, F] rfl ?_
 refine tl_ (i := 11) (N := some 19) #[T, T, T, T, T, T, T, T, T, T, T, T, F, F, F, F, F, F, F, F, F, F, F, F, F] rfl hHeld ?_
 refine pd_ (i := 12) (N := some 20) #[T, T, T, T, T, T, T, T, T, T, T, T, T, F, F, F, F, F, F, F, F, F, F, F, F] rfl ?_
 refine pd_ (i := 13) (N := some 21) #[T, T, T, T, T, T, T, T, T, T, T, T, T, T, F, F, F, F, F, F, F, F, F, F, F] rfl ?_
 refine pd_ (i := 14) (N := some 22) #[T, T, T, T, T, T, T, T, T, T, T, T, T, T, T, F, F, F, F, F, F, F, F, F, F] rfl ?_
 refine pd_ (i := 15) (N := some 23) #[T, T, T, T, T, T, T, T, T, T, T, T, T, T, T, T, F, F, F, F, F, F, F, F, F] rfl ?_
 refine tl_ (i := 16) (N := some 24) #[T, T, T, T, T, T, T, T, T, T, T, T, T, T, T, T, T, F, F, F, F, F, F, F, F] rfl hHeld ?_
 refine pd_ (i := 17) (N := some 25) #[T, T, T, T, T, T, T, T, T, T, T, T, T, T, T, T, T, T, F, F, F, F, F, F, F] rfl ?_
 refine pd_ (i := 18) (N := some 26) #[T, T, T, T, T, T, T, T, T, T, T, T, T, T, T, T, T, T, T, F, F, F, F, F, F] rfl ?_
 refine tl_ (i := 19) (N := some 27) #[T, T, T, T, T, T, T, T, T, T, T, T, T, T, T, T, T, T, T, T, F, F, F, F, F] rfl hHeld ?_
 refine tl_ (i := 20) (N := some 28) #[T, T, T, T, T, T, T, T, T, T, T, T, T, T, T, T, T, T, T, T, T, F, F, F, F] rfl hHeld ?_
 refine on_ (i := 21) (N := some 29) #[T, T, T, T, T, T, T, T, T, T, T, T, T, T, T, T, T, T, T, T, T, T, F, F, F] rfl (fun K hK => ?_)
 refine gz_ Try.func36 #[.agg #[.int .i64 a1_0, .int .i64 a1_1, .int .i64 a1_2, .int .i64 a1_3, .int .i64 a1_4, .int .i64 a1_5, .int .i64 a1_6, .slice A1_7 l1_7.length c1_7]] ?_
 with_reducible refine (spec_PacketUnits.calls k a1_0 a1_1 a1_2 a1_3 a1_4 a1_5 a1_6 _ _ l1_7 t3 _ (Kd.C_below HR1_7.out HB.out) HC1_7.out A7.out).mono ?_
 rintro e w7_ ⟨rfl, hb⟩
 refine ⟨_, rfl, ?_⟩
 replace HS := aHs HS hb.size
 replace BK1 := aBb BK1 hb
 replace BK2 := aBb BK2 hb
 replace HB := aHB HB hb
 clear hb 
 refine hK.out _ _ ⟨blk2_ BK1.out, blk8_ BK2.out, el1_ HB.out HX5.out, el1_ HB.out HX6.out⟩ (fun hHeld => ?_)
 clear hK K
 refine nm_ ?_
 refine pd_ (i := 22) (N := some 30) #[T, T, T, T, T, T, T, T, T, T, T, T, T, T, T, T, T, T, T, T, T, T, T, F, F] rfl ?_
 refine pd_ (i := 23) (N := some 31) #[T, T, T, T, T, T, T, T, T, T, T, T, T, T, T, T, T, T, T, T, T, T, T, T, F] rfl ?_
 refine pd_ (i := 24) (N := some 4) #[T, T, T, T, T, T, T, T, T, T, T, T, T, T, T, T, T, T, T, T, T, T, T, T, T] rfl ?_
 refine done_ (by kernel_rfl) ?_
 have Q1 := blk2_ BK1.out
 have Q2 := blk8_ BK2.out
 go_wp2
 go_ret
 exact ⟨rfl, HB.out⟩
end Go.Proofs.Ytlombfmebinjbaa.PFnExactPutPacket
