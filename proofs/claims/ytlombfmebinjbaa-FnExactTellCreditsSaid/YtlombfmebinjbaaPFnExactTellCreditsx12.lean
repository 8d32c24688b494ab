-- Written by a program of this session (wip/xp): not trusted, Lean checks it.
import Derived.Test.YtlombfmebinjbaaPFnExactTellCreditsx0
import Derived.Test.YtlombfmebinjbaaPFnExactTellCreditsx1
import Derived.Test.YtlombfmebinjbaaPFnExactTellCreditsx6
import Derived.Test.YtlombfmebinjbaaPFnExactTellCreditsx9
namespace Go.Proofs.Ytlombfmebinjbaa.PFnExactTellCredits
open Go.RowKit Go.Proofs.YtlombfmebinjbaaW.PrintWords Go.Proofs.YtlombfmebinjbaaW.PrintLast Go.Proofs.YtlombfmebinjbaaW.PrintMore
attribute [local go_sem] max2_int min2_int max_two min_two max_three min_three max_four min_four   -- for this text's walks alone
set_option linter.unusedVariables false
set_option linter.unusedSimpArgs false

theorem el1_ {w W : World} {a0 : Addr} {v0 : Value} (hb : Below w.heap.size w W) (h : w.cell? a0 = some v0) : W.cell? a0 = some v0 := (hb.cell (wl_ _ _ h)).trans h
theorem R_at0 {α : Type} {d : Kd α} {e base n c : Nat} {W : World} {ok : Nat → Prop} {A : Option Addr} {xs : List α} (h : Kd.R d e W base ok (.slice A n c) xs) (hn : 0 < n) : ∃ g, A = some ⟨g, 0, none⟩ := by
 obtain ⟨_, inner, hown, _⟩ := h
 rcases hown.2 with ⟨hv, _⟩ | ⟨g', cap', cur, hv, _⟩
 ·cases hv; omega
 ·cases hv; exact ⟨_, rfl⟩
theorem rcl_ {W : World} {base e g n c : Nat} {ok : Nat → Prop} {xs : List Int} {j : Int} (h : Kd.R (Kd.int .i64) e W base ok (.slice (some ⟨g, 0, none⟩) n c) xs) (hb : 0 ≤ j ∧ j < (xs.length : Int)) : W.cell? ⟨g, j.toNat, none⟩ = some (.int .i64 (rd xs j)) := by
 obtain ⟨rfl, _⟩ := Kd.R_reads' h
 exact (Kd.R_celln 0 h j hb.1 hb.2).1
theorem rcf_ {W : World} {base e g n c : Nat} {ok : Nat → Prop} {xs : List Int} {j : Int} (h : Kd.R (Kd.int .i64) e W base ok (.slice (some ⟨g, 0, none⟩) n c) xs) (hb : 0 ≤ j ∧ j < (xs.length : Int)) : W.frozen? ⟨g, j.toNat, none⟩ = false := by
 obtain ⟨rfl, _⟩ := Kd.R_reads' h
 exact (Kd.R_celln 0 h j hb.1 hb.2).2
theorem ost_ {w W W' : World} {e g n c : Nat} {ok : Nat → Prop} {xs : List Int} {j x : Int} (hw : W' = W.setCell ⟨g, j.toNat, none⟩ (.int .i64 x)) (h : A_ (Kd.R (Kd.int .i64) e W w.heap.size ok (.slice (some ⟨g, 0, none⟩) n c) xs)) (hb : A_ (Below w.heap.size w W)) :
  Kd.R (Kd.int .i64) e W' w.heap.size ok (.slice (some ⟨g, 0, none⟩) n c) (xs.set j.toNat x) ∧ Kept W W' (fun k_ => ok k_) ∧ Below w.heap.size w W' := by
 subst hw
 exact ⟨Kd.R_putn h.out j x, Kept.setCell (Kept.refl _ _) (.inl (h.out.1 g rfl)) _, bs_ hb.out (Kd.R_base h.out _ (by simp [Value.ownBlock]))⟩
theorem el8_ {w W : World} {a0 a1 a2 a3 a4 a5 a6 a7 : Addr} {v0 v1 v2 v3 v4 v5 v6 v7 : Value} (hb : Below w.heap.size w W) (h : w.cell? a0 = some v0 ∧ w.cell? a1 = some v1 ∧ w.cell? a2 = some v2 ∧ w.cell? a3 = some v3 ∧ w.cell? a4 = some v4 ∧ w.cell? a5 = some v5 ∧ w.cell? a6 = some v6 ∧ w.cell? a7 = some v7) : W.cell? a0 = some v0 ∧ W.cell? a1 = some v1 ∧ W.cell? a2 = some v2 ∧ W.cell? a3 = some v3 ∧ W.cell? a4 = some v4 ∧ W.cell? a5 = some v5 ∧ W.cell? a6 = some v6 ∧ W.cell? a7 = some v7 :=
 ⟨(hb.cell (wl_ _ _ h.1)).trans h.1, (hb.cell (wl_ _ _ h.2.1)).trans h.2.1, (hb.cell (wl_ _ _ h.2.2.1)).trans h.2.2.1, (hb.cell (wl_ _ _ h.2.2.2.1)).trans h.2.2.2.1, (hb.cell (wl_ _ _ h.2.2.2.2.1)).trans h.2.2.2.2.1, (hb.cell (wl_ _ _ h.2.2.2.2.2.1)).trans h.2.2.2.2.2.1, (hb.cell (wl_ _ _ h.2.2.2.2.2.2.1)).trans h.2.2.2.2.2.2.1, (hb.cell (wl_ _ _ h.2.2.2.2.2.2.2)).trans h.2.2.2.2.2.2.2⟩
theorem S_at0 {α : Type} {d : Kd α} {e base n c : Nat} {W : World} {ok : Nat → Prop} {A : Option Addr} {xs : List α} (h : Kd.S d e W base ok (.slice A n c) xs) (hn : 0 < n) : ∃ g, A = some ⟨g, 0, none⟩ := by
 obtain ⟨_, inner, hown, _⟩ := Kd.S_R h
 rcases hown.2 with ⟨hv, _⟩ | ⟨g', cap', cur, hv, _⟩
 ·cases hv; omega
 ·cases hv; exact ⟨_, rfl⟩
theorem S_cut1 {α : Type} {d : Kd α} {e base n c g : Nat} {W : World} {ok : Nat → Prop} {ax : Option Addr} {xs : List α} (h : Kd.S d e W base ok (.slice (some ⟨g, 0, none⟩) n c) xs) (hn : 1 ≤ n) (hsz : d.sz = 8) (hax : (if c = 1 then (some ⟨g, 0, none⟩ : Option Addr) else some ⟨g, 8, none⟩) = ax) : Kd.V d e W base ok (.slice ax (n - 1) (c - 1)) (xs.drop 1) := by
 obtain ⟨rfl, hnc, hF⟩ := Kd.V_at (Kd.S_V (base' := base) h)
 have h1 := Kd.F_cut (m := 1) hF hn hnc
 have hl : (xs.drop 1).length = xs.length - 1 := List.length_drop
 rw [← hl]
 refine Kd.V_mk (by omega) ?_
 rw [← hax]
 by_cases hc : c = 1
 ·rw [if_pos hc] at h1 ⊢
  exact h1
 ·rw [if_neg hc] at h1 ⊢
  have h2 : (some (⟨g, 0, none⟩ : Addr)).map (·.add (1 * d.sz)) = some ⟨g, 8, none⟩ := by rw [hsz]; rfl
  rw [h2] at h1
  exact h1
/-! ### spec_ReturnCredits: function 62, its calls in a row -/
def spec_ReturnCredits.f (k : Nat) (l0_0 : List Int) (l0_1 : List Int) (a1_0 : Int) (a1_1 : Int) (a1_2 : Int) (a1_3 : Int) (a1_4 : Int) (a1_5 : Int) (a1_6 : Int) (l1_7 : List Int) : Option ((List Int) × (List Int) × (Bool)) := ((spec_l14Copy.f l0_0 l0_1).bind fun ⟨t1, t2⟩ => ((spec_ClassOf.f k a1_0 a1_1 a1_2 a1_3 a1_4 a1_5 a1_6 l1_7).bind fun t3 => ((spec_CreditsOk.f k l0_0 l0_1).bind fun t4 => (if t4 = true then (if t3 < 0 then (some (t1, t2, false)) else (if 0 ≤ t3 then (if t3 < (l0_0.length : Int) then (if (rd l0_0 t3) = 30 then (some (t1, t2, false)) else (if 0 ≤ t3 then (if t3 < (l0_1.length : Int) then ((spec_PacketUnits.f k a1_0 a1_1 a1_2 a1_3 a1_4 a1_5 a1_6 l1_7).bind fun t5 => (if 30 < (wrap64 ((rd l0_1 t3) + t5)) then (some (t1, t2, false)) else (if 0 ≤ t3 then (if t3 < (t1.length : Int) then (if 0 ≤ t3 then (if t3 < (t2.length : Int) then ((spec_PacketUnits.f k a1_0 a1_1 a1_2 a1_3 a1_4 a1_5 a1_6 l1_7).bind fun t7 => (some ((t1.set (t3).toNat (wrap64 ((rd t1 t3) + 1))), (t2.set (t3).toNat (wrap64 ((rd t2 t3) + t7))), true))) else none) else none) else none) else none))) else none) else none)) else none) else none)) else (some (t1, t2, false))))))
set_option maxHeartbeats 8000000 in
set_option maxRecDepth 100000 in
theorem spec_ReturnCredits.calls (k : Nat) (A0_0 : Option Addr) (c0_0 : Nat) (l0_0 : List Int) (A0_1 : Option Addr) (c0_1 : Nat) (l0_1 : List Int) (a1_0 : Int) (a1_1 : Int) (a1_2 : Int) (a1_3 : Int) (a1_4 : Int) (a1_5 : Int) (a1_6 : Int) (A1_7 : Option Addr) (c1_7 : Nat) (l1_7 : List Int) (r1 : List Int) (r2 : List Int) (r3 : Bool) (w : World) (hr0_0 : Kd.C (Kd.int .i64) w A0_0 l0_0.length l0_0) (hc0_0 : l0_0.length ≤ c0_0) (hr0_1 : Kd.C (Kd.int .i64) w A0_1 l0_1.length l0_1) (hc0_1 : l0_1.length ≤ c0_1) (hr1_7 : Kd.C (Kd.int .i64) w A1_7 l1_7.length l1_7) (hc1_7 : l1_7.length ≤ c1_7) (h : spec_ReturnCredits.f k l0_0 l0_1 a1_0 a1_1 a1_2 a1_3 a1_4 a1_5 a1_6 l1_7 = some (r1, r2, r3)) :
  Calls Try.prog 62 #[.agg #[.slice A0_0 l0_0.length c0_0, .slice A0_1 l0_1.length c0_1], .agg #[.int .i64 a1_0, .int .i64 a1_1, .int .i64 a1_2, .int .i64 a1_3, .int .i64 a1_4, .int .i64 a1_5, .int .i64 a1_6, .slice A1_7 l1_7.length c1_7]] w fun e w' => ∃ f_ : Nat → Nat, ∃ v0_ v1_ : Value, e = .returned (.tuple #[.agg #[v0_, v1_], .bool r3]) ∧ Kd.R (Kd.int .i64) 3 w' w.heap.size (fun k_ => f_ k_ = 0) v0_ r1 ∧ Kd.R (Kd.int .i64) 3 w' w.heap.size (fun k_ => f_ k_ = 1) v1_ r2 ∧ Below w.heap.size w w' := by
 have HR0_0 := A_.mk hr0_0
 have HC0_0 := A_.mk hc0_0
 have HW0_0 := A_.mk hr0_0
 clear hr0_0 hc0_0
 have HR0_1 := A_.mk hr0_1
 have HC0_1 := A_.mk hc0_1
 have HW0_1 := A_.mk hr0_1
 clear hr0_1 hc0_1
 have HR1_7 := A_.mk hr1_7
 have HC1_7 := A_.mk hc1_7
 clear hr1_7 hc1_7
 have HB := A_.mk (Below.refl w.heap.size w)
 unfold spec_ReturnCredits.f at h
 have H := h
 clear h
 replace H := oa_ H
 obtain ⟨⟨t1, t2⟩, A4, H⟩ := H
 try dsimp only at H
 replace H := oa_ H
 obtain ⟨t3, A7, H⟩ := H
 replace H := oa_ H
 obtain ⟨t4, A8, H⟩ := H
 by_cases hc1_ : t4 = true
 case neg =>
  rw [if_neg hc1_] at H
  replace hc1_ := eq_false_of_ne_true hc1_
  subst hc1_
  simp only [Option.some.injEq, Prod.mk.injEq] at H
  obtain ⟨rfl, rfl, rfl⟩ := H
  have hu30 := Try.underlying30
  have hu38 := Try.underlying38
  go_enter Try.func62, Try.ntmps62
  have HS := A_.mk (Nat.le_refl w.heap.size)
  go_wp2_with (first | ((with_reducible refine gd_ (N := 2) rfl ?_); refine by_ 2 (cs := #[.slice A0_0 l0_0.length c0_0, .slice A0_1 l0_1.length c0_1]) (t := 30) ?_; intro gb1_ hg w1_ hbox hb; replace HS := A_.mk (And.intro HS.out (show gb1_ = w.heap.size ∧ gb1_ < w1_.heap.size from ⟨hg, blk_lt hbox⟩)); replace HB := aHB HB hb; have BK1 := A_.mk hbox; clear hbox hb hg; have Q1 := blk2_ BK1.out) | ((with_reducible refine gd_ (N := 3) rfl ?_); refine by_ 3 (cs := #[.int .i64 a1_0, .int .i64 a1_1, .int .i64 a1_2, .int .i64 a1_3, .int .i64 a1_4, .int .i64 a1_5, .int .i64 a1_6, .slice A1_7 l1_7.length c1_7]) (t := 38) ?_; intro gb2_ hg w2_ hbox hb; replace HS := A_.mk (And.intro HS.out (show gb2_ = w1_.heap.size ∧ gb2_ < w2_.heap.size from ⟨hg, blk_lt hbox⟩)); replace BK1 := aBb BK1 hb; replace HB := aHB HB hb; have BK2 := A_.mk hbox; clear hbox hb hg Q1; have Q1 := blk2_ BK1.out; have Q2 := blk8_ BK2.out) | ((with_reducible refine gd_ (N := 4) rfl ?_); refine by_ 4 (cs := #[.slice none 0 0, .slice none 0 0]) (t := 30) ?_; intro gb3_ hg w3_ hbox hb; replace HS := A_.mk (And.intro HS.out (show gb3_ = w2_.heap.size ∧ gb3_ < w3_.heap.size from ⟨hg, blk_lt hbox⟩)); replace BK1 := aBb BK1 hb; replace BK2 := aBb BK2 hb; replace HB := aHB HB hb; have BK3 := A_.mk hbox; clear hbox hb hg Q1 Q2; have Q1 := blk2_ BK1.out; have Q2 := blk8_ BK2.out; have Q3 := blk2_ BK3.out) | ((with_reducible refine gc_ (f := 34) rfl ?_); refine gl_ (some 9) Try.func34 #[.agg #[.slice A0_0 l0_0.length c0_0, .slice A0_1 l0_1.length c0_1]] ?_; (with_reducible refine (spec_l14Copy.calls _ _ l0_0 _ _ l0_1 t1 t2 _ (Kd.C_below HR0_0.out HB.out) HC0_0.out (Kd.C_below HR0_1.out HB.out) HC0_1.out A4.out).mono ?_); rintro e w4_ ⟨v0_, v1_, rfl, ho0_, ho1_, hb⟩; refine ⟨_, rfl, ?_⟩; obtain ⟨f4_, hn0_, hn1_⟩ := two_col ho0_ ho1_; clear ho0_ ho1_; replace HS := aHs HS hb.size; obtain ⟨Ao4_0, co4_0, ev_⟩ := Kd.R_slice hn0_; subst ev_; have HO4_0 := aRn hn0_ HB.out.size; obtain ⟨Ao4_1, co4_1, ev_⟩ := Kd.R_slice hn1_; subst ev_; have HO4_1 := aRn hn1_ HB.out.size; replace BK1 := aBb BK1 hb; replace BK2 := aBb BK2 hb; replace BK3 := aBb BK3 hb; replace HB := aHB HB hb; clear hb hn0_ hn1_ Q1 Q2 Q3; have Q1 := blk2_ BK1.out; have Q2 := blk8_ BK2.out; have Q3 := blk2_ BK3.out) | ((with_reducible refine gd_ (N := 6) rfl ?_); refine by_ 6 (cs := #[.slice none 0 0, .slice none 0 0]) (t := 30) ?_; intro gb5_ hg w5_ hbox hb; replace HS := A_.mk (And.intro HS.out (show gb5_ = w4_.heap.size ∧ gb5_ < w5_.heap.size from ⟨hg, blk_lt hbox⟩)); replace HO4_0 := aRb HO4_0 hb; replace HO4_1 := aRb HO4_1 hb; replace BK1 := aBb BK1 hb; replace BK2 := aBb BK2 hb; replace BK3 := aBb BK3 hb; replace HB := aHB HB hb; have BK5 := A_.mk hbox; clear hbox hb hg Q1 Q2 Q3; have Q1 := blk2_ BK1.out; have Q2 := blk8_ BK2.out; have Q3 := blk2_ BK3.out; have Q5 := blk2_ BK5.out) | ((with_reducible refine gs_ (t := 30) (p := 6) rfl ?_); have qf0 := bf_ BK5.out 0; have qf1 := bf_ BK5.out 1; refine se_ (t := 30) (p := 6) (v := ?vo_6) (w1 := (ch2_ w5_ gb5_ (.slice Ao4_0 t1.length co4_0) (.slice Ao4_1 t2.length co4_1))) ?hg ?ho ?hn ?hr ?_; (case ho => rfl); (case hg => rfl); (case hn => rfl); (case hr => first | (go_simp; done) | (go_simp; rfl)); intro w6_ hw; clear qf0 qf1; obtain ⟨hbx, hkp, hbb⟩ := st2_ hw BK5 HB (by have := HS.out; omega); clear hw; replace HO4_0 := aRk HO4_0 hkp HS; replace HO4_1 := aRk HO4_1 hkp HS; replace BK1 := aBk BK1 hkp HS; replace BK2 := aBk BK2 hkp HS; replace BK3 := aBk BK3 hkp HS; replace BK5 := A_.mk hbx; replace HB := A_.mk hbb; replace HS := aHs HS hkp.1; clear hkp hbb hbx Q1 Q2 Q3 Q5; have Q1 := blk2_ BK1.out; have Q2 := blk8_ BK2.out; have Q3 := blk2_ BK3.out; have Q5 := blk2_ BK5.out))
  (with_reducible refine (spec_ClassOf.calls k a1_0 a1_1 a1_2 a1_3 a1_4 a1_5 a1_6 _ _ l1_7 t3 _ (Kd.C_below HR1_7.out HB.out) HC1_7.out A7.out).mono ?_)
  rintro e w7_ ⟨rfl, hb⟩
  replace HS := aHs HS hb.size
  replace HO4_0 := aRb HO4_0 hb
  replace HO4_1 := aRb HO4_1 hb
  replace BK1 := aBb BK1 hb
  replace BK2 := aBb BK2 hb
  replace BK3 := aBb BK3 hb
  replace BK5 := aBb BK5 hb
  replace HB := aHB HB hb
  clear hb  Q1 Q2 Q3 Q5
  have Q1 := blk2_ BK1.out
  have Q2 := blk8_ BK2.out
  have Q3 := blk2_ BK3.out
  have Q5 := blk2_ BK5.out
  go_wp2_with (fail)
  refine start_ (n := 26) (S := fun w' => (w'.cell? ⟨gb1_, 0, none⟩ = some (.slice A0_0 l0_0.length c0_0) ∧ w'.cell? ⟨gb1_, 1, none⟩ = some (.slice A0_1 l0_1.length c0_1))) (ds := []) #[F, F, F, F, F, F, F, F, F, F, F, F, F, F, F, F, F, F, F, F, F, F, F, F, F, F] (by kernel_rfl) rfl rfl (blk2_ BK1.out) (fun hHeld => ?_)
  clear Q1 Q2 Q3 Q5
  have hb := below_drew (Below.refl w7_.heap.size w7_)
  replace HS := aHs HS hb.size
  replace HO4_0 := aRb HO4_0 hb
  replace HO4_1 := aRb HO4_1 hb
  replace BK1 := aBb BK1 hb
  replace BK2 := aBb BK2 hb
  replace BK3 := aBb BK3 hb
  replace BK5 := aBb BK5 hb
  replace HB := aHB HB hb
  clear hb
  generalize w7_.drew = w22d_ at HO4_0 HO4_1 BK1 BK2 BK3 BK5 HB HS hHeld ⊢
  refine tl_ (i := 0) (N := some 12) #[T, F, F, F, F, F, F, F, F, F, F, F, F, F, F, F, F, F, F, F, F, F, F, F, F, F] rfl hHeld ?_
  refine on_ (i := 1) (N := some 13) #[T, T, F, F, F, F, F, F, F, F, F, F, F, F, F, F, F, F, F, F, F, F, F, F, F, F] rfl (fun K hK => ?_)
  refine gz_ Try.func33 #[.agg #[.slice A0_0 l0_0.length c0_0, .slice A0_1 l0_1.length c0_1]] ?_
  with_reducible refine (spec_CreditsOk.calls k _ _ l0_0 _ _ l0_1 false _ (Kd.C_below HR0_0.out HB.out) HC0_0.out (Kd.C_below HR0_1.out HB.out) HC0_1.out A8.out).mono ?_
  rintro e w8_ ⟨rfl, hb⟩
  refine ⟨_, rfl, ?_⟩
  replace HS := aHs HS hb.size
  replace HO4_0 := aRb HO4_0 hb
  replace HO4_1 := aRb HO4_1 hb
  replace BK1 := aBb BK1 hb
  replace BK2 := aBb BK2 hb
  replace BK3 := aBb BK3 hb
  replace BK5 := aBb BK5 hb
  replace HB := aHB HB hb
  clear hb 
  refine hK.out _ _ (blk2_ BK1.out) (fun hHeld => ?_)
  clear hK K
  refine nm_ ?_
  refine pd_ (i := 2) (N := some 14) #[T, T, T, F, F, F, F, F, F, F, F, F, F, F, F, F, F, F, F, F, F, F, F, F, F, F] rfl ?_
  refine pd_ (i := 3) (N := some 15) #[T, T, T, T, F, F, F, F, F, F, F, F, F, F, F, F, F, F, F, F, F, F, F, F, F, F] rfl ?_
  refine pw_ (i := 4) (N := some 16) #[T, T, T, T, T, F, F, F, F, F, F, F, F, F, F, F, F, F, F, F, F, F, F, F, F, F] rfl ?_
  refine pw_ (i := 5) (N := some 17) #[T, T, T, T, T, T, F, F, F, F, F, F, F, F, F, F, F, F, F, F, F, F, F, F, F, F] rfl ?_
  refine pd_ (i := 6) (N := some 18) #[T, T, T, T, T, T, T, F, F, F, F, F, F, F, F, F, F, F, F, F, F, F, F, F, F, F] rfl ?_
  refine pd_ (i := 7) (N := some 19) #[T, T, T, T, T, T, T, T, F, F, F, F, F, F, F, F, F, F, F, F, F, F, F, F, F, F] rfl ?_
  refine pw_ (i := 8) (N := some 20) #[T, T, T, T, T, T, T, T, T, F, F, F, F, F, F, F, F, F, F, F, F, F, F, F, F, F] rfl ?_
  refine pw_ (i := 9) (N := some 21) #[T, T, T, T, T, T, T, T, T, T, F, F, F, F, F, F, F, F, F, F, F, F, F, F, F, F] rfl ?_
  refine pw_ (i := 10) (N := some 22) #[T, T, T, T, T, T, T, T, T, T, T, F, F, F, F, F, F, F, F, F, F, F, F, F, F, F] rfl ?_
  refine pw_ (i := 11) (N := some 23) #[T, T, T, T, T, T, T, T, T, T, T, T, F, F, F, F, F, F, F, F, F, F, F, F, F, F] rfl ?_
  refine pw_ (i := 12) (N := some 24) #[T, T, T, T, T, T, T, T, T, T, T, T, T, F, F, F, F, F, F, F, F, F, F, F, F, F] rfl ?_
  refine pw_ (i := 13) (N := some 25) #[T, T, T, T, T, T, T, T, T, T, T, T, T, T, F, F, F, F, F, F, F, F, F, F, F, F] rfl ?_
  refine pd_ (i := 14) (N := some 26) #[T, T, T, T, T, T, T, T, T, T, T, T, T, T, T, F, F, F, F, F, F, F, F, F, F, F] rfl ?_
  refine pd_ (i := 15) (N := some 27) #[T, T, T, T, T, T, T, T, T, T, T, T, T, T, T, T, F, F, F, F, F, F, F, F, F, F] rfl ?_
  refine pw_ (i := 16) (N := some 28) #[T, T, T, T, T, T, T, T, T, T, T, T, T, T, T, T, T, F, F, F, F, F, F, F, F, F] rfl ?_
  refine pw_ (i := 17) (N := some 29) #[T, T, T, T, T, T, T, T, T, T, T, T, T, T, T, T, T, T, F, F, F, F, F, F, F, F] rfl ?_
  refine pw_ (i := 18) (N := some 30) #[T, T, T, T, T, T, T, T, T, T, T, T, T, T, T, T, T, T, T, F, F, F, F, F, F, F] rfl ?_
  refine pw_ (i := 19) (N := some 31) #[T, T, T, T, T, T, T, T, T, T, T, T, T, T, T, T, T, T, T, T, F, F, F, F, F, F] rfl ?_
  refine pw_ (i := 20) (N := some 32) #[T, T, T, T, T, T, T, T, T, T, T, T, T, T, T, T, T, T, T, T, T, F, F, F, F, F] rfl ?_
  refine pw_ (i := 21) (N := some 33) #[T, T, T, T, T, T, T, T, T, T, T, T, T, T, T, T, T, T, T, T, T, T, F, F, F, F] rfl ?_
  refine pw_ (i := 22) (N := some 34) #[T, T, T, T, T, T, T, T, T, T, T, T, T, T, T, T, T, T, T, T, T, T, T, F, F, F] rfl ?_
  refine pw_ (i := 23) (N := some 35) #[T, T, T, T, T, T, T, T, T, T, T, T, T, T, T, T, T, T, T, T, T, T, T, T, F, F] rfl ?_
  refine pw_ (i := 24) (N := some 36) #[T, T, T, T, T, T, T, T, T, T, T, T, T, T, T, T, T, T, T, T, T, T, T, T, T, F] rfl ?_
  refine pd_ (i := 25) (N := some 37) #[T, T, T, T, T, T, T, T, T, T, T, T, T, T, T, T, T, T, T, T, T, T, T, T, T, T] rfl ?_
  refine done_ (by kernel_rfl) ?_
  have Q1 := blk2_ BK1.out
  have Q2 := blk8_ BK2.out
  have Q3 := blk2_ BK3.out
  have Q5 := blk2_ BK5.out
  go_wp2_with (first | ((with_reducible refine gs_ (t := 30) (p := 4) rfl ?_); have qf0 := bf_ BK3.out 0; have qf1 := bf_ BK3.out 1; refine se_ (t := 30) (p := 4) (v := ?vo_21) (w1 := (ch2_ w8_ gb3_ (.slice Ao4_0 t1.length co4_0) (.slice Ao4_1 t2.length co4_1))) ?hg ?ho ?hn ?hr ?_; (case ho => rfl); (case hg => rfl); (case hn => rfl); (case hr => first | (go_simp; done) | (go_simp; rfl)); intro w21_ hw; clear qf0 qf1; obtain ⟨hbx, hkp, hbb⟩ := st2_ hw BK3 HB (by have := HS.out; omega); clear hw; replace HO4_0 := aRk HO4_0 hkp HS; replace HO4_1 := aRk HO4_1 hkp HS; replace BK1 := aBk BK1 hkp HS; replace BK2 := aBk BK2 hkp HS; replace BK5 := aBk BK5 hkp HS; replace BK3 := A_.mk hbx; replace HB := A_.mk hbb; replace HS := aHs HS hkp.1; clear hkp hbb hbx Q1 Q2 Q3 Q5; have Q1 := blk2_ BK1.out; have Q2 := blk8_ BK2.out; have Q3 := blk2_ BK3.out; have Q5 := blk2_ BK5.out))
  refine bodyPost_ret (results_ct rfl _ _ gb3_ 30 #[.slice Ao4_0 t1.length co4_0, .slice Ao4_1 t2.length co4_1] (0, 0) _ rfl BK3.out Try.underlying30 rfl (by kernel_rfl)) rfl ?_
  obtain ⟨f_, hf_⟩ : ∃ f_ : Nat → Nat, ∀ k_, f_ k_ = (if ((w3_.heap.size ≤ k_ ∧ k_ < w4_.heap.size) ∧ f4_ k_ = 0) then 0 else (if ((w3_.heap.size ≤ k_ ∧ k_ < w4_.heap.size) ∧ f4_ k_ = 1) then 1 else 0)) := ⟨fun k_ => (if ((w3_.heap.size ≤ k_ ∧ k_ < w4_.heap.size) ∧ f4_ k_ = 0) then 0 else (if ((w3_.heap.size ≤ k_ ∧ k_ < w4_.heap.size) ∧ f4_ k_ = 1) then 1 else 0)), fun _ => rfl⟩
  have hcol0_ : ∀ k_, (((w3_.heap.size ≤ k_ ∧ k_ < w4_.heap.size) ∧ f4_ k_ = 0)) → f_ k_ = 0 := fun k_ hk_ => by rw [hf_]; have := HS.out; repeat' (first | omega | split)
  have hcol1_ : ∀ k_, (((w3_.heap.size ≤ k_ ∧ k_ < w4_.heap.size) ∧ f4_ k_ = 1)) → f_ k_ = 1 := fun k_ hk_ => by rw [hf_]; have := HS.out; repeat' (first | omega | split)
  exact ⟨f_, _, _, rfl, Kd.R_mono HO4_0.out hcol0_, Kd.R_mono HO4_1.out hcol1_, HB.out⟩
 rw [if_pos hc1_] at H
 subst hc1_
 by_cases hc2_ : t3 < 0
 case pos =>
  rw [if_pos hc2_] at H
  have hc2_b0 : decide (t3 < 0) = true := decide_eq_true hc2_
  simp only [Option.some.injEq, Prod.mk.injEq] at H
  obtain ⟨rfl, rfl, rfl⟩ := H
  have hu30 := Try.underlying30
  have hu38 := Try.underlying38
  go_enter Try.func62, Try.ntmps62
  have HS := A_.mk (Nat.le_refl w.heap.size)
  go_wp2_with (first | ((with_reducible refine gd_ (N := 2) rfl ?_); refine by_ 2 (cs := #[.slice A0_0 l0_0.length c0_0, .slice A0_1 l0_1.length c0_1]) (t := 30) ?_; intro gb1_ hg w1_ hbox hb; replace HS := A_.mk (And.intro HS.out (show gb1_ = w.heap.size ∧ gb1_ < w1_.heap.size from ⟨hg, blk_lt hbox⟩)); replace HB := aHB HB hb; have BK1 := A_.mk hbox; clear hbox hb hg; have Q1 := blk2_ BK1.out) | ((with_reducible refine gd_ (N := 3) rfl ?_); refine by_ 3 (cs := #[.int .i64 a1_0, .int .i64 a1_1, .int .i64 a1_2, .int .i64 a1_3, .int .i64 a1_4, .int .i64 a1_5, .int .i64 a1_6, .slice A1_7 l1_7.length c1_7]) (t := 38) ?_; intro gb2_ hg w2_ hbox hb; replace HS := A_.mk (And.intro HS.out (show gb2_ = w1_.heap.size ∧ gb2_ < w2_.heap.size from ⟨hg, blk_lt hbox⟩)); replace BK1 := aBb BK1 hb; replace HB := aHB HB hb; have BK2 := A_.mk hbox; clear hbox hb hg Q1; have Q1 := blk2_ BK1.out; have Q2 := blk8_ BK2.out) | ((with_reducible refine gd_ (N := 4) rfl ?_); refine by_ 4 (cs := #[.slice none 0 0, .slice none 0 0]) (t := 30) ?_; intro gb3_ hg w3_ hbox hb; replace HS := A_.mk (And.intro HS.out (show gb3_ = w2_.heap.size ∧ gb3_ < w3_.heap.size from ⟨hg, blk_lt hbox⟩)); replace BK1 := aBb BK1 hb; replace BK2 := aBb BK2 hb; replace HB := aHB HB hb; have BK3 := A_.mk hbox; clear hbox hb hg Q1 Q2; have Q1 := blk2_ BK1.out; have Q2 := blk8_ BK2.out; have Q3 := blk2_ BK3.out) | ((with_reducible refine gc_ (f := 34) rfl ?_); refine gl_ (some 9) Try.func34 #[.agg #[.slice A0_0 l0_0.length c0_0, .slice A0_1 l0_1.length c0_1]] ?_; (with_reducible refine (spec_l14Copy.calls _ _ l0_0 _ _ l0_1 t1 t2 _ (Kd.C_below HR0_0.out HB.out) HC0_0.out (Kd.C_below HR0_1.out HB.out) HC0_1.out A4.out).mono ?_); rintro e w4_ ⟨v0_, v1_, rfl, ho0_, ho1_, hb⟩; refine ⟨_, rfl, ?_⟩; obtain ⟨f4_, hn0_, hn1_⟩ := two_col ho0_ ho1_; clear ho0_ ho1_; replace HS := aHs HS hb.size; obtain ⟨Ao4_0, co4_0, ev_⟩ := Kd.R_slice hn0_; subst ev_; have HO4_0 := aRn hn0_ HB.out.size; obtain ⟨Ao4_1, co4_1, ev_⟩ := Kd.R_slice hn1_; subst ev_; have HO4_1 := aRn hn1_ HB.out.size; replace BK1 := aBb BK1 hb; replace BK2 := aBb BK2 hb; replace BK3 := aBb BK3 hb; replace HB := aHB HB hb; clear hb hn0_ hn1_ Q1 Q2 Q3; have Q1 := blk2_ BK1.out; have Q2 := blk8_ BK2.out; have Q3 := blk2_ BK3.out) | ((with_reducible refine gd_ (N := 6) rfl ?_); refine by_ 6 (cs := #[.slice none 0 0, .slice none 0 0]) (t := 30) ?_; intro gb5_ hg w5_ hbox hb; replace HS := A_.mk (And.intro HS.out (show gb5_ = w4_.heap.size ∧ gb5_ < w5_.heap.size from ⟨hg, blk_lt hbox⟩)); replace HO4_0 := aRb HO4_0 hb; replace HO4_1 := aRb HO4_1 hb; replace BK1 := aBb BK1 hb; replace BK2 := aBb BK2 hb; replace BK3 := aBb BK3 hb; replace HB := aHB HB hb; have BK5 := A_.mk hbox; clear hbox hb hg Q1 Q2 Q3; have Q1 := blk2_ BK1.out; have Q2 := blk8_ BK2.out; have Q3 := blk2_ BK3.out; have Q5 := blk2_ BK5.out) | ((with_reducible refine gs_ (t := 30) (p := 6) rfl ?_); have qf0 := bf_ BK5.out 0; have qf1 := bf_ BK5.out 1; refine se_ (t := 30) (p := 6) (v := ?vo_6) (w1 := (ch2_ w5_ gb5_ (.slice Ao4_0 t1.length co4_0) (.slice Ao4_1 t2.length co4_1))) ?hg ?ho ?hn ?hr ?_; (case ho => rfl); (case hg => rfl); (case hn => rfl); (case hr => first | (go_simp; done) | (go_simp; rfl)); intro w6_ hw; clear qf0 qf1; obtain ⟨hbx, hkp, hbb⟩ := st2_ hw BK5 HB (by have := HS.out; omega); clear hw; replace HO4_0 := aRk HO4_0 hkp HS; replace HO4_1 := aRk HO4_1 hkp HS; replace BK1 := aBk BK1 hkp HS; replace BK2 := aBk BK2 hkp HS; replace BK3 := aBk BK3 hkp HS; replace BK5 := A_.mk hbx; replace HB := A_.mk hbb; replace HS := aHs HS hkp.1; clear hkp hbb hbx Q1 Q2 Q3 Q5; have Q1 := blk2_ BK1.out; have Q2 := blk8_ BK2.out; have Q3 := blk2_ BK3.out; have Q5 := blk2_ BK5.out))
  (with_reducible refine (spec_ClassOf.calls k a1_0 a1_1 a1_2 a1_3 a1_4 a1_5 a1_6 _ _ l1_7 t3 _ (Kd.C_below HR1_7.out HB.out) HC1_7.out A7.out).mono ?_)
  rintro e w7_ ⟨rfl, hb⟩
  replace HS := aHs HS hb.size
  replace HO4_0 := aRb HO4_0 hb
  replace HO4_1 := aRb HO4_1 hb
  replace BK1 := aBb BK1 hb
  replace BK2 := aBb BK2 hb
  replace BK3 := aBb BK3 hb
  replace BK5 := aBb BK5 hb
  replace HB := aHB HB hb
  clear hb  Q1 Q2 Q3 Q5
  have Q1 := blk2_ BK1.out
  have Q2 := blk8_ BK2.out
  have Q3 := blk2_ BK3.out
  have Q5 := blk2_ BK5.out
  go_wp2_with (fail)
  refine start_ (n := 26) (S := fun w' => (w'.cell? ⟨gb1_, 0, none⟩ = some (.slice A0_0 l0_0.length c0_0) ∧ w'.cell? ⟨gb1_, 1, none⟩ = some (.slice A0_1 l0_1.length c0_1))) (ds := []) #[F, F, F, F, F, F, F, F, F, F, F, F, F, F, F, F, F, F, F, F, F, F, F, F, F, F] (by kernel_rfl) rfl rfl (blk2_ BK1.out) (fun hHeld => ?_)
  clear Q1 Q2 Q3 Q5
  have hb := below_drew (Below.refl w7_.heap.size w7_)
  replace HS := aHs HS hb.size
  replace HO4_0 := aRb HO4_0 hb
  replace HO4_1 := aRb HO4_1 hb
  replace BK1 := aBb BK1 hb
  replace BK2 := aBb BK2 hb
  replace BK3 := aBb BK3 hb
  replace BK5 := aBb BK5 hb
  replace HB := aHB HB hb
  clear hb
  generalize w7_.drew = w23d_ at HO4_0 HO4_1 BK1 BK2 BK3 BK5 HB HS hHeld ⊢
  refine tl_ (i := 0) (N := some 12) #[T, F, F, F, F, F, F, F, F, F, F, F, F, F, F, F, F, F, F, F, F, F, F, F, F, F] rfl hHeld ?_
  refine on_ (i := 1) (N := some 13) #[T, T, F, F, F, F, F, F, F, F, F, F, F, F, F, F, F, F, F, F, F, F, F, F, F, F] rfl (fun K hK => ?_)
  refine gz_ Try.func33 #[.agg #[.slice A0_0 l0_0.length c0_0, .slice A0_1 l0_1.length c0_1]] ?_
  with_reducible refine (spec_CreditsOk.calls k _ _ l0_0 _ _ l0_1 true _ (Kd.C_below HR0_0.out HB.out) HC0_0.out (Kd.C_below HR0_1.out HB.out) HC0_1.out A8.out).mono ?_
  rintro e w8_ ⟨rfl, hb⟩
  refine ⟨_, rfl, ?_⟩
  replace HS := aHs HS hb.size
  replace HO4_0 := aRb HO4_0 hb
  replace HO4_1 := aRb HO4_1 hb
  replace BK1 := aBb BK1 hb
  replace BK2 := aBb BK2 hb
  replace BK3 := aBb BK3 hb
  replace BK5 := aBb BK5 hb
  replace HB := aHB HB hb
  clear hb 
  refine hK.out _ _ (blk2_ BK1.out) (fun hHeld => ?_)
  clear hK K
  refine nm_ ?_
  refine pd_ (i := 2) (N := some 14) #[T, T, T, F, F, F, F, F, F, F, F, F, F, F, F, F, F, F, F, F, F, F, F, F, F, F] rfl ?_
  refine pd_ (i := 3) (N := some 15) #[T, T, T, T, F, F, F, F, F, F, F, F, F, F, F, F, F, F, F, F, F, F, F, F, F, F] rfl ?_
  refine pd_ (i := 4) (N := some 16) #[T, T, T, T, T, F, F, F, F, F, F, F, F, F, F, F, F, F, F, F, F, F, F, F, F, F] rfl ?_
  refine pd_ (i := 5) (N := some 17) #[T, T, T, T, T, T, F, F, F, F, F, F, F, F, F, F, F, F, F, F, F, F, F, F, F, F] rfl ?_
  refine pd_ (i := 6) (N := some 18) #[T, T, T, T, T, T, T, F, F, F, F, F, F, F, F, F, F, F, F, F, F, F, F, F, F, F] rfl ?_
  refine pd_ (i := 7) (N := some 19) #[T, T, T, T, T, T, T, T, F, F, F, F, F, F, F, F, F, F, F, F, F, F, F, F, F, F] rfl ?_
  refine pw_ (i := 8) (N := some 20) #[T, T, T, T, T, T, T, T, T, F, F, F, F, F, F, F, F, F, F, F, F, F, F, F, F, F] rfl ?_
  refine pw_ (i := 9) (N := some 21) #[T, T, T, T, T, T, T, T, T, T, F, F, F, F, F, F, F, F, F, F, F, F, F, F, F, F] rfl ?_
  refine pw_ (i := 10) (N := some 22) #[T, T, T, T, T, T, T, T, T, T, T, F, F, F, F, F, F, F, F, F, F, F, F, F, F, F] rfl ?_
  refine pw_ (i := 11) (N := some 23) #[T, T, T, T, T, T, T, T, T, T, T, T, F, F, F, F, F, F, F, F, F, F, F, F, F, F] rfl ?_
  refine pw_ (i := 12) (N := some 24) #[T, T, T, T, T, T, T, T, T, T, T, T, T, F, F, F, F, F, F, F, F, F, F, F, F, F] rfl ?_
  refine pw_ (i := 13) (N := some 25) #[T, T, T, T, T, T, T, T, T, T, T, T, T, T, F, F, F, F, F, F, F, F, F, F, F, F] rfl ?_
  refine pd_ (i := 14) (N := some 26) #[T, T, T, T, T, T, T, T, T, T, T, T, T, T, T, F, F, F, F, F, F, F, F, F, F, F] rfl ?_
  refine pd_ (i := 15) (N := some 27) #[T, T, T, T, T, T, T, T, T, T, T, T, T, T, T, T, F, F, F, F, F, F, F, F, F, F] rfl ?_
  refine pw_ (i := 16) (N := some 28) #[T, T, T, T, T, T, T, T, T, T, T, T, T, T, T, T, T, F, F, F, F, F, F, F, F, F] rfl ?_
  refine pw_ (i := 17) (N := some 29) #[T, T, T, T, T, T, T, T, T, T, T, T, T, T, T, T, T, T, F, F, F, F, F, F, F, F] rfl ?_
  refine pw_ (i := 18) (N := some 30) #[T, T, T, T, T, T, T, T, T, T, T, T, T, T, T, T, T, T, T, F, F, F, F, F, F, F] rfl ?_
  refine pw_ (i := 19) (N := some 31) #[T, T, T, T, T, T, T, T, T, T, T, T, T, T, T, T, T, T, T, T, F, F, F, F, F, F] rfl ?_
  refine pw_ (i := 20) (N := some 32) #[T, T, T, T, T, T, T, T, T, T, T, T, T, T, T, T, T, T, T, T, T, F, F, F, F, F] rfl ?_
  refine pw_ (i := 21) (N := some 33) #[T, T, T, T, T, T, T, T, T, T, T, T, T, T, T, T, T, T, T, T, T, T, F, F, F, F] rfl ?_
  refine pw_ (i := 22) (N := some 34) #[T, T, T, T, T, T, T, T, T, T, T, T, T, T, T, T, T, T, T, T, T, T, T, F, F, F] rfl ?_
  refine pw_ (i := 23) (N := some 35) #[T, T, T, T, T, T, T, T, T, T, T, T, T, T, T, T, T, T, T, T, T, T, T, T, F, F] rfl ?_
  refine pw_ (i := 24) (N := some 36) #[T, T, T, T, T, T, T, T, T, T, T, T, T, T, T, T, T, T, T, T, T, T, T, T, T, F] rfl ?_
  refine pd_ (i := 25) (N := some 37) #[T, T, T, T, T, T, T, T, T, T, T, T, T, T, T, T, T, T, T, T, T, T, T, T, T, T] rfl ?_
  refine done_ (by kernel_rfl) ?_
  have Q1 := blk2_ BK1.out
  have Q2 := blk8_ BK2.out
  have Q3 := blk2_ BK3.out
  have Q5 := blk2_ BK5.out
  go_wp2_with (first | ((with_reducible refine gs_ (t := 30) (p := 4) rfl ?_); have qf0 := bf_ BK3.out 0; have qf1 := bf_ BK3.out 1; refine se_ (t := 30) (p := 4) (v := ?vo_9) (w1 := (ch2_ w8_ gb3_ (.slice Ao4_0 t1.length co4_0) (.slice Ao4_1 t2.length co4_1))) ?hg ?ho ?hn ?hr ?_; (case ho => rfl); (case hg => rfl); (case hn => rfl); (case hr => first | (go_simp; done) | (go_simp; rfl)); intro w9_ hw; clear qf0 qf1; obtain ⟨hbx, hkp, hbb⟩ := st2_ hw BK3 HB (by have := HS.out; omega); clear hw; replace HO4_0 := aRk HO4_0 hkp HS; replace HO4_1 := aRk HO4_1 hkp HS; replace BK1 := aBk BK1 hkp HS; replace BK2 := aBk BK2 hkp HS; replace BK5 := aBk BK5 hkp HS; replace BK3 := A_.mk hbx; replace HB := A_.mk hbb; replace HS := aHs HS hkp.1; clear hkp hbb hbx Q1 Q2 Q3 Q5; have Q1 := blk2_ BK1.out; have Q2 := blk8_ BK2.out; have Q3 := blk2_ BK3.out; have Q5 := blk2_ BK5.out))
  refine bodyPost_ret (results_ct rfl _ _ gb3_ 30 #[.slice Ao4_0 t1.length co4_0, .slice Ao4_1 t2.length co4_1] (0, 0) _ rfl BK3.out Try.underlying30 rfl (by kernel_rfl)) rfl ?_
  obtain ⟨f_, hf_⟩ : ∃ f_ : Nat → Nat, ∀ k_, f_ k_ = (if ((w3_.heap.size ≤ k_ ∧ k_ < w4_.heap.size) ∧ f4_ k_ = 0) then 0 else (if ((w3_.heap.size ≤ k_ ∧ k_ < w4_.heap.size) ∧ f4_ k_ = 1) then 1 else 0)) := ⟨fun k_ => (if ((w3_.heap.size ≤ k_ ∧ k_ < w4_.heap.size) ∧ f4_ k_ = 0) then 0 else (if ((w3_.heap.size ≤ k_ ∧ k_ < w4_.heap.size) ∧ f4_ k_ = 1) then 1 else 0)), fun _ => rfl⟩
  have hcol0_ : ∀ k_, (((w3_.heap.size ≤ k_ ∧ k_ < w4_.heap.size) ∧ f4_ k_ = 0)) → f_ k_ = 0 := fun k_ hk_ => by rw [hf_]; have := HS.out; repeat' (first | omega | split)
  have hcol1_ : ∀ k_, (((w3_.heap.size ≤ k_ ∧ k_ < w4_.heap.size) ∧ f4_ k_ = 1)) → f_ k_ = 1 := fun k_ hk_ => by rw [hf_]; have := HS.out; repeat' (first | omega | split)
  exact ⟨f_, _, _, rfl, Kd.R_mono HO4_0.out hcol0_, Kd.R_mono HO4_1.out hcol1_, HB.out⟩
 rw [if_neg hc2_] at H
 have hc2_b0 : decide (t3 < 0) = false := decide_eq_false hc2_
 by_cases hp10_ : 0 ≤ t3
 case neg => rw [if_neg hp10_] at H; cases H
 rw [if_pos hp10_] at H
 by_cases hq10_ : t3 < (l0_0.length : Int)
 case neg => rw [if_neg hq10_] at H; cases H
 rw [if_pos hq10_] at H
 have EB10 := A_.mk (And.intro hp10_ hq10_)
 obtain ⟨ad10_, eA_, hx0_⟩ := Kd.at_int HW0_0.out t3 hp10_ hq10_
 subst eA_
 have HX10 := A_.mk hx0_
 clear hx0_
 replace hp10_ := eq_true hp10_
 replace hq10_ := eq_true hq10_
 by_cases hc3_ : (rd l0_0 t3) = 30
 case pos =>
  rw [if_pos hc3_] at H
  have hc3_b0 : ((rd l0_0 t3) == 30) = true := beq_iff_eq.mpr hc3_
  have hc3_bn : ((rd l0_0 t3) != 30) = false := bne_eq_false_iff_eq.mpr hc3_
  replace hc3_ := A_.mk hc3_
  simp only [Option.some.injEq, Prod.mk.injEq] at H
  obtain ⟨rfl, rfl, rfl⟩ := H
  have hu30 := Try.underlying30
  have hu38 := Try.underlying38
  go_enter Try.func62, Try.ntmps62
  have HS := A_.mk (Nat.le_refl w.heap.size)
  go_wp2_with (first | ((with_reducible refine gd_ (N := 2) rfl ?_); refine by_ 2 (cs := #[.slice (some ad10_) l0_0.length c0_0, .slice A0_1 l0_1.length c0_1]) (t := 30) ?_; intro gb1_ hg w1_ hbox hb; replace HS := A_.mk (And.intro HS.out (show gb1_ = w.heap.size ∧ gb1_ < w1_.heap.size from ⟨hg, blk_lt hbox⟩)); replace HB := aHB HB hb; have BK1 := A_.mk hbox; clear hbox hb hg; have Q1 := blk2_ BK1.out) | ((with_reducible refine gd_ (N := 3) rfl ?_); refine by_ 3 (cs := #[.int .i64 a1_0, .int .i64 a1_1, .int .i64 a1_2, .int .i64 a1_3, .int .i64 a1_4, .int .i64 a1_5, .int .i64 a1_6, .slice A1_7 l1_7.length c1_7]) (t := 38) ?_; intro gb2_ hg w2_ hbox hb; replace HS := A_.mk (And.intro HS.out (show gb2_ = w1_.heap.size ∧ gb2_ < w2_.heap.size from ⟨hg, blk_lt hbox⟩)); replace BK1 := aBb BK1 hb; replace HB := aHB HB hb; have BK2 := A_.mk hbox; clear hbox hb hg Q1; have Q1 := blk2_ BK1.out; have Q2 := blk8_ BK2.out) | ((with_reducible refine gd_ (N := 4) rfl ?_); refine by_ 4 (cs := #[.slice none 0 0, .slice none 0 0]) (t := 30) ?_; intro gb3_ hg w3_ hbox hb; replace HS := A_.mk (And.intro HS.out (show gb3_ = w2_.heap.size ∧ gb3_ < w3_.heap.size from ⟨hg, blk_lt hbox⟩)); replace BK1 := aBb BK1 hb; replace BK2 := aBb BK2 hb; replace HB := aHB HB hb; have BK3 := A_.mk hbox; clear hbox hb hg Q1 Q2; have Q1 := blk2_ BK1.out; have Q2 := blk8_ BK2.out; have Q3 := blk2_ BK3.out) | ((with_reducible refine gc_ (f := 34) rfl ?_); refine gl_ (some 9) Try.func34 #[.agg #[.slice (some ad10_) l0_0.length c0_0, .slice A0_1 l0_1.length c0_1]] ?_; (with_reducible refine (spec_l14Copy.calls _ _ l0_0 _ _ l0_1 t1 t2 _ (Kd.C_below HR0_0.out HB.out) HC0_0.out (Kd.C_below HR0_1.out HB.out) HC0_1.out A4.out).mono ?_); rintro e w4_ ⟨v0_, v1_, rfl, ho0_, ho1_, hb⟩; refine ⟨_, rfl, ?_⟩; obtain ⟨f4_, hn0_, hn1_⟩ := two_col ho0_ ho1_; clear ho0_ ho1_; replace HS := aHs HS hb.size; obtain ⟨Ao4_0, co4_0, ev_⟩ := Kd.R_slice hn0_; subst ev_; have HO4_0 := aRn hn0_ HB.out.size; obtain ⟨Ao4_1, co4_1, ev_⟩ := Kd.R_slice hn1_; subst ev_; have HO4_1 := aRn hn1_ HB.out.size; replace BK1 := aBb BK1 hb; replace BK2 := aBb BK2 hb; replace BK3 := aBb BK3 hb; replace HB := aHB HB hb; clear hb hn0_ hn1_ Q1 Q2 Q3; have Q1 := blk2_ BK1.out; have Q2 := blk8_ BK2.out; have Q3 := blk2_ BK3.out) | ((with_reducible refine gd_ (N := 6) rfl ?_); refine by_ 6 (cs := #[.slice none 0 0, .slice none 0 0]) (t := 30) ?_; intro gb5_ hg w5_ hbox hb; replace HS := A_.mk (And.intro HS.out (show gb5_ = w4_.heap.size ∧ gb5_ < w5_.heap.size from ⟨hg, blk_lt hbox⟩)); replace HO4_0 := aRb HO4_0 hb; replace HO4_1 := aRb HO4_1 hb; replace BK1 := aBb BK1 hb; replace BK2 := aBb BK2 hb; replace BK3 := aBb BK3 hb; replace HB := aHB HB hb; have BK5 := A_.mk hbox; clear hbox hb hg Q1 Q2 Q3; have Q1 := blk2_ BK1.out; have Q2 := blk8_ BK2.out; have Q3 := blk2_ BK3.out; have Q5 := blk2_ BK5.out) | ((with_reducible refine gs_ (t := 30) (p := 6) rfl ?_); have qf0 := bf_ BK5.out 0; have qf1 := bf_ BK5.out 1; refine se_ (t := 30) (p := 6) (v := ?vo_6) (w1 := (ch2_ w5_ gb5_ (.slice Ao4_0 t1.length co4_0) (.slice Ao4_1 t2.length co4_1))) ?hg ?ho ?hn ?hr ?_; (case ho => rfl); (case hg => rfl); (case hn => rfl); (case hr => first | (go_simp; done) | (go_simp; rfl)); intro w6_ hw; clear qf0 qf1; obtain ⟨hbx, hkp, hbb⟩ := st2_ hw BK5 HB (by have := HS.out; omega); clear hw; replace HO4_0 := aRk HO4_0 hkp HS; replace HO4_1 := aRk HO4_1 hkp HS; replace BK1 := aBk BK1 hkp HS; replace BK2 := aBk BK2 hkp HS; replace BK3 := aBk BK3 hkp HS; replace BK5 := A_.mk hbx; replace HB := A_.mk hbb; replace HS := aHs HS hkp.1; clear hkp hbb hbx Q1 Q2 Q3 Q5; have Q1 := blk2_ BK1.out; have Q2 := blk8_ BK2.out; have Q3 := blk2_ BK3.out; have Q5 := blk2_ BK5.out))
  (with_reducible refine (spec_ClassOf.calls k a1_0 a1_1 a1_2 a1_3 a1_4 a1_5 a1_6 _ _ l1_7 t3 _ (Kd.C_below HR1_7.out HB.out) HC1_7.out A7.out).mono ?_)
  rintro e w7_ ⟨rfl, hb⟩
  replace HS := aHs HS hb.size
  replace HO4_0 := aRb HO4_0 hb
  replace HO4_1 := aRb HO4_1 hb
  replace BK1 := aBb BK1 hb
  replace BK2 := aBb BK2 hb
  replace BK3 := aBb BK3 hb
  replace BK5 := aBb BK5 hb
  replace HB := aHB HB hb
  clear hb  Q1 Q2 Q3 Q5
  have Q1 := blk2_ BK1.out
  have Q2 := blk8_ BK2.out
  have Q3 := blk2_ BK3.out
  have Q5 := blk2_ BK5.out
  go_wp2_with (fail)
  refine start_ (n := 26) (S := fun w' => (w'.cell? ⟨gb1_, 0, none⟩ = some (.slice (some ad10_) l0_0.length c0_0) ∧ w'.cell? ⟨gb1_, 1, none⟩ = some (.slice A0_1 l0_1.length c0_1)) ∧ (w'.cell? (ad10_.add (t3).toNat) = some (.int .i64 (rd l0_0 t3)))) (ds := []) #[F, F, F, F, F, F, F, F, F, F, F, F, F, F, F, F, F, F, F, F, F, F, F, F, F, F] (by kernel_rfl) rfl rfl ⟨blk2_ BK1.out, el1_ (below_drew HB.out) HX10.out⟩ (fun hHeld => ?_)
  clear Q1 Q2 Q3 Q5
  have hb := below_drew (Below.refl w7_.heap.size w7_)
  replace HS := aHs HS hb.size
  replace HO4_0 := aRb HO4_0 hb
  replace HO4_1 := aRb HO4_1 hb
  replace BK1 := aBb BK1 hb
  replace BK2 := aBb BK2 hb
  replace BK3 := aBb BK3 hb
  replace BK5 := aBb BK5 hb
  replace HB := aHB HB hb
  clear hb
  generalize w7_.drew = w24d_ at HO4_0 HO4_1 BK1 BK2 BK3 BK5 HB HS hHeld ⊢
  refine tl_ (i := 0) (N := some 12) #[T, F, F, F, F, F, F, F, F, F, F, F, F, F, F, F, F, F, F, F, F, F, F, F, F, F] rfl hHeld ?_
  refine on_ (i := 1) (N := some 13) #[T, T, F, F, F, F, F, F, F, F, F, F, F, F, F, F, F, F, F, F, F, F, F, F, F, F] rfl (fun K hK => ?_)
  refine gz_ Try.func33 #[.agg #[.slice (some ad10_) l0_0.length c0_0, .slice A0_1 l0_1.length c0_1]] ?_
  with_reducible refine (spec_CreditsOk.calls k _ _ l0_0 _ _ l0_1 true _ (Kd.C_below HR0_0.out HB.out) HC0_0.out (Kd.C_below HR0_1.out HB.out) HC0_1.out A8.out).mono ?_
  rintro e w8_ ⟨rfl, hb⟩
  refine ⟨_, rfl, ?_⟩
  replace HS := aHs HS hb.size
  replace HO4_0 := aRb HO4_0 hb
  replace HO4_1 := aRb HO4_1 hb
  replace BK1 := aBb BK1 hb
  replace BK2 := aBb BK2 hb
  replace BK3 := aBb BK3 hb
  replace BK5 := aBb BK5 hb
  replace HB := aHB HB hb
  clear hb 
  refine hK.out _ _ ⟨blk2_ BK1.out, el1_ HB.out HX10.out⟩ (fun hHeld => ?_)
  clear hK K
  refine nm_ ?_
  refine pd_ (i := 2) (N := some 14) #[T, T, T, F, F, F, F, F, F, F, F, F, F, F, F, F, F, F, F, F, F, F, F, F, F, F] rfl ?_
  refine pd_ (i := 3) (N := some 15) #[T, T, T, T, F, F, F, F, F, F, F, F, F, F, F, F, F, F, F, F, F, F, F, F, F, F] rfl ?_
  refine pd_ (i := 4) (N := some 16) #[T, T, T, T, T, F, F, F, F, F, F, F, F, F, F, F, F, F, F, F, F, F, F, F, F, F] rfl ?_
  refine pd_ (i := 5) (N := some 17) #[T, T, T, T, T, T, F, F, F, F, F, F, F, F, F, F, F, F, F, F, F, F, F, F, F, F] rfl ?_
  refine pd_ (i := 6) (N := some 18) #[T, T, T, T, T, T, T, F, F, F, F, F, F, F, F, F, F, F, F, F, F, F, F, F, F, F] rfl ?_
  refine pd_ (i := 7) (N := some 19) #[T, T, T, T, T, T, T, T, F, F, F, F, F, F, F, F, F, F, F, F, F, F, F, F, F, F] rfl ?_
  refine pd_ (i := 8) (N := some 20) #[T, T, T, T, T, T, T, T, T, F, F, F, F, F, F, F, F, F, F, F, F, F, F, F, F, F] rfl ?_
  refine tl_ (i := 9) (N := some 21) #[T, T, T, T, T, T, T, T, T, T, F, F, F, F, F, F, F, F, F, F, F, F, F, F, F, F] rfl hHeld ?_
  refine pd_ (i := 10) (N := some 22) #[T, T, T, T, T, T, T, T, T, T, T, F, F, F, F, F, F, F, F, F, F, F, F, F, F, F] rfl ?_
  refine pd_ (i := 11) (N := some 23) #[T, T, T, T, T, T, T, T, T, T, T, T, F, F, F, F, F, F, F, F, F, F, F, F, F, F] rfl ?_
  refine tl_ (i := 12) (N := some 24) #[T, T, T, T, T, T, T, T, T, T, T, T, T, F, F, F, F, F, F, F, F, F, F, F, F, F] rfl hHeld ?_
  refine pd_ (i := 13) (N := some 25) #[T, T, T, T, T, T, T, T, T, T, T, T, T, T, F, F, F, F, F, F, F, F, F, F, F, F] rfl ?_
  refine pd_ (i := 14) (N := some 26) #[T, T, T, T, T, T, T, T, T, T, T, T, T, T, T, F, F, F, F, F, F, F, F, F, F, F] rfl ?_
  refine pd_ (i := 15) (N := some 27) #[T, T, T, T, T, T, T, T, T, T, T, T, T, T, T, T, F, F, F, F, F, F, F, F, F, F] rfl ?_
  refine pw_ (i := 16) (N := some 28) #[T, T, T, T, T, T, T, T, T, T, T, T, T, T, T, T, T, F, F, F, F, F, F, F, F, F] rfl ?_
  refine pw_ (i := 17) (N := some 29) #[T, T, T, T, T, T, T, T, T, T, T, T, T, T, T, T, T, T, F, F, F, F, F, F, F, F] rfl ?_
  refine pw_ (i := 18) (N := some 30) #[T, T, T, T, T, T, T, T, T, T, T, T, T, T, T, T, T, T, T, F, F, F, F, F, F, F] rfl ?_
  refine pw_ (i := 19) (N := some 31) #[T, T, T, T, T, T, T, T, T, T, T, T, T, T, T, T, T, T, T, T, F, F, F, F, F, F] rfl ?_
  refine pw_ (i := 20) (N := some 32) #[T, T, T, T, T, T, T, T, T, T, T, T, T, T, T, T, T, T, T, T, T, F, F, F, F, F] rfl ?_
  refine pw_ (i := 21) (N := some 33) #[T, T, T, T, T, T, T, T, T, T, T, T, T, T, T, T, T, T, T, T, T, T, F, F, F, F] rfl ?_
  refine pw_ (i := 22) (N := some 34) #[T, T, T, T, T, T, T, T, T, T, T, T, T, T, T, T, T, T, T, T, T, T, T, F, F, F] rfl ?_
  refine pw_ (i := 23) (N := some 35) #[T, T, T, T, T, T, T, T, T, T, T, T, T, T, T, T, T, T, T, T, T, T, T, T, F, F] rfl ?_
  refine pw_ (i := 24) (N := some 36) #[T, T, T, T, T, T, T, T, T, T, T, T, T, T, T, T, T, T, T, T, T, T, T, T, T, F] rfl ?_
  refine pd_ (i := 25) (N := some 37) #[T, T, T, T, T, T, T, T, T, T, T, T, T, T, T, T, T, T, T, T, T, T, T, T, T, T] rfl ?_
  refine done_ (by kernel_rfl) ?_
  have Q1 := blk2_ BK1.out
  have Q2 := blk8_ BK2.out
  have Q3 := blk2_ BK3.out
  have Q5 := blk2_ BK5.out
  go_wp2_with (first | ((with_reducible refine gs_ (t := 30) (p := 4) rfl ?_); have qf0 := bf_ BK3.out 0; have qf1 := bf_ BK3.out 1; refine se_ (t := 30) (p := 4) (v := ?vo_11) (w1 := (ch2_ w8_ gb3_ (.slice Ao4_0 t1.length co4_0) (.slice Ao4_1 t2.length co4_1))) ?hg ?ho ?hn ?hr ?_; (case ho => rfl); (case hg => rfl); (case hn => rfl); (case hr => first | (go_simp; done) | (go_simp; rfl)); intro w11_ hw; clear qf0 qf1; obtain ⟨hbx, hkp, hbb⟩ := st2_ hw BK3 HB (by have := HS.out; omega); clear hw; replace HO4_0 := aRk HO4_0 hkp HS; replace HO4_1 := aRk HO4_1 hkp HS; replace BK1 := aBk BK1 hkp HS; replace BK2 := aBk BK2 hkp HS; replace BK5 := aBk BK5 hkp HS; replace BK3 := A_.mk hbx; replace HB := A_.mk hbb; replace HS := aHs HS hkp.1; clear hkp hbb hbx Q1 Q2 Q3 Q5; have Q1 := blk2_ BK1.out; have Q2 := blk8_ BK2.out; have Q3 := blk2_ BK3.out; have Q5 := blk2_ BK5.out))
  refine bodyPost_ret (results_ct rfl _ _ gb3_ 30 #[.slice Ao4_0 t1.length co4_0, .slice Ao4_1 t2.length co4_1] (0, 0) _ rfl BK3.out Try.underlying30 rfl (by kernel_rfl)) rfl ?_
  obtain ⟨f_, hf_⟩ : ∃ f_ : Nat → Nat, ∀ k_, f_ k_ = (if ((w3_.heap.size ≤ k_ ∧ k_ < w4_.heap.size) ∧ f4_ k_ = 0) then 0 else (if ((w3_.heap.size ≤ k_ ∧ k_ < w4_.heap.size) ∧ f4_ k_ = 1) then 1 else 0)) := ⟨fun k_ => (if ((w3_.heap.size ≤ k_ ∧ k_ < w4_.heap.size) ∧ f4_ k_ = 0) then 0 else (if ((w3_.heap.size ≤ k_ ∧ k_ < w4_.heap.size) ∧ f4_ k_ = 1) then 1 else 0)), fun _ => rfl⟩
  have hcol0_ : ∀ k_, (((w3_.heap.size ≤ k_ ∧ k_ < w4_.heap.size) ∧ f4_ k_ = 0)) → f_ k_ = 0 := fun k_ hk_ => by rw [hf_]; have := HS.out; repeat' (first | omega | split)
  have hcol1_ : ∀ k_, (((w3_.heap.size ≤ k_ ∧ k_ < w4_.heap.size) ∧ f4_ k_ = 1)) → f_ k_ = 1 := fun k_ hk_ => by rw [hf_]; have := HS.out; repeat' (first | omega | split)
  exact ⟨f_, _, _, rfl, Kd.R_mono HO4_0.out hcol0_, Kd.R_mono HO4_1.out hcol1_, HB.out⟩
 rw [if_neg hc3_] at H
 have hc3_b0 : ((rd l0_0 t3) == 30) = false := beq_eq_false_iff_ne.mpr hc3_
 have hc3_bn : ((rd l0_0 t3) != 30) = true := bne_iff_ne.mpr hc3_
 by_cases hp12_ : 0 ≤ t3
 case neg => rw [if_neg hp12_] at H; cases H
 rw [if_pos hp12_] at H
 by_cases hq12_ : t3 < (l0_1.length : Int)
 case neg => rw [if_neg hq12_] at H; cases H
 rw [if_pos hq12_] at H
 have EB12 := A_.mk (And.intro hp12_ hq12_)
 obtain ⟨ad12_, eA_, hx0_⟩ := Kd.at_int HW0_1.out t3 hp12_ hq12_
 subst eA_
 have HX12 := A_.mk hx0_
 clear hx0_
 replace hp12_ := eq_true hp12_
 replace hq12_ := eq_true hq12_
 replace H := oa_ H
 obtain ⟨t5, A13, H⟩ := H
 by_cases hc4_ : 30 < (wrap64 ((rd l0_1 t3) + t5))
 case pos =>
  rw [if_pos hc4_] at H
  have hc4_b0 : decide (30 < (wrap64 ((rd l0_1 t3) + t5))) = true := decide_eq_true hc4_
  simp only [Option.some.injEq, Prod.mk.injEq] at H
  obtain ⟨rfl, rfl, rfl⟩ := H
  have hu30 := Try.underlying30
  have hu38 := Try.underlying38
  go_enter Try.func62, Try.ntmps62
  have HS := A_.mk (Nat.le_refl w.heap.size)
  go_wp2_with (first | ((with_reducible refine gd_ (N := 2) rfl ?_); refine by_ 2 (cs := #[.slice (some ad10_) l0_0.length c0_0, .slice (some ad12_) l0_1.length c0_1]) (t := 30) ?_; intro gb1_ hg w1_ hbox hb; replace HS := A_.mk (And.intro HS.out (show gb1_ = w.heap.size ∧ gb1_ < w1_.heap.size from ⟨hg, blk_lt hbox⟩)); replace HB := aHB HB hb; have BK1 := A_.mk hbox; clear hbox hb hg; have Q1 := blk2_ BK1.out) | ((with_reducible refine gd_ (N := 3) rfl ?_); refine by_ 3 (cs := #[.int .i64 a1_0, .int .i64 a1_1, .int .i64 a1_2, .int .i64 a1_3, .int .i64 a1_4, .int .i64 a1_5, .int .i64 a1_6, .slice A1_7 l1_7.length c1_7]) (t := 38) ?_; intro gb2_ hg w2_ hbox hb; replace HS := A_.mk (And.intro HS.out (show gb2_ = w1_.heap.size ∧ gb2_ < w2_.heap.size from ⟨hg, blk_lt hbox⟩)); replace BK1 := aBb BK1 hb; replace HB := aHB HB hb; have BK2 := A_.mk hbox; clear hbox hb hg Q1; have Q1 := blk2_ BK1.out; have Q2 := blk8_ BK2.out) | ((with_reducible refine gd_ (N := 4) rfl ?_); refine by_ 4 (cs := #[.slice none 0 0, .slice none 0 0]) (t := 30) ?_; intro gb3_ hg w3_ hbox hb; replace HS := A_.mk (And.intro HS.out (show gb3_ = w2_.heap.size ∧ gb3_ < w3_.heap.size from ⟨hg, blk_lt hbox⟩)); replace BK1 := aBb BK1 hb; replace BK2 := aBb BK2 hb; replace HB := aHB HB hb; have BK3 := A_.mk hbox; clear hbox hb hg Q1 Q2; have Q1 := blk2_ BK1.out; have Q2 := blk8_ BK2.out; have Q3 := blk2_ BK3.out) | ((with_reducible refine gc_ (f := 34) rfl ?_); refine gl_ (some 9) Try.func34 #[.agg #[.slice (some ad10_) l0_0.length c0_0, .slice (some ad12_) l0_1.length c0_1]] ?_; (with_reducible refine (spec_l14Copy.calls _ _ l0_0 _ _ l0_1 t1 t2 _ (Kd.C_below HR0_0.out HB.out) HC0_0.out (Kd.C_below HR0_1.out HB.out) HC0_1.out A4.out).mono ?_); rintro e w4_ ⟨v0_, v1_, rfl, ho0_, ho1_, hb⟩; refine ⟨_, rfl, ?_⟩; obtain ⟨f4_, hn0_, hn1_⟩ := two_col ho0_ ho1_; clear ho0_ ho1_; replace HS := aHs HS hb.size; obtain ⟨Ao4_0, co4_0, ev_⟩ := Kd.R_slice hn0_; subst ev_; have HO4_0 := aRn hn0_ HB.out.size; obtain ⟨Ao4_1, co4_1, ev_⟩ := Kd.R_slice hn1_; subst ev_; have HO4_1 := aRn hn1_ HB.out.size; replace BK1 := aBb BK1 hb; replace BK2 := aBb BK2 hb; replace BK3 := aBb BK3 hb; replace HB := aHB HB hb; clear hb hn0_ hn1_ Q1 Q2 Q3; have Q1 := blk2_ BK1.out; have Q2 := blk8_ BK2.out; have Q3 := blk2_ BK3.out) | ((with_reducible refine gd_ (N := 6) rfl ?_); refine by_ 6 (cs := #[.slice none 0 0, .slice none 0 0]) (t := 30) ?_; intro gb5_ hg w5_ hbox hb; replace HS := A_.mk (And.intro HS.out (show gb5_ = w4_.heap.size ∧ gb5_ < w5_.heap.size from ⟨hg, blk_lt hbox⟩)); replace HO4_0 := aRb HO4_0 hb; replace HO4_1 := aRb HO4_1 hb; replace BK1 := aBb BK1 hb; replace BK2 := aBb BK2 hb; replace BK3 := aBb BK3 hb; replace HB := aHB HB hb; have BK5 := A_.mk hbox; clear hbox hb hg Q1 Q2 Q3; have Q1 := blk2_ BK1.out; have Q2 := blk8_ BK2.out; have Q3 := blk2_ BK3.out; have Q5 := blk2_ BK5.out) | ((with_reducible refine gs_ (t := 30) (p := 6) rfl ?_); have qf0 := bf_ BK5.out 0; have qf1 := bf_ BK5.out 1; refine se_ (t := 30) (p := 6) (v := ?vo_6) (w1 := (ch2_ w5_ gb5_ (.slice Ao4_0 t1.length co4_0) (.slice Ao4_1 t2.length co4_1))) ?hg ?ho ?hn ?hr ?_; (case ho => rfl); (case hg => rfl); (case hn => rfl); (case hr => first | (go_simp; done) | (go_simp; rfl)); intro w6_ hw; clear qf0 qf1; obtain ⟨hbx, hkp, hbb⟩ := st2_ hw BK5 HB (by have := HS.out; omega); clear hw; replace HO4_0 := aRk HO4_0 hkp HS; replace HO4_1 := aRk HO4_1 hkp HS; replace BK1 := aBk BK1 hkp HS; replace BK2 := aBk BK2 hkp HS; replace BK3 := aBk BK3 hkp HS; replace BK5 := A_.mk hbx; replace HB := A_.mk hbb; replace HS := aHs HS hkp.1; clear hkp hbb hbx Q1 Q2 Q3 Q5; have Q1 := blk2_ BK1.out; have Q2 := blk8_ BK2.out; have Q3 := blk2_ BK3.out; have Q5 := blk2_ BK5.out))
  (with_reducible refine (spec_ClassOf.calls k a1_0 a1_1 a1_2 a1_3 a1_4 a1_5 a1_6 _ _ l1_7 t3 _ (Kd.C_below HR1_7.out HB.out) HC1_7.out A7.out).mono ?_)
  rintro e w7_ ⟨rfl, hb⟩
  replace HS := aHs HS hb.size
  replace HO4_0 := aRb HO4_0 hb
  replace HO4_1 := aRb HO4_1 hb
  replace BK1 := aBb BK1 hb
  replace BK2 := aBb BK2 hb
  replace BK3 := aBb BK3 hb
  replace BK5 := aBb BK5 hb
  replace HB := aHB HB hb
  clear hb  Q1 Q2 Q3 Q5
  have Q1 := blk2_ BK1.out
  have Q2 := blk8_ BK2.out
  have Q3 := blk2_ BK3.out
  have Q5 := blk2_ BK5.out
  go_wp2_with (fail)
  refine start_ (n := 26) (S := fun w' => (w'.cell? ⟨gb1_, 0, none⟩ = some (.slice (some ad10_) l0_0.length c0_0) ∧ w'.cell? ⟨gb1_, 1, none⟩ = some (.slice (some ad12_) l0_1.length c0_1)) ∧ (w'.cell? ⟨gb2_, 0, none⟩ = some (.int .i64 a1_0) ∧ w'.cell? ⟨gb2_, 1, none⟩ = some (.int .i64 a1_1) ∧ w'.cell? ⟨gb2_, 2, none⟩ = some (.int .i64 a1_2) ∧ w'.cell? ⟨gb2_, 3, none⟩ = some (.int .i64 a1_3) ∧ w'.cell? ⟨gb2_, 4, none⟩ = some (.int .i64 a1_4) ∧ w'.cell? ⟨gb2_, 5, none⟩ = some (.int .i64 a1_5) ∧ w'.cell? ⟨gb2_, 6, none⟩ = some (.int .i64 a1_6) ∧ w'.cell? ⟨gb2_, 7, none⟩ = some (.slice A1_7 l1_7.length c1_7)) ∧ (w'.cell? (ad10_.add (t3).toNat) = some (.int .i64 (rd l0_0 t3))) ∧ (w'.cell? (ad12_.add (t3).toNat) = some (.int .i64 (rd l0_1 t3)))) (ds := []) #[F, F, F, F, F, F, F, F, F, F, F, F, F, F, F, F, F, F, F, F, F, F, F, F, F, F] (by kernel_rfl) rfl rfl ⟨blk2_ BK1.out, blk8_ BK2.out, el1_ (below_drew HB.out) HX10.out, el1_ (below_drew HB.out) HX12.out⟩ (fun hHeld => ?_)
  clear Q1 Q2 Q3 Q5
  have hb := below_drew (Below.refl w7_.heap.size w7_)
  replace HS := aHs HS hb.size
  replace HO4_0 := aRb HO4_0 hb
  replace HO4_1 := aRb HO4_1 hb
  replace BK1 := aBb BK1 hb
  replace BK2 := aBb BK2 hb
  replace BK3 := aBb BK3 hb
  replace BK5 := aBb BK5 hb
  replace HB := aHB HB hb
  clear hb
  generalize w7_.drew = w25d_ at HO4_0 HO4_1 BK1 BK2 BK3 BK5 HB HS hHeld ⊢
  refine tl_ (i := 0) (N := some 12) #[T, F, F, F, F, F, F, F, F, F, F, F, F, F, F, F, F, F, F, F, F, F, F, F, F, F] rfl hHeld ?_
  refine on_ (i := 1) (N := some 13) #[T, T, F, F, F, F, F, F, F, F, F, F, F, F, F, F, F, F, F, F, F, F, F, F, F, F] rfl (fun K hK => ?_)
  refine gz_ Try.func33 #[.agg #[.slice (some ad10_) l0_0.length c0_0, .slice (some ad12_) l0_1.length c0_1]] ?_
  with_reducible refine (spec_CreditsOk.calls k _ _ l0_0 _ _ l0_1 true _ (Kd.C_below HR0_0.out HB.out) HC0_0.out (Kd.C_below HR0_1.out HB.out) HC0_1.out A8.out).mono ?_
  rintro e w8_ ⟨rfl, hb⟩
  refine ⟨_, rfl, ?_⟩
  replace HS := aHs HS hb.size
  replace HO4_0 := aRb HO4_0 hb
  replace HO4_1 := aRb HO4_1 hb
  replace BK1 := aBb BK1 hb
  replace BK2 := aBb BK2 hb
  replace BK3 := aBb BK3 hb
  replace BK5 := aBb BK5 hb
  replace HB := aHB HB hb
  clear hb 
  refine hK.out _ _ ⟨blk2_ BK1.out, blk8_ BK2.out, el1_ HB.out HX10.out, el1_ HB.out HX12.out⟩ (fun hHeld => ?_)
  clear hK K
  refine nm_ ?_
  refine pd_ (i := 2) (N := some 14) #[T, T, T, F, F, F, F, F, F, F, F, F, F, F, F, F, F, F, F, F, F, F, F, F, F, F] rfl ?_
  refine pd_ (i := 3) (N := some 15) #[T, T, T, T, F, F, F, F, F, F, F, F, F, F, F, F, F, F, F, F, F, F, F, F, F, F] rfl ?_
  refine pd_ (i := 4) (N := some 16) #[T, T, T, T, T, F, F, F, F, F, F, F, F, F, F, F, F, F, F, F, F, F, F, F, F, F] rfl ?_
  refine pd_ (i := 5) (N := some 17) #[T, T, T, T, T, T, F, F, F, F, F, F, F, F, F, F, F, F, F, F, F, F, F, F, F, F] rfl ?_
  refine pd_ (i := 6) (N := some 18) #[T, T, T, T, T, T, T, F, F, F, F, F, F, F, F, F, F, F, F, F, F, F, F, F, F, F] rfl ?_
  refine pd_ (i := 7) (N := some 19) #[T, T, T, T, T, T, T, T, F, F, F, F, F, F, F, F, F, F, F, F, F, F, F, F, F, F] rfl ?_
  refine pd_ (i := 8) (N := some 20) #[T, T, T, T, T, T, T, T, T, F, F, F, F, F, F, F, F, F, F, F, F, F, F, F, F, F] rfl ?_
  refine tl_ (i := 9) (N := some 21) #[T, T, T, T, T, T, T, T, T, T, F, F, F, F, F, F, F, F, F, F, F, F, F, F, F, F] rfl hHeld ?_
  refine pd_ (i := 10) (N := some 22) #[T, T, T, T, T, T, T, T, T, T, T, F, F, F, F, F, F, F, F, F, F, F, F, F, F, F] rfl ?_
  refine pd_ (i := 11) (N := some 23) #[T, T, T, T, T, T, T, T, T, T, T, T, F, F, F, F, F, F, F, F, F, F, F, F, F, F] rfl ?_
  refine tl_ (i := 12) (N := some 24) #[T, T, T, T, T, T, T, T, T, T, T, T, T, F, F, F, F, F, F, F, F, F, F, F, F, F] rfl hHeld ?_
  refine pd_ (i := 13) (N := some 25) #[T, T, T, T, T, T, T, T, T, T, T, T, T, T, F, F, F, F, F, F, F, F, F, F, F, F] rfl ?_
  refine pd_ (i := 14) (N := some 26) #[T, T, T, T, T, T, T, T, T, T, T, T, T, T, T, F, F, F, F, F, F, F, F, F, F, F] rfl ?_
  refine pd_ (i := 15) (N := some 27) #[T, T, T, T, T, T, T, T, T, T, T, T, T, T, T, T, F, F, F, F, F, F, F, F, F, F] rfl ?_
  refine pd_ (i := 16) (N := some 28) #[T, T, T, T, T, T, T, T, T, T, T, T, T, T, T, T, T, F, F, F, F, F, F, F, F, F] rfl ?_
  refine tl_ (i := 17) (N := some 29) #[T, T, T, T, T, T, T, T, T, T, T, T, T, T, T, T, T, T, F, F, F, F, F, F, F, F] rfl hHeld ?_
  refine pd_ (i := 18) (N := some 30) #[T, T, T, T, T, T, T, T, T, T, T, T, T, T, T, T, T, T, T, F, F, F, F, F, F, F] rfl ?_
  refine pd_ (i := 19) (N := some 31) #[T, T, T, T, T, T, T, T, T, T, T, T, T, T, T, T, T, T, T, T, F, F, F, F, F, F] rfl ?_
  refine tl_ (i := 20) (N := some 32) #[T, T, T, T, T, T, T, T, T, T, T, T, T, T, T, T, T, T, T, T, T, F, F, F, F, F] rfl hHeld ?_
  refine tl_ (i := 21) (N := some 33) #[T, T, T, T, T, T, T, T, T, T, T, T, T, T, T, T, T, T, T, T, T, T, F, F, F, F] rfl hHeld ?_
  refine on_ (i := 22) (N := some 34) #[T, T, T, T, T, T, T, T, T, T, T, T, T, T, T, T, T, T, T, T, T, T, T, F, F, F] rfl (fun K hK => ?_)
  refine gz_ Try.func36 #[.agg #[.int .i64 a1_0, .int .i64 a1_1, .int .i64 a1_2, .int .i64 a1_3, .int .i64 a1_4, .int .i64 a1_5, .int .i64 a1_6, .slice A1_7 l1_7.length c1_7]] ?_
  with_reducible refine (spec_PacketUnits.calls k a1_0 a1_1 a1_2 a1_3 a1_4 a1_5 a1_6 _ _ l1_7 t5 _ (Kd.C_below HR1_7.out HB.out) HC1_7.out A13.out).mono ?_
  rintro e w13_ ⟨rfl, hb⟩
  refine ⟨_, rfl, ?_⟩
  replace HS := aHs HS hb.size
  replace HO4_0 := aRb HO4_0 hb
  replace HO4_1 := aRb HO4_1 hb
  replace BK1 := aBb BK1 hb
  replace BK2 := aBb BK2 hb
  replace BK3 := aBb BK3 hb
  replace BK5 := aBb BK5 hb
  replace HB := aHB HB hb
  clear hb 
  refine hK.out _ _ ⟨blk2_ BK1.out, blk8_ BK2.out, el1_ HB.out HX10.out, el1_ HB.out HX12.out⟩ (fun hHeld => ?_)
  clear hK K
  refine nm_ ?_
  refine pd_ (i := 23) (N := some 35) #[T, T, T, T, T, T, T, T, T, T, T, T, T, T, T, T, T, T, T, T, T, T, T, T, F, F] rfl ?_
  refine pd_ (i := 24) (N := some 36) #[T, T, T, T, T, T, T, T, T, T, T, T, T, T, T, T, T, T, T, T, T, T, T, T, T, F] rfl ?_
  refine pd_ (i := 25) (N := some 37) #[T, T, T, T, T, T, T, T, T, T, T, T, T, T, T, T, T, T, T, T, T, T, T, T, T, T] rfl ?_
  refine done_ (by kernel_rfl) ?_
  have Q1 := blk2_ BK1.out
  have Q2 := blk8_ BK2.out
  have Q3 := blk2_ BK3.out
  have Q5 := blk2_ BK5.out
  go_wp2_with (first | ((with_reducible refine gs_ (t := 30) (p := 4) rfl ?_); have qf0 := bf_ BK3.out 0; have qf1 := bf_ BK3.out 1; refine se_ (t := 30) (p := 4) (v := ?vo_14) (w1 := (ch2_ w13_ gb3_ (.slice Ao4_0 t1.length co4_0) (.slice Ao4_1 t2.length co4_1))) ?hg ?ho ?hn ?hr ?_; (case ho => rfl); (case hg => rfl); (case hn => rfl); (case hr => first | (go_simp; done) | (go_simp; rfl)); intro w14_ hw; clear qf0 qf1; obtain ⟨hbx, hkp, hbb⟩ := st2_ hw BK3 HB (by have := HS.out; omega); clear hw; replace HO4_0 := aRk HO4_0 hkp HS; replace HO4_1 := aRk HO4_1 hkp HS; replace BK1 := aBk BK1 hkp HS; replace BK2 := aBk BK2 hkp HS; replace BK5 := aBk BK5 hkp HS; replace BK3 := A_.mk hbx; replace HB := A_.mk hbb; replace HS := aHs HS hkp.1; clear hkp hbb hbx Q1 Q2 Q3 Q5; have Q1 := blk2_ BK1.out; have Q2 := blk8_ BK2.out; have Q3 := blk2_ BK3.out; have Q5 := blk2_ BK5.out))
  refine bodyPost_ret (results_ct rfl _ _ gb3_ 30 #[.slice Ao4_0 t1.length co4_0, .slice Ao4_1 t2.length co4_1] (0, 0) _ rfl BK3.out Try.underlying30 rfl (by kernel_rfl)) rfl ?_
  obtain ⟨f_, hf_⟩ : ∃ f_ : Nat → Nat, ∀ k_, f_ k_ = (if ((w3_.heap.size ≤ k_ ∧ k_ < w4_.heap.size) ∧ f4_ k_ = 0) then 0 else (if ((w3_.heap.size ≤ k_ ∧ k_ < w4_.heap.size) ∧ f4_ k_ = 1) then 1 else 0)) := ⟨fun k_ => (if ((w3_.heap.size ≤ k_ ∧ k_ < w4_.heap.size) ∧ f4_ k_ = 0) then 0 else (if ((w3_.heap.size ≤ k_ ∧ k_ < w4_.heap.size) ∧ f4_ k_ = 1) then 1 else 0)), fun _ => rfl⟩
  have hcol0_ : ∀ k_, (((w3_.heap.size ≤ k_ ∧ k_ < w4_.heap.size) ∧ f4_ k_ = 0)) → f_ k_ = 0 := fun k_ hk_ => by rw [hf_]; have := HS.out; repeat' (first | omega | split)
  have hcol1_ : ∀ k_, (((w3_.heap.size ≤ k_ ∧ k_ < w4_.heap.size) ∧ f4_ k_ = 1)) → f_ k_ = 1 := fun k_ hk_ => by rw [hf_]; have := HS.out; repeat' (first | omega | split)
  exact ⟨f_, _, _, rfl, Kd.R_mono HO4_0.out hcol0_, Kd.R_mono HO4_1.out hcol1_, HB.out⟩
 rw [if_neg hc4_] at H
 have hc4_b0 : decide (30 < (wrap64 ((rd l0_1 t3) + t5))) = false := decide_eq_false hc4_
 by_cases hp15_ : 0 ≤ t3
 case neg => rw [if_neg hp15_] at H; cases H
 rw [if_pos hp15_] at H
 by_cases hq15_ : t3 < (t1.length : Int)
 case neg => rw [if_neg hq15_] at H; cases H
 rw [if_pos hq15_] at H
 have EB15 := A_.mk (And.intro hp15_ hq15_)
 replace hp15_ := eq_true hp15_
 replace hq15_ := eq_true hq15_
 obtain ⟨y6, Ny6⟩ : ∃ q_, q_ = (t1.set (t3).toNat (wrap64 ((rd t1 t3) + 1))) := ⟨_, rfl⟩
 rw [← Ny6] at H
 replace Ny6 := A_.mk Ny6
 by_cases hp17_ : 0 ≤ t3
 case neg => rw [if_neg hp17_] at H; cases H
 rw [if_pos hp17_] at H
 by_cases hq17_ : t3 < (t2.length : Int)
 case neg => rw [if_neg hq17_] at H; cases H
 rw [if_pos hq17_] at H
 have EB17 := A_.mk (And.intro hp17_ hq17_)
 replace hp17_ := eq_true hp17_
 replace hq17_ := eq_true hq17_
 replace H := oa_ H
 obtain ⟨t7, A18, H⟩ := H
 obtain ⟨y8, Ny8⟩ : ∃ q_, q_ = (t2.set (t3).toNat (wrap64 ((rd t2 t3) + t7))) := ⟨_, rfl⟩
 rw [← Ny8] at H
 replace Ny8 := A_.mk Ny8
 simp only [Option.some.injEq, Prod.mk.injEq] at H
 obtain ⟨rfl, rfl, rfl⟩ := H
 have hu30 := Try.underlying30
 have hu38 := Try.underlying38
 go_enter Try.func62, Try.ntmps62
 have HS := A_.mk (Nat.le_refl w.heap.size)
 go_wp2_with (first | ((with_reducible refine gd_ (N := 2) rfl ?_); refine by_ 2 (cs := #[.slice (some ad10_) l0_0.length c0_0, .slice (some ad12_) l0_1.length c0_1]) (t := 30) ?_; intro gb1_ hg w1_ hbox hb; replace HS := A_.mk (And.intro HS.out (show gb1_ = w.heap.size ∧ gb1_ < w1_.heap.size from ⟨hg, blk_lt hbox⟩)); replace HB := aHB HB hb; have BK1 := A_.mk hbox; clear hbox hb hg; have Q1 := blk2_ BK1.out) | ((with_reducible refine gd_ (N := 3) rfl ?_); refine by_ 3 (cs := #[.int .i64 a1_0, .int .i64 a1_1, .int .i64 a1_2, .int .i64 a1_3, .int .i64 a1_4, .int .i64 a1_5, .int .i64 a1_6, .slice A1_7 l1_7.length c1_7]) (t := 38) ?_; intro gb2_ hg w2_ hbox hb; replace HS := A_.mk (And.intro HS.out (show gb2_ = w1_.heap.size ∧ gb2_ < w2_.heap.size from ⟨hg, blk_lt hbox⟩)); replace BK1 := aBb BK1 hb; replace HB := aHB HB hb; have BK2 := A_.mk hbox; clear hbox hb hg Q1; have Q1 := blk2_ BK1.out; have Q2 := blk8_ BK2.out) | ((with_reducible refine gd_ (N := 4) rfl ?_); refine by_ 4 (cs := #[.slice none 0 0, .slice none 0 0]) (t := 30) ?_; intro gb3_ hg w3_ hbox hb; replace HS := A_.mk (And.intro HS.out (show gb3_ = w2_.heap.size ∧ gb3_ < w3_.heap.size from ⟨hg, blk_lt hbox⟩)); replace BK1 := aBb BK1 hb; replace BK2 := aBb BK2 hb; replace HB := aHB HB hb; have BK3 := A_.mk hbox; clear hbox hb hg Q1 Q2; have Q1 := blk2_ BK1.out; have Q2 := blk8_ BK2.out; have Q3 := blk2_ BK3.out) | ((with_reducible refine gc_ (f := 34) rfl ?_); refine gl_ (some 9) Try.func34 #[.agg #[.slice (some ad10_) l0_0.length c0_0, .slice (some ad12_) l0_1.length c0_1]] ?_; (with_reducible refine (spec_l14Copy.calls _ _ l0_0 _ _ l0_1 t1 t2 _ (Kd.C_below HR0_0.out HB.out) HC0_0.out (Kd.C_below HR0_1.out HB.out) HC0_1.out A4.out).mono ?_); rintro e w4_ ⟨v0_, v1_, rfl, ho0_, ho1_, hb⟩; refine ⟨_, rfl, ?_⟩; obtain ⟨f4_, hn0_, hn1_⟩ := two_col ho0_ ho1_; clear ho0_ ho1_; replace HS := aHs HS hb.size; obtain ⟨Ao4_0, co4_0, ev_⟩ := Kd.R_slice hn0_; subst ev_; have HO4_0 := aRn hn0_ HB.out.size; obtain ⟨Ao4_1, co4_1, ev_⟩ := Kd.R_slice hn1_; subst ev_; have HO4_1 := aRn hn1_ HB.out.size; replace BK1 := aBb BK1 hb; replace BK2 := aBb BK2 hb; replace BK3 := aBb BK3 hb; replace HB := aHB HB hb; clear hb hn0_ hn1_ Q1 Q2 Q3; have Q1 := blk2_ BK1.out; have Q2 := blk8_ BK2.out; have Q3 := blk2_ BK3.out) | ((with_reducible refine gd_ (N := 6) rfl ?_); refine by_ 6 (cs := #[.slice none 0 0, .slice none 0 0]) (t := 30) ?_; intro gb5_ hg w5_ hbox hb; replace HS := A_.mk (And.intro HS.out (show gb5_ = w4_.heap.size ∧ gb5_ < w5_.heap.size from ⟨hg, blk_lt hbox⟩)); replace HO4_0 := aRb HO4_0 hb; replace HO4_1 := aRb HO4_1 hb; replace BK1 := aBb BK1 hb; replace BK2 := aBb BK2 hb; replace BK3 := aBb BK3 hb; replace HB := aHB HB hb; have BK5 := A_.mk hbox; clear hbox hb hg Q1 Q2 Q3; have Q1 := blk2_ BK1.out; have Q2 := blk8_ BK2.out; have Q3 := blk2_ BK3.out; have Q5 := blk2_ BK5.out) | ((with_reducible refine gs_ (t := 30) (p := 6) rfl ?_); have qf0 := bf_ BK5.out 0; have qf1 := bf_ BK5.out 1; refine se_ (t := 30) (p := 6) (v := ?vo_6) (w1 := (ch2_ w5_ gb5_ (.slice Ao4_0 t1.length co4_0) (.slice Ao4_1 t2.length co4_1))) ?hg ?ho ?hn ?hr ?_; (case ho => rfl); (case hg => rfl); (case hn => rfl); (case hr => first | (go_simp; done) | (go_simp; rfl)); intro w6_ hw; clear qf0 qf1; obtain ⟨hbx, hkp, hbb⟩ := st2_ hw BK5 HB (by have := HS.out; omega); clear hw; replace HO4_0 := aRk HO4_0 hkp HS; replace HO4_1 := aRk HO4_1 hkp HS; replace BK1 := aBk BK1 hkp HS; replace BK2 := aBk BK2 hkp HS; replace BK3 := aBk BK3 hkp HS; replace BK5 := A_.mk hbx; replace HB := A_.mk hbb; replace HS := aHs HS hkp.1; clear hkp hbb hbx Q1 Q2 Q3 Q5; have Q1 := blk2_ BK1.out; have Q2 := blk8_ BK2.out; have Q3 := blk2_ BK3.out; have Q5 := blk2_ BK5.out))
 (with_reducible refine (spec_ClassOf.calls k a1_0 a1_1 a1_2 a1_3 a1_4 a1_5 a1_6 _ _ l1_7 t3 _ (Kd.C_below HR1_7.out HB.out) HC1_7.out A7.out).mono ?_)
 rintro e w7_ ⟨rfl, hb⟩
 replace HS := aHs HS hb.size
 replace HO4_0 := aRb HO4_0 hb
 replace HO4_1 := aRb HO4_1 hb
 replace BK1 := aBb BK1 hb
 replace BK2 := aBb BK2 hb
 replace BK3 := aBb BK3 hb
 replace BK5 := aBb BK5 hb
 replace HB := aHB HB hb
 clear hb  Q1 Q2 Q3 Q5
 have Q1 := blk2_ BK1.out
 have Q2 := blk8_ BK2.out
 have Q3 := blk2_ BK3.out
 have Q5 := blk2_ BK5.out
 go_wp2_with (fail)
 refine start_ (n := 26) (S := fun w' => (w'.cell? ⟨gb1_, 0, none⟩ = some (.slice (some ad10_) l0_0.length c0_0) ∧ w'.cell? ⟨gb1_, 1, none⟩ = some (.slice (some ad12_) l0_1.length c0_1)) ∧ (w'.cell? ⟨gb2_, 0, none⟩ = some (.int .i64 a1_0) ∧ w'.cell? ⟨gb2_, 1, none⟩ = some (.int .i64 a1_1) ∧ w'.cell? ⟨gb2_, 2, none⟩ = some (.int .i64 a1_2) ∧ w'.cell? ⟨gb2_, 3, none⟩ = some (.int .i64 a1_3) ∧ w'.cell? ⟨gb2_, 4, none⟩ = some (.int .i64 a1_4) ∧ w'.cell? ⟨gb2_, 5, none⟩ = some (.int .i64 a1_5) ∧ w'.cell? ⟨gb2_, 6, none⟩ = some (.int .i64 a1_6) ∧ w'.cell? ⟨gb2_, 7, none⟩ = some (.slice A1_7 l1_7.length c1_7)) ∧ (w'.cell? (ad10_.add (t3).toNat) = some (.int .i64 (rd l0_0 t3))) ∧ (w'.cell? (ad12_.add (t3).toNat) = some (.int .i64 (rd l0_1 t3)))) (ds := []) #[F, F, F, F, F, F, F, F, F, F, F, F, F, F, F, F, F, F, F, F, F, F, F, F, F, F] (by kernel_rfl) rfl rfl ⟨blk2_ BK1.out, blk8_ BK2.out, el1_ (below_drew HB.out) HX10.out, el1_ (below_drew HB.out) HX12.out⟩ (fun hHeld => ?_)
 clear Q1 Q2 Q3 Q5
 have hb := below_drew (Below.refl w7_.heap.size w7_)
 replace HS := aHs HS hb.size
 replace HO4_0 := aRb HO4_0 hb
 replace HO4_1 := aRb HO4_1 hb
 replace BK1 := aBb BK1 hb
 replace BK2 := aBb BK2 hb
 replace BK3 := aBb BK3 hb
 replace BK5 := aBb BK5 hb
 replace HB := aHB HB hb
 clear hb
 generalize w7_.drew = w26d_ at HO4_0 HO4_1 BK1 BK2 BK3 BK5 HB HS hHeld ⊢
 refine tl_ (i := 0) (N := some 12) #[T, F, F, F, F, F, F, F, F, F, F, F, F, F, F, F, F, F, F, F, F, F, F, F, F, F] rfl hHeld ?_
 refine on_ (i := 1) (N := some 13) #[T, T, F, F, F, F, F, F, F, F, F, F, F, F, F, F, F, F, F, F, F, F, F, F, F, F] rfl (fun K hK => ?_)
 refine gz_ Try.func33 #[.agg #[.slice (some ad10_) l0_0.length c0_0, .slice (some ad12_) l0_1.length c0_1]] ?_
 with_reducible refine (spec_CreditsOk.calls k _ _ l0_0 _ _ l0_1 true _ (Kd.C_below HR0_0.out HB.out) HC0_0.out (Kd.C_below HR0_1.out HB.out) HC0_1.out A8.out).mono ?_
 rintro e w8_ ⟨rfl, hb⟩
 refine ⟨_, rfl, ?_⟩
 replace HS := aHs HS hb.size
 replace HO4_0 := aRb HO4_0 hb
 replace HO4_1 := aRb HO4_1 hb
 replace BK1 := aBb BK1 hb
 replace BK2 := aBb BK2 hb
 replace BK3 := aBb BK3 hb
 replace BK5 := aBb BK5 hb
 replace HB := aHB HB hb
 clear hb 
 refine hK.out _ _ ⟨blk2_ BK1.out, blk8_ BK2.out, el1_ HB.out HX10.out, el1_ HB.out HX12.out⟩ (fun hHeld => ?_)
 clear hK K
 refine nm_ ?_
 refine pd_ (i := 2) (N := some 14) #[T, T, T, F, F, F, F, F, F, F, F, F, F, F, F, F, F, F, F, F, F, F, F, F, F, F] rfl ?_
 refine pd_ (i := 3) (N := some 15) #[T, T, T, T, F, F, F, F, F, F, F, F, F, F, F, F, F, F, F, F, F, F, F, F, F, F] rfl ?_
 refine pd_ (i := 4) (N := some 16) #[T, T, T, T, T, F, F, F, F, F, F, F, F, F, F, F, F, F, F, F, F, F, F, F, F, F] rfl ?_
 refine pd_ (i := 5) (N := some 17) #[T, T, T, T, T, T, F, F, F, F, F, F, F, F, F, F, F, F, F, F, F, F, F, F, F, F] rfl ?_
 refine pd_ (i := 6) (N := some 18) #[T, T, T, T, T, T, T, F, F, F, F, F, F, F, F, F, F, F, F, F, F, F, F, F, F, F] rfl ?_
 refine pd_ (i := 7) (N := some 19) #[T, T, T, T, T, T, T, T, F, F, F, F, F, F, F, F, F, F, F, F, F, F, F, F, F, F] rfl ?_
 refine pd_ (i := 8) (N := some 20) #[T, T, T, T, T, T, T, T, T, F, F, F, F, F, F, F, F, F, F, F, F, F, F, F, F, F] rfl ?_
 refine tl_ (i := 9) (N := some 21) #[T, T, T, T, T, T, T, T, T, T, F, F, F, F, F, F, F, F, F, F, F, F, F, F, F, F] rfl hHeld ?_
 refine pd_ (i := 10) (N := some 22) #[T, T, T, T, T, T, T, T, T, T, T, F, F, F, F, F, F, F, F, F, F, F, F, F, F, F] rfl ?_
 refine pd_ (i := 11) (N := some 23) #[T, T, T, T, T, T, T, T, T, T, T, T, F, F, F, F, F, F, F, F, F, F, F, F, F, F] rfl ?_
 refine tl_ (i := 12) (N := some 24) #[T, T, T, T, T, T, T, T, T, T, T, T, T, F, F, F, F, F, F, F, F, F, F, F, F, F] rfl hHeld ?_
 refine pd_ (i := 13) (N := some 25) #[T, T, T, T, T, T, T, T, T, T, T, T, T, T, F, F, F, F, F, F, F, F, F, F, F, F] rfl ?_
 refine pd_ (i := 14) (N := some 26) #[T, T, T, T, T, T, T, T, T, T, T, T, T, T, T, F, F, F, F, F, F, F, F, F, F, F] rfl ?_
 refine pd_ (i := 15) (N := some 27) #[T, T, T, T, T, T, T, T, T, T, T, T, T, T, T, T, F, F, F, F, F, F, F, F, F, F] rfl ?_
 refine pd_ (i := 16) (N := some 28) #[T, T, T, T, T, T, T, T, T, T, T, T, T, T, T, T, T, F, F, F, F, F, F, F, F, F] rfl ?_
 refine tl_ (i := 17) (N := some 29) #[T, T, T, T, T, T, T, T, T, T, T, T, T, T, T, T, T, T, F, F, F, F, F, F, F, F] rfl hHeld ?_
 refine pd_ (i := 18) (N := some 30) #[T, T, T, T, T, T, T, T, T, T, T, T, T, T, T, T, T, T, T, F, F, F, F, F, F, F] rfl ?_
 refine pd_ (i := 19) (N := some 31) #[T, T, T, T, T, T, T, T, T, T, T, T, T, T, T, T, T, T, T, T, F, F, F, F, F, F] rfl ?_
 refine tl_ (i := 20) (N := some 32) #[T, T, T, T, T, T, T, T, T, T, T, T, T, T, T, T, T, T, T, T, T, F, F, F, F, F] rfl hHeld ?_
 refine tl_ (i := 21) (N := some 33) #[T, T, T, T, T, T, T, T, T, T, T, T, T, T, T, T, T, T, T, T, T, T, F, F, F, F] rfl hHeld ?_
 refine on_ (i := 22) (N := some 34) #[T, T, T, T, T, T, T, T, T, T, T, T, T, T, T, T, T, T, T, T, T, T, T, F, F, F] rfl (fun K hK => ?_)
 refine gz_ Try.func36 #[.agg #[.int .i64 a1_0, .int .i64 a1_1, .int .i64 a1_2, .int .i64 a1_3, .int .i64 a1_4, .int .i64 a1_5, .int .i64 a1_6, .slice A1_7 l1_7.length c1_7]] ?_
 with_reducible refine (spec_PacketUnits.calls k a1_0 a1_1 a1_2 a1_3 a1_4 a1_5 a1_6 _ _ l1_7 t5 _ (Kd.C_below HR1_7.out HB.out) HC1_7.out A13.out).mono ?_
 rintro e w13_ ⟨rfl, hb⟩
 refine ⟨_, rfl, ?_⟩
 replace HS := aHs HS hb.size
 replace HO4_0 := aRb HO4_0 hb
 replace HO4_1 := aRb HO4_1 hb
 replace BK1 := aBb BK1 hb
 replace BK2 := aBb BK2 hb
 replace BK3 := aBb BK3 hb
 replace BK5 := aBb BK5 hb
 replace HB := aHB HB hb
 clear hb 
 refine hK.out _ _ ⟨blk2_ BK1.out, blk8_ BK2.out, el1_ HB.out HX10.out, el1_ HB.out HX12.out⟩ (fun hHeld => ?_)
 clear hK K
 refine nm_ ?_
 refine pd_ (i := 23) (N := some 35) #[T, T, T, T, T, T, T, T, T, T, T, T, T, T, T, T, T, T, T, T, T, T, T, T, F, F] rfl ?_
 refine pd_ (i := 24) (N := some 36) #[T, T, T, T, T, T, T, T, T, T, T, T, T, T, T, T, T, T, T, T, T, T, T, T, T, F] rfl ?_
 refine pd_ (i := 25) (N := some 37) #[T, T, T, T, T, T, T, T, T, T, T, T, T, T, T, T, T, T, T, T, T, T, T, T, T, T] rfl ?_
 refine done_ (by kernel_rfl) ?_
 have Q1 := blk2_ BK1.out
 have Q2 := blk8_ BK2.out
 have Q3 := blk2_ BK3.out
 have Q5 := blk2_ BK5.out
 go_wp2_with (fail)
 obtain ⟨gHO4_0_, ed_⟩ := R_at0 HO4_0.out (by have := EB15.out; omega)
 subst ed_
 refine start_ (n := 11) (S := fun w' => (w'.cell? ⟨gb5_, 0, none⟩ = some (.slice (some ⟨gHO4_0_, 0, none⟩) t1.length co4_0) ∧ w'.cell? ⟨gb5_, 1, none⟩ = some (.slice Ao4_1 t2.length co4_1)) ∧ (w'.cell? ⟨gHO4_0_, (t3).toNat, none⟩ = some (.int .i64 (rd t1 t3)))) (ds := [10]) #[F, F, F, F, F, F, F, F, F, F, F] (by kernel_rfl) rfl rfl ⟨blk2_ BK5.out, rcl_ HO4_0.out EB15.out⟩ (fun hHeld => ?_)
 clear Q1 Q2 Q3 Q5
 have hb := below_drew (Below.refl w13_.heap.size w13_)
 replace HS := aHs HS hb.size
 replace HO4_0 := aRb HO4_0 hb
 replace HO4_1 := aRb HO4_1 hb
 replace BK1 := aBb BK1 hb
 replace BK2 := aBb BK2 hb
 replace BK3 := aBb BK3 hb
 replace BK5 := aBb BK5 hb
 replace HB := aHB HB hb
 clear hb
 generalize w13_.drew = w27d_ at HO4_0 HO4_1 BK1 BK2 BK3 BK5 HB HS hHeld ⊢
 refine pd_ (i := 0) (N := some 39) #[T, F, F, F, F, F, F, F, F, F, F] rfl ?_
 refine tl_ (i := 1) (N := some 40) #[T, T, F, F, F, F, F, F, F, F, F] rfl hHeld ?_
 refine pd_ (i := 2) (N := some 41) #[T, T, T, F, F, F, F, F, F, F, F] rfl ?_
 refine pd_ (i := 3) (N := some 42) #[T, T, T, T, F, F, F, F, F, F, F] rfl ?_
 refine tl_ (i := 4) (N := some 43) #[T, T, T, T, T, F, F, F, F, F, F] rfl hHeld ?_
 refine pd_ (i := 5) (N := some 44) #[T, T, T, T, T, T, F, F, F, F, F] rfl ?_
 refine pd_ (i := 6) (N := some 45) #[T, T, T, T, T, T, T, F, F, F, F] rfl ?_
 refine tl_ (i := 7) (N := some 46) #[T, T, T, T, T, T, T, T, F, F, F] rfl hHeld ?_
 refine pd_ (i := 8) (N := some 47) #[T, T, T, T, T, T, T, T, T, F, F] rfl ?_
 refine pd_ (i := 9) (N := some 48) #[T, T, T, T, T, T, T, T, T, T, F] rfl ?_
 refine last_ (i := 10) (N := none) #[T, T, T, T, T, T, T, T, T, T, T] rfl rfl (by kernel_rfl) (by decide) (fun K hK => ?_)
 have Q1 := blk2_ BK1.out
 have Q2 := blk8_ BK2.out
 have Q3 := blk2_ BK3.out
 have Q5 := blk2_ BK5.out
 have QE15 := rcl_ HO4_0.out EB15.out
 have QF15 := rcf_ HO4_0.out EB15.out
 obtain ⟨w16_, hw⟩ : ∃ q_ : World, q_ = w27d_.setCell ⟨gHO4_0_, (t3).toNat, none⟩ (.int .i64 (wrap64 ((rd t1 t3) + 1))) := ⟨_, rfl⟩
 refine skip_ (w1 := w16_) (by rfl) rfl ?_ ?_
 ·rw [hw]; go_simp; try rfl
 refine hK.out _ _ ?_
 clear hK K Q1 Q2 Q3 Q5 QE15 QF15
 obtain ⟨ho, hkp, hbb⟩ := ost_ hw HO4_0 HB
 clear hw
 rw [← Ny6.out] at ho
 replace HO4_1 := aRk HO4_1 hkp HS
 replace BK1 := aBk BK1 hkp HS
 replace BK2 := aBk BK2 hkp HS
 replace BK3 := aBk BK3 hkp HS
 replace BK5 := aBk BK5 hkp HS
 replace HS := aHs HS hkp.1
 have HO16 := A_.mk ho
 have LQHO16 := A_.mk (Kd.R_reads' ho).1.symm
 replace HB := A_.mk hbb
 clear hkp hbb ho HO4_0
 refine done_ (by kernel_rfl) ?_
 have Q1 := blk2_ BK1.out
 have Q2 := blk8_ BK2.out
 have Q3 := blk2_ BK3.out
 have Q5 := blk2_ BK5.out
 go_wp2_with (fail)
 obtain ⟨gHO4_1_, ed_⟩ := R_at0 HO4_1.out (by have := EB17.out; omega)
 subst ed_
 refine start_ (n := 13) (S := fun w' => (w'.cell? ⟨gb2_, 0, none⟩ = some (.int .i64 a1_0) ∧ w'.cell? ⟨gb2_, 1, none⟩ = some (.int .i64 a1_1) ∧ w'.cell? ⟨gb2_, 2, none⟩ = some (.int .i64 a1_2) ∧ w'.cell? ⟨gb2_, 3, none⟩ = some (.int .i64 a1_3) ∧ w'.cell? ⟨gb2_, 4, none⟩ = some (.int .i64 a1_4) ∧ w'.cell? ⟨gb2_, 5, none⟩ = some (.int .i64 a1_5) ∧ w'.cell? ⟨gb2_, 6, none⟩ = some (.int .i64 a1_6) ∧ w'.cell? ⟨gb2_, 7, none⟩ = some (.slice A1_7 l1_7.length c1_7)) ∧ (w'.cell? ⟨gb5_, 0, none⟩ = some (.slice (some ⟨gHO4_0_, 0, none⟩) t1.length co4_0) ∧ w'.cell? ⟨gb5_, 1, none⟩ = some (.slice (some ⟨gHO4_1_, 0, none⟩) t2.length co4_1)) ∧ (w'.cell? ⟨gHO4_1_, (t3).toNat, none⟩ = some (.int .i64 (rd t2 t3)))) (ds := [12]) #[F, F, F, F, F, F, F, F, F, F, F, F, F] (by kernel_rfl) rfl rfl ⟨blk8_ BK2.out, blk2_ BK5.out, rcl_ HO4_1.out EB17.out⟩ (fun hHeld => ?_)
 clear Q1 Q2 Q3 Q5
 have hb := below_drew (Below.refl w16_.heap.size w16_)
 replace HS := aHs HS hb.size
 replace HO4_1 := aRb HO4_1 hb
 replace HO16 := aRb HO16 hb
 replace BK1 := aBb BK1 hb
 replace BK2 := aBb BK2 hb
 replace BK3 := aBb BK3 hb
 replace BK5 := aBb BK5 hb
 replace HB := aHB HB hb
 clear hb
 generalize w16_.drew = w28d_ at HO4_1 HO16 BK1 BK2 BK3 BK5 HB HS hHeld ⊢
 refine pd_ (i := 0) (N := some 49) #[T, F, F, F, F, F, F, F, F, F, F, F, F] rfl ?_
 refine tl_ (i := 1) (N := some 50) #[T, T, F, F, F, F, F, F, F, F, F, F, F] rfl hHeld ?_
 refine pd_ (i := 2) (N := some 51) #[T, T, T, F, F, F, F, F, F, F, F, F, F] rfl ?_
 refine pd_ (i := 3) (N := some 52) #[T, T, T, T, F, F, F, F, F, F, F, F, F] rfl ?_
 refine tl_ (i := 4) (N := some 53) #[T, T, T, T, T, F, F, F, F, F, F, F, F] rfl hHeld ?_
 refine pd_ (i := 5) (N := some 54) #[T, T, T, T, T, T, F, F, F, F, F, F, F] rfl ?_
 refine pd_ (i := 6) (N := some 55) #[T, T, T, T, T, T, T, F, F, F, F, F, F] rfl ?_
 refine tl_ (i := 7) (N := some 56) #[T, T, T, T, T, T, T, T, F, F, F, F, F] rfl hHeld ?_
 refine tl_ (i := 8) (N := some 57) #[T, T, T, T, T, T, T, T, T, F, F, F, F] rfl hHeld ?_
 refine on_ (i := 9) (N := some 58) #[T, T, T, T, T, T, T, T, T, T, F, F, F] rfl (fun K hK => ?_)
 refine gz_ Try.func36 #[.agg #[.int .i64 a1_0, .int .i64 a1_1, .int .i64 a1_2, .int .i64 a1_3, .int .i64 a1_4, .int .i64 a1_5, .int .i64 a1_6, .slice A1_7 l1_7.length c1_7]] ?_
 with_reducible refine (spec_PacketUnits.calls k a1_0 a1_1 a1_2 a1_3 a1_4 a1_5 a1_6 _ _ l1_7 t7 _ (Kd.C_below HR1_7.out HB.out) HC1_7.out A18.out).mono ?_
 rintro e w18_ ⟨rfl, hb⟩
 refine ⟨_, rfl, ?_⟩
 replace HS := aHs HS hb.size
 replace HO4_1 := aRb HO4_1 hb
 replace HO16 := aRb HO16 hb
 replace BK1 := aBb BK1 hb
 replace BK2 := aBb BK2 hb
 replace BK3 := aBb BK3 hb
 replace BK5 := aBb BK5 hb
 replace HB := aHB HB hb
 clear hb 
 refine hK.out _ _ ⟨blk8_ BK2.out, blk2_ BK5.out, rcl_ HO4_1.out EB17.out⟩ (fun hHeld => ?_)
 clear hK K
 refine nm_ ?_
 refine pd_ (i := 10) (N := some 59) #[T, T, T, T, T, T, T, T, T, T, T, F, F] rfl ?_
 refine pd_ (i := 11) (N := some 60) #[T, T, T, T, T, T, T, T, T, T, T, T, F] rfl ?_
 refine last_ (i := 12) (N := none) #[T, T, T, T, T, T, T, T, T, T, T, T, T] rfl rfl (by kernel_rfl) (by decide) (fun K hK => ?_)
 have Q1 := blk2_ BK1.out
 have Q2 := blk8_ BK2.out
 have Q3 := blk2_ BK3.out
 have Q5 := blk2_ BK5.out
 have QE17 := rcl_ HO4_1.out EB17.out
 have QF17 := rcf_ HO4_1.out EB17.out
 obtain ⟨w19_, hw⟩ : ∃ q_ : World, q_ = w18_.setCell ⟨gHO4_1_, (t3).toNat, none⟩ (.int .i64 (wrap64 ((rd t2 t3) + t7))) := ⟨_, rfl⟩
 refine skip_ (w1 := w19_) (by rfl) rfl ?_ ?_
 ·rw [hw]; go_simp; try rfl
 refine hK.out _ _ ?_
 clear hK K Q1 Q2 Q3 Q5 QE17 QF17
 obtain ⟨ho, hkp, hbb⟩ := ost_ hw HO4_1 HB
 clear hw
 rw [← Ny8.out] at ho
 replace HO16 := aRk HO16 hkp HS
 replace BK1 := aBk BK1 hkp HS
 replace BK2 := aBk BK2 hkp HS
 replace BK3 := aBk BK3 hkp HS
 replace BK5 := aBk BK5 hkp HS
 replace HS := aHs HS hkp.1
 have HO19 := A_.mk ho
 have LQHO19 := A_.mk (Kd.R_reads' ho).1.symm
 replace HB := A_.mk hbb
 clear hkp hbb ho HO4_1
 refine done_ (by kernel_rfl) ?_
 have Q1 := blk2_ BK1.out
 have Q2 := blk8_ BK2.out
 have Q3 := blk2_ BK3.out
 have Q5 := blk2_ BK5.out
 go_wp2_with (first | ((with_reducible refine gs_ (t := 30) (p := 4) rfl ?_); have qf0 := bf_ BK3.out 0; have qf1 := bf_ BK3.out 1; refine se_ (t := 30) (p := 4) (v := ?vo_20) (w1 := (ch2_ w19_ gb3_ (.slice (some ⟨gHO4_0_, 0, none⟩) t1.length co4_0) (.slice (some ⟨gHO4_1_, 0, none⟩) t2.length co4_1))) ?hg ?ho ?hn ?hr ?_; (case ho => rfl); (case hg => rfl); (case hn => rfl); (case hr => first | (go_simp; done) | (go_simp; rfl)); intro w20_ hw; clear qf0 qf1; obtain ⟨hbx, hkp, hbb⟩ := st2_ hw BK3 HB (by have := HS.out; omega); clear hw; replace HO16 := aRk HO16 hkp HS; replace HO19 := aRk HO19 hkp HS; replace BK1 := aBk BK1 hkp HS; replace BK2 := aBk BK2 hkp HS; replace BK5 := aBk BK5 hkp HS; replace BK3 := A_.mk hbx; replace HB := A_.mk hbb; replace HS := aHs HS hkp.1; clear hkp hbb hbx Q1 Q2 Q3 Q5; have Q1 := blk2_ BK1.out; have Q2 := blk8_ BK2.out; have Q3 := blk2_ BK3.out; have Q5 := blk2_ BK5.out))
 refine bodyPost_ret (results_ct rfl _ _ gb3_ 30 #[.slice (some ⟨gHO4_0_, 0, none⟩) t1.length co4_0, .slice (some ⟨gHO4_1_, 0, none⟩) t2.length co4_1] (0, 0) _ rfl BK3.out Try.underlying30 rfl (by kernel_rfl)) rfl ?_
 obtain ⟨f_, hf_⟩ : ∃ f_ : Nat → Nat, ∀ k_, f_ k_ = (if ((w3_.heap.size ≤ k_ ∧ k_ < w4_.heap.size) ∧ f4_ k_ = 0) then 0 else (if ((w3_.heap.size ≤ k_ ∧ k_ < w4_.heap.size) ∧ f4_ k_ = 1) then 1 else 0)) := ⟨fun k_ => (if ((w3_.heap.size ≤ k_ ∧ k_ < w4_.heap.size) ∧ f4_ k_ = 0) then 0 else (if ((w3_.heap.size ≤ k_ ∧ k_ < w4_.heap.size) ∧ f4_ k_ = 1) then 1 else 0)), fun _ => rfl⟩
 have hcol0_ : ∀ k_, (((w3_.heap.size ≤ k_ ∧ k_ < w4_.heap.size) ∧ f4_ k_ = 0)) → f_ k_ = 0 := fun k_ hk_ => by rw [hf_]; have := HS.out; repeat' (first | omega | split)
 have hcol1_ : ∀ k_, (((w3_.heap.size ≤ k_ ∧ k_ < w4_.heap.size) ∧ f4_ k_ = 1)) → f_ k_ = 1 := fun k_ hk_ => by rw [hf_]; have := HS.out; repeat' (first | omega | split)
 exact ⟨f_, _, _, rfl, Kd.R_mono HO16.out hcol0_, Kd.R_mono HO19.out hcol1_, HB.out⟩
end Go.Proofs.Ytlombfmebinjbaa.PFnExactTellCredits
