-- Written by a program of this session (wip/xp): not trusted, Lean checks it.
import Derived.Test.YtlombfmebinjbaaPFnExactTellCreditsx0
namespace Go.Proofs.Ytlombfmebinjbaa.PFnExactTellCredits
open Go.RowKit Go.Proofs.YtlombfmebinjbaaW.PrintWords Go.Proofs.YtlombfmebinjbaaW.PrintLast Go.Proofs.YtlombfmebinjbaaW.PrintMore
attribute [local go_sem] max2_int min2_int max_two min_two max_three min_three max_four min_four   -- for this text's walks alone
set_option linter.unusedVariables false
set_option linter.unusedSimpArgs false

/-! ### laws_szIntS: function 64 -/
def laws_szIntS.f (l0 : List Int) (a1 : Int) : Option (Int) := if (wrap64 (a1 - (l0.length : Int))) < 0 then (some (-1)) else (some (wrap64 (a1 - (l0.length : Int))))
set_option maxHeartbeats 8000000 in
set_option maxRecDepth 100000 in
theorem laws_szIntS.calls (A0 : Option Addr) (c0 : Nat) (l0 : List Int) (a1 : Int) (r : Int) (w : World) (hr0 : Kd.C (Kd.int .i64) w A0 l0.length l0) (hc0 : l0.length ≤ c0) (h : laws_szIntS.f l0 a1 = some r) :
  Calls Try.prog 64 #[.slice A0 l0.length c0, .int .i64 a1] w fun e w' => e = .returned (.int .i64 r) ∧ Drawn0 w w' := by
 have HR0 := A_.mk hr0
 have HC0 := A_.mk hc0
 clear hr0 hc0
 have H : (if (wrap64 (a1 - (l0.length : Int))) < 0 then (some (-1)) else (some (wrap64 (a1 - (l0.length : Int))))) = some r := h
 clear h
 by_cases c3 : (wrap64 (a1 - (l0.length : Int))) < 0
 ·rw [if_pos c3] at H
  have c3b0 : decide ((wrap64 (a1 - (l0.length : Int))) < 0) = true := decide_eq_true c3
  clear c3
  obtain rfl := Option.some.inj H
  go_enter Try.func64, Try.ntmps64
  go_wp2
  go_ret
  exact ⟨by first | rfl | (simp; done) | (simp [*]; done), by repeat (first | exact Drawn0.refl _ | apply Drawn0.step)⟩
 ·rw [if_neg c3] at H
  have c3b0 : decide ((wrap64 (a1 - (l0.length : Int))) < 0) = false := decide_eq_false c3
  clear c3
  obtain rfl := Option.some.inj H
  go_enter Try.func64, Try.ntmps64
  go_wp2
  go_ret
  exact ⟨by first | rfl | (simp; done) | (simp [*]; done), by repeat (first | exact Drawn0.refl _ | apply Drawn0.step)⟩

theorem calls_cast {P : Program} {n : Nat} {a b : Array Value} {w : World} {Q : Ending → World → Prop} (h : a = b) (hc : Calls P n a w Q) : Calls P n b w Q := h ▸ hc
theorem V_any {α : Type} {d : Kd α} {e base base' : Nat} {W : World} {ok : Nat → Prop} {v : Value} {xs : List α} (h : Kd.V d e W base ok v xs) : Kd.V d e W base' ok v xs := h
open Classical in
theorem two_col {w : World} {base : Nat} {v0 v1 : Value} {r0 r1 : List Int} (h0 : Kd.R (Kd.int .i64) 3 w base (fun k_ => some k_ ≠ v1.ownBlock) v0 r0) (h1 : Kd.R (Kd.int .i64) 3 w base (fun k_ => some k_ ≠ v0.ownBlock) v1 r1) :
  ∃ f : Nat → Nat, Kd.R (Kd.int .i64) 3 w base (fun k_ => f k_ = 0) v0 r0 ∧ Kd.R (Kd.int .i64) 3 w base (fun k_ => f k_ = 1) v1 r1 :=
 ⟨fun k => if some k = v1.ownBlock then 1 else 0, Kd.R_mono h0 (fun _ hk => if_neg hk), Kd.R_mono (Kd.R_tight rfl h1) (fun _ hk => if_pos hk)⟩
theorem Kept.of_set {W W' : World} {g : Nat} (h : Kept W W' (fun k_ => k_ = g)) (j : Nat) (u : Value) : Kept W (W'.setCell ⟨g, j, none⟩ u) (fun k_ => k_ = g) := h.setCell (.inl rfl) u
theorem blk2_ {W : World} {g t : Nat} {a0 a1 : Value} (h : W.heap[g]? = some (.cells #[a0, a1] t (0, 0))) : W.cell? ⟨g, 0, none⟩ = some a0 ∧ W.cell? ⟨g, 1, none⟩ = some a1 :=
 ⟨(bc_ h 0).trans rfl, (bc_ h 1).trans rfl⟩
theorem blk6_ {W : World} {g t : Nat} {a0 a1 a2 a3 a4 a5 : Value} (h : W.heap[g]? = some (.cells #[a0, a1, a2, a3, a4, a5] t (0, 0))) : W.cell? ⟨g, 0, none⟩ = some a0 ∧ W.cell? ⟨g, 1, none⟩ = some a1 ∧ W.cell? ⟨g, 2, none⟩ = some a2 ∧ W.cell? ⟨g, 3, none⟩ = some a3 ∧ W.cell? ⟨g, 4, none⟩ = some a4 ∧ W.cell? ⟨g, 5, none⟩ = some a5 :=
 ⟨(bc_ h 0).trans rfl, (bc_ h 1).trans rfl, (bc_ h 2).trans rfl, (bc_ h 3).trans rfl, (bc_ h 4).trans rfl, (bc_ h 5).trans rfl⟩
theorem blk8_ {W : World} {g t : Nat} {a0 a1 a2 a3 a4 a5 a6 a7 : Value} (h : W.heap[g]? = some (.cells #[a0, a1, a2, a3, a4, a5, a6, a7] t (0, 0))) : W.cell? ⟨g, 0, none⟩ = some a0 ∧ W.cell? ⟨g, 1, none⟩ = some a1 ∧ W.cell? ⟨g, 2, none⟩ = some a2 ∧ W.cell? ⟨g, 3, none⟩ = some a3 ∧ W.cell? ⟨g, 4, none⟩ = some a4 ∧ W.cell? ⟨g, 5, none⟩ = some a5 ∧ W.cell? ⟨g, 6, none⟩ = some a6 ∧ W.cell? ⟨g, 7, none⟩ = some a7 :=
 ⟨(bc_ h 0).trans rfl, (bc_ h 1).trans rfl, (bc_ h 2).trans rfl, (bc_ h 3).trans rfl, (bc_ h 4).trans rfl, (bc_ h 5).trans rfl, (bc_ h 6).trans rfl, (bc_ h 7).trans rfl⟩
abbrev ch2_ (W : World) (g : Nat) (v0 v1 : Value) : World := ((W.setCell ⟨g, 0, none⟩ v0).setCell ⟨g, 1, none⟩ v1)
theorem st2_ {w W W' : World} {g : Nat} {t : TypeId} {a0 a1 v0 v1 : Value} (hw : W' = ch2_ W g v0 v1) (h : A_ (W.heap[g]? = some (.cells #[a0, a1] t (0, 0)))) (hb : A_ (Below w.heap.size w W)) (hge : w.heap.size ≤ g) :
  W'.heap[g]? = some (.cells #[v0, v1] t (0, 0)) ∧ Kept W W' (fun k_ => k_ = g) ∧ Below w.heap.size w W' := by
 subst hw
 exact ⟨(bp_ (cs := #[v0, a1]) (bp_ (cs := #[a0, a1]) h.out 0 _ rfl) 1 _ rfl), (Kept.of_set (Kept.of_set (Kept.refl _ _) 0 _) 1 _), (bs_ (bs_ hb.out hge) hge)⟩
abbrev ch6_ (W : World) (g : Nat) (v0 v1 v2 v3 v4 v5 : Value) : World := ((((((W.setCell ⟨g, 0, none⟩ v0).setCell ⟨g, 1, none⟩ v1).setCell ⟨g, 2, none⟩ v2).setCell ⟨g, 3, none⟩ v3).setCell ⟨g, 4, none⟩ v4).setCell ⟨g, 5, none⟩ v5)
theorem st6_ {w W W' : World} {g : Nat} {t : TypeId} {a0 a1 a2 a3 a4 a5 v0 v1 v2 v3 v4 v5 : Value} (hw : W' = ch6_ W g v0 v1 v2 v3 v4 v5) (h : A_ (W.heap[g]? = some (.cells #[a0, a1, a2, a3, a4, a5] t (0, 0)))) (hb : A_ (Below w.heap.size w W)) (hge : w.heap.size ≤ g) :
  W'.heap[g]? = some (.cells #[v0, v1, v2, v3, v4, v5] t (0, 0)) ∧ Kept W W' (fun k_ => k_ = g) ∧ Below w.heap.size w W' := by
 subst hw
 exact ⟨(bp_ (cs := #[v0, v1, v2, v3, v4, a5]) (bp_ (cs := #[v0, v1, v2, v3, a4, a5]) (bp_ (cs := #[v0, v1, v2, a3, a4, a5]) (bp_ (cs := #[v0, v1, a2, a3, a4, a5]) (bp_ (cs := #[v0, a1, a2, a3, a4, a5]) (bp_ (cs := #[a0, a1, a2, a3, a4, a5]) h.out 0 _ rfl) 1 _ rfl) 2 _ rfl) 3 _ rfl) 4 _ rfl) 5 _ rfl), (Kept.of_set (Kept.of_set (Kept.of_set (Kept.of_set (Kept.of_set (Kept.of_set (Kept.refl _ _) 0 _) 1 _) 2 _) 3 _) 4 _) 5 _), (bs_ (bs_ (bs_ (bs_ (bs_ (bs_ hb.out hge) hge) hge) hge) hge) hge)⟩
section
variable {α : Type} {d : Kd α} {e base j : Nat} {ok S : Nat → Prop} {W W2 w : World} {v : Value} {xs : List α} {p : Prop} {f : Nat → Nat}
theorem aRk (h : A_ (Kd.R d e W base ok v xs)) (hk : Kept W W2 S) (hs : A_ p) (hn : p → ∀ k, ok k → ¬ S k := by intro h1_ k_ h2_ h3_; omega) : A_ (Kd.R d e W2 base ok v xs) := ⟨Kd.R_kept h.out hk (hn hs.out)⟩
theorem aRb (h : A_ (Kd.R d e W base ok v xs)) (hb : Below W.heap.size W W2) : A_ (Kd.R d e W2 base ok v xs) := ⟨Kd.R_below h.out hb⟩
theorem aSk (h : A_ (Kd.S d e W base ok v xs)) (hk : Kept W W2 S) (hs : A_ p) (hn : p → ∀ k, ok k → ¬ S k := by intro h1_ k_ h2_ h3_; omega) : A_ (Kd.S d e W2 base ok v xs) := ⟨Kd.S_kept h.out hk (hn hs.out)⟩
theorem aSb (h : A_ (Kd.S d e W base ok v xs)) (hb : Below W.heap.size W W2) : A_ (Kd.S d e W2 base ok v xs) := ⟨Kd.S_below h.out hb⟩
theorem aVk (h : A_ (Kd.V d e W base ok v xs)) (hk : Kept W W2 S) (hs : A_ p) (hn : p → ∀ k, ok k → ¬ S k := by intro h1_ k_ h2_ h3_; omega) : A_ (Kd.V d e W2 base ok v xs) := ⟨Kd.V_kept h.out hk (hn hs.out)⟩
theorem aVb (h : A_ (Kd.V d e W base ok v xs)) (hb : Below W.heap.size W W2) : A_ (Kd.V d e W2 base ok v xs) := ⟨Kd.V_below h.out hb⟩
theorem aRn (h : Kd.R d e W2 W.heap.size (fun k => f k = j) v xs) (hB : base ≤ W.heap.size) : A_ (Kd.R d e W2 base (fun k_ => (W.heap.size ≤ k_ ∧ k_ < W2.heap.size) ∧ f k_ = j) v xs) := ⟨Kd.R_lower (Kd.R_mono (Kd.R_bound h) (fun k_ hk_ => ⟨⟨hk_.2.1, hk_.2.2.1⟩, hk_.1⟩)) hB⟩
theorem aSn (h : Kd.S d e W2 W.heap.size (fun k => f k = j) v xs) (hB : base ≤ W.heap.size) : A_ (Kd.S d e W2 base (fun k_ => (W.heap.size ≤ k_ ∧ k_ < W2.heap.size) ∧ f k_ = j) v xs) := ⟨Kd.S_lower (Kd.S_mono (Kd.S_bound h) (fun k_ hk_ => ⟨⟨hk_.2.1, hk_.2.2.1⟩, hk_.1⟩)) hB⟩
theorem aSm (h : Kd.S d e W2 W.heap.size ok v xs) (hB : base ≤ W.heap.size) : A_ (Kd.S d e W2 base (fun k_ => (W.heap.size ≤ k_ ∧ k_ < W2.heap.size)) v xs) := ⟨Kd.S_lower (Kd.S_mono (Kd.S_bound h) (fun k_ hk_ => ⟨hk_.2.1, hk_.2.2.1⟩)) hB⟩
theorem aVm (h : Kd.V d e W2 W.heap.size (fun k => W.heap.size ≤ k) v xs) (hB : base ≤ W.heap.size) : A_ (Kd.V d e W2 base (fun k_ => (W.heap.size ≤ k_ ∧ k_ < W2.heap.size)) v xs) := ⟨Kd.V_lower (Kd.V_mono (Kd.V_bound h) (fun k_ hk_ => ⟨hk_.1, hk_.2⟩)) hB⟩
theorem aBk {g : Nat} {o : Obj} (h : A_ (W.heap[g]? = some o)) (hk : Kept W W2 S) (hs : A_ p) (hn : p → ¬ S g := by intro h1_ h2_; omega) : A_ (W2.heap[g]? = some o) := ⟨(hk.2 _ (blk_lt h.out) (hn hs.out)).trans h.out⟩
theorem aBb {g : Nat} {o : Obj} (h : A_ (W.heap[g]? = some o)) (hb : Below W.heap.size W W2) : A_ (W2.heap[g]? = some o) := ⟨bb_ h.out hb⟩
theorem aHs {q : Prop} (h : A_ p) (hq : q) : A_ (p ∧ q) := ⟨⟨h.out, hq⟩⟩
theorem aHB (h : A_ (Below w.heap.size w W)) (hb : Below W.heap.size W W2) : A_ (Below w.heap.size w W2) := ⟨below_then h.out h.out.size hb⟩
end
/-! ### laws_szCredits: function 31, its calls in a row -/
def laws_szCredits.f (k : Nat) (l0_0 : List Int) (l0_1 : List Int) (a1 : Int) : Option ((Int)) := ((laws_szIntS.f l0_0 a1).bind fun t1 => (if t1 < 0 then (some (-1)) else ((laws_szIntS.f l0_1 t1).bind fun t2 => (if t2 < 0 then (some (-1)) else (some (t2))))))
set_option maxHeartbeats 8000000 in
set_option maxRecDepth 100000 in
theorem laws_szCredits.calls (k : Nat) (A0_0 : Option Addr) (c0_0 : Nat) (l0_0 : List Int) (A0_1 : Option Addr) (c0_1 : Nat) (l0_1 : List Int) (a1 : Int) (r : Int) (w : World) (hr0_0 : Kd.C (Kd.int .i64) w A0_0 l0_0.length l0_0) (hc0_0 : l0_0.length ≤ c0_0) (hr0_1 : Kd.C (Kd.int .i64) w A0_1 l0_1.length l0_1) (hc0_1 : l0_1.length ≤ c0_1) (h : laws_szCredits.f k l0_0 l0_1 a1 = some r) :
  Calls Try.prog 31 #[.agg #[.slice A0_0 l0_0.length c0_0, .slice A0_1 l0_1.length c0_1], .int .i64 a1] w fun e w' => e = .returned (.int .i64 r) ∧ Below w.heap.size w w' := by
 have HR0_0 := A_.mk hr0_0
 have HC0_0 := A_.mk hc0_0
 clear hr0_0 hc0_0
 have HR0_1 := A_.mk hr0_1
 have HC0_1 := A_.mk hc0_1
 clear hr0_1 hc0_1
 have HB := A_.mk (Below.refl w.heap.size w)
 unfold laws_szCredits.f at h
 have H := h
 clear h
 replace H := oa_ H
 obtain ⟨t1, A2, H⟩ := H
 replace H := A_.mk H
 have hu24 := Try.underlying24
 go_enter Try.func31, Try.ntmps31
 have HS := A_.mk (Nat.le_refl w.heap.size)
 go_wp2_with (first | ((with_reducible refine gd_ (N := 2) rfl ?_); refine by_ 2 (cs := #[.slice A0_0 l0_0.length c0_0, .slice A0_1 l0_1.length c0_1]) (t := 24) ?_; intro gb1_ hg w1_ hbox hb; replace HS := A_.mk (And.intro HS.out (show gb1_ = w.heap.size ∧ gb1_ < w1_.heap.size from ⟨hg, blk_lt hbox⟩)); replace HB := aHB HB hb; have BK1 := A_.mk hbox; clear hbox hb hg; have Q1 := blk2_ BK1.out))
 (with_reducible refine (laws_szIntS.calls _ _ l0_0 a1 t1 _ (Kd.C_below HR0_0.out HB.out) HC0_0.out A2.out).mono ?_)
 rintro e w2_ ⟨rfl, hb⟩
 replace hb := Drawn0.below hb
 replace HS := aHs HS hb.size
 replace BK1 := aBb BK1 hb
 replace HB := aHB HB hb
 clear hb  Q1
 have Q1 := blk2_ BK1.out
 replace H := H.out
 by_cases hc1_ : t1 < 0
 case pos =>
  rw [if_pos hc1_] at H
  have hc1_b0 : decide (t1 < 0) = true := decide_eq_true hc1_
  replace H := Option.some.inj H
  subst H
  go_wp2
  go_ret
  exact ⟨rfl, HB.out⟩
 rw [if_neg hc1_] at H
 have hc1_b0 : decide (t1 < 0) = false := decide_eq_false hc1_
 replace H := oa_ H
 obtain ⟨t2, A3, H⟩ := H
 replace H := A_.mk H
 go_wp2_with (fail)
 (with_reducible refine (laws_szIntS.calls _ _ l0_1 t1 t2 _ (Kd.C_below HR0_1.out HB.out) HC0_1.out A3.out).mono ?_)
 rintro e w3_ ⟨rfl, hb⟩
 replace hb := Drawn0.below hb
 replace HS := aHs HS hb.size
 replace BK1 := aBb BK1 hb
 replace HB := aHB HB hb
 clear hb  Q1
 have Q1 := blk2_ BK1.out
 replace H := H.out
 by_cases hc2_ : t2 < 0
 case pos =>
  rw [if_pos hc2_] at H
  have hc2_b0 : decide (t2 < 0) = true := decide_eq_true hc2_
  replace H := Option.some.inj H
  subst H
  go_wp2
  go_ret
  exact ⟨rfl, HB.out⟩
 rw [if_neg hc2_] at H
 have hc2_b0 : decide (t2 < 0) = false := decide_eq_false hc2_
 replace H := Option.some.inj H
 subst H
 go_wp2
 go_ret
 exact ⟨rfl, HB.out⟩


/-! ### laws_szPacket: function 22, its calls in a row -/
def laws_szPacket.f (k : Nat) (a0_0 : Int) (a0_1 : Int) (a0_2 : Int) (a0_3 : Int) (a0_4 : Int) (a0_5 : Int) (a0_6 : Int) (l0_7 : List Int) (a1 : Int) : Option ((Int)) := ((laws_szIntS.f l0_7 a1).bind fun t1 => (if t1 < 0 then (some (-1)) else (some (t1))))
set_option maxHeartbeats 8000000 in
set_option maxRecDepth 100000 in
theorem laws_szPacket.calls (k : Nat) (a0_0 : Int) (a0_1 : Int) (a0_2 : Int) (a0_3 : Int) (a0_4 : Int) (a0_5 : Int) (a0_6 : Int) (A0_7 : Option Addr) (c0_7 : Nat) (l0_7 : List Int) (a1 : Int) (r : Int) (w : World) (hr0_7 : Kd.C (Kd.int .i64) w A0_7 l0_7.length l0_7) (hc0_7 : l0_7.length ≤ c0_7) (h : laws_szPacket.f k a0_0 a0_1 a0_2 a0_3 a0_4 a0_5 a0_6 l0_7 a1 = some r) :
  Calls Try.prog 22 #[.agg #[.int .i64 a0_0, .int .i64 a0_1, .int .i64 a0_2, .int .i64 a0_3, .int .i64 a0_4, .int .i64 a0_5, .int .i64 a0_6, .slice A0_7 l0_7.length c0_7], .int .i64 a1] w fun e w' => e = .returned (.int .i64 r) ∧ Below w.heap.size w w' := by
 have HR0_7 := A_.mk hr0_7
 have HC0_7 := A_.mk hc0_7
 clear hr0_7 hc0_7
 have HB := A_.mk (Below.refl w.heap.size w)
 unfold laws_szPacket.f at h
 have H := h
 clear h
 replace H := oa_ H
 obtain ⟨t1, A2, H⟩ := H
 replace H := A_.mk H
 have hu47 := Try.underlying47
 go_enter Try.func22, Try.ntmps22
 have HS := A_.mk (Nat.le_refl w.heap.size)
 go_wp2_with (first | ((with_reducible refine gd_ (N := 2) rfl ?_); refine by_ 2 (cs := #[.int .i64 a0_0, .int .i64 a0_1, .int .i64 a0_2, .int .i64 a0_3, .int .i64 a0_4, .int .i64 a0_5, .int .i64 a0_6, .slice A0_7 l0_7.length c0_7]) (t := 47) ?_; intro gb1_ hg w1_ hbox hb; replace HS := A_.mk (And.intro HS.out (show gb1_ = w.heap.size ∧ gb1_ < w1_.heap.size from ⟨hg, blk_lt hbox⟩)); replace HB := aHB HB hb; have BK1 := A_.mk hbox; clear hbox hb hg; have Q1 := blk8_ BK1.out))
 (with_reducible refine (laws_szIntS.calls _ _ l0_7 a1 t1 _ (Kd.C_below HR0_7.out HB.out) HC0_7.out A2.out).mono ?_)
 rintro e w2_ ⟨rfl, hb⟩
 replace hb := Drawn0.below hb
 replace HS := aHs HS hb.size
 replace BK1 := aBb BK1 hb
 replace HB := aHB HB hb
 clear hb  Q1
 have Q1 := blk8_ BK1.out
 replace H := H.out
 by_cases hc1_ : t1 < 0
 case pos =>
  rw [if_pos hc1_] at H
  have hc1_b0 : decide (t1 < 0) = true := decide_eq_true hc1_
  replace H := Option.some.inj H
  subst H
  go_wp2
  go_ret
  exact ⟨rfl, HB.out⟩
 rw [if_neg hc1_] at H
 have hc1_b0 : decide (t1 < 0) = false := decide_eq_false hc1_
 replace H := Option.some.inj H
 subst H
 go_wp2
 go_ret
 exact ⟨rfl, HB.out⟩


/-! ### laws_szPacketS: function 32 -/
def laws_szPacketS.l0 : Nat → List (S47) → Int → Int → Option (Int)
 | 0, _, _, _ => none
 | k + 1, x0, x1, x5 => if x5 < (x0.length : Int) then (if 0 ≤ x5 then ((laws_szPacket.f k ((rd_T47 x0 x5).f0) ((rd_T47 x0 x5).f1) ((rd_T47 x0 x5).f2) ((rd_T47 x0 x5).f3) ((rd_T47 x0 x5).f4) ((rd_T47 x0 x5).f5) ((rd_T47 x0 x5).f6) ((rd_T47 x0 x5).f7) x1).bind fun t102 => (if t102 < 0 then (some (-1)) else (laws_szPacketS.l0 k x0 t102 (wrap64 (x5 + 1))))) else (none)) else (some x1)
def laws_szPacketS.f (k : Nat) (l0 : List (S47)) (a1 : Int) : Option (Int) := if (wrap64 (a1 - (l0.length : Int))) < 0 then (some (-1)) else (laws_szPacketS.l0 k l0 (wrap64 (a1 - (l0.length : Int))) 0)
set_option maxHeartbeats 8000000 in
set_option maxRecDepth 100000 in
theorem laws_szPacketS.calls (k : Nat) (A0 : Option Addr) (c0 : Nat) (l0 : List (S47)) (a1 : Int) (r : Int) (w : World) (hr0 : Kd.C k47 w A0 l0.length l0) (hc0 : l0.length ≤ c0) (h : laws_szPacketS.f k l0 a1 = some r) :
  Calls Try.prog 32 #[.slice A0 l0.length c0, .int .i64 a1] w fun e w' => e = .returned (.int .i64 r) ∧ Below w.heap.size w w' := by
 have hu47 := Try.underlying47
 have HR0 := A_.mk hr0
 have HC0 := A_.mk hc0
 clear hr0 hc0
 have HB := A_.mk (Below.refl w.heap.size w)
 have H : (if (wrap64 (a1 - (l0.length : Int))) < 0 then (some (-1)) else (laws_szPacketS.l0 k l0 (wrap64 (a1 - (l0.length : Int))) 0)) = some r := h
 clear h
 by_cases c3 : (wrap64 (a1 - (l0.length : Int))) < 0
 ·rw [if_pos c3] at H
  have c3b0 : decide ((wrap64 (a1 - (l0.length : Int))) < 0) = true := decide_eq_true c3
  clear c3
  obtain rfl := Option.some.inj H
  go_enter Try.func32, Try.ntmps32
  go_wp2
  go_ret
  exact ⟨by first | rfl | (simp [errW_none, errW_some] <;> rfl) | (simp [*, errW_none, errW_some] <;> rfl), beY HB.out⟩
 rw [if_neg c3] at H
 have c3b0 : decide ((wrap64 (a1 - (l0.length : Int))) < 0) = false := decide_eq_false c3
 clear c3
 have H' := A_.mk H
 clear H
 go_enter Try.func32, Try.ntmps32
 go_wp2
 go_loopg [1, 5] k (fun kq v1 v5 w' => ∃ (x1_1 : Int) (x5_1 : Int), v1 = .int .i64 x1_1 ∧ v5 = .int .i64 x5_1 ∧ A_ (laws_szPacketS.l0 kq l0 x1_1 x5_1 = some r) ∧ A_ (kq ≤ k) ∧ A_ (Below w.heap.size w w'))
 case atStart => exact ⟨(wrap64 (a1 - (l0.length : Int))), (0), (by first | rfl | (simp; done) | (simp [*]; done)), (by first | rfl | (simp; done) | (simp [*]; done)), H', ⟨Nat.le_refl _⟩, ⟨beY HB.out⟩⟩
 case round =>
  clear H'
  obtain ⟨x1_1, x5_1, rfl, rfl, HA, HK1, HB⟩ := hrel
  cases gk with
  | zero => exact absurd HA.out (by simp [laws_szPacketS.l0])
  | succ k1 =>
   have H := HA.out
   clear HA
   simp only [laws_szPacketS.l0] at H
   by_cases c4 : x5_1 < (l0.length : Int)
   rotate_left
   ·rw [if_neg c4] at H
    have c4b0 : decide (x5_1 < (l0.length : Int)) = false := decide_eq_false c4
    clear c4
    obtain rfl := Option.some.inj H
    go_wp2
    go_ret
    exact ⟨by first | rfl | (simp [errW_none, errW_some] <;> rfl) | (simp [*, errW_none, errW_some] <;> rfl), beY HB.out⟩
   rw [if_pos c4] at H
   have c4b0 : decide (x5_1 < (l0.length : Int)) = true := decide_eq_true c4
   clear c4
   by_cases c5 : 0 ≤ x5_1
   rotate_left
   ·rw [if_neg c5] at H
    exact absurd H (by simp)
   rw [if_pos c5] at H
   have c5b0 : decide (0 ≤ x5_1) = true := decide_eq_true c5
   clear c5
   replace H := ob_ H
   obtain ⟨t102, A60, H⟩ := H
   have A6 := A_.mk A60
   clear A60
   by_cases c7 : t102 < 0
   ·rw [if_pos c7] at H
    have c7b0 : decide (t102 < 0) = true := decide_eq_true c7
    clear c7
    obtain rfl := Option.some.inj H
    have p101 : 0 ≤ (x5_1 : Int) := od_
    have q101 : x5_1 < (l0.length : Int) := od_
    obtain ⟨ad101, A101_7, c101_7, e101, hx101_0, hx101_1, hx101_2, hx101_3, hx101_4, hx101_5, hx101_6, hx101_7, hl101_7, hi101_7⟩ := at_T47 HR0.out x5_1 p101 q101
    cases e101
    replace hx101_0 := (HB.out.cell (wl_ w _ hx101_0)).trans hx101_0
    replace hx101_1 := (HB.out.cell (wl_ w _ hx101_1)).trans hx101_1
    replace hx101_2 := (HB.out.cell (wl_ w _ hx101_2)).trans hx101_2
    replace hx101_3 := (HB.out.cell (wl_ w _ hx101_3)).trans hx101_3
    replace hx101_4 := (HB.out.cell (wl_ w _ hx101_4)).trans hx101_4
    replace hx101_5 := (HB.out.cell (wl_ w _ hx101_5)).trans hx101_5
    replace hx101_6 := (HB.out.cell (wl_ w _ hx101_6)).trans hx101_6
    replace hx101_7 := (HB.out.cell (wl_ w _ hx101_7)).trans hx101_7
    have HR101_7 := A_.mk hi101_7
    have HC101_7 := A_.mk hl101_7
    clear hi101_7 hl101_7
    replace p101 := eq_true p101
    replace q101 := eq_true q101
    go_wp2_with (first | ((with_reducible refine gc_ (f := 22) rfl ?_); refine gl_ (some 23) Try.func22 #[.agg #[.int .i64 ((rd_T47 l0 x5_1).f0), .int .i64 ((rd_T47 l0 x5_1).f1), .int .i64 ((rd_T47 l0 x5_1).f2), .int .i64 ((rd_T47 l0 x5_1).f3), .int .i64 ((rd_T47 l0 x5_1).f4), .int .i64 ((rd_T47 l0 x5_1).f5), .int .i64 ((rd_T47 l0 x5_1).f6), .slice A101_7 ((rd_T47 l0 x5_1).f7).length c101_7], .int .i64 x1_1] ?_; (with_reducible refine (laws_szPacket.calls k1 ((rd_T47 l0 x5_1).f0) ((rd_T47 l0 x5_1).f1) ((rd_T47 l0 x5_1).f2) ((rd_T47 l0 x5_1).f3) ((rd_T47 l0 x5_1).f4) ((rd_T47 l0 x5_1).f5) ((rd_T47 l0 x5_1).f6) _ _ ((rd_T47 l0 x5_1).f7) x1_1 t102 _ ?side1 ?side2 A6.out).mono ?_); (case side1 => exact cY ((Kd.C_below HR101_7.out HB.out))); (case side2 => exact HC101_7.out); rintro e w8 ⟨rfl, hb⟩; refine ⟨_, rfl, ?_⟩; have n0_ := A_.mk (bt_ (beY HB.out) hb); clear HB; have HB := n0_; clear n0_; (try clear hb); (try clear hb2); (try clear hk); (try clear hi)))
    go_ret
    exact ⟨by first | rfl | (simp [errW_none, errW_some] <;> rfl) | (simp [*, errW_none, errW_some] <;> rfl), beY HB.out⟩
   rw [if_neg c7] at H
   have c7b0 : decide (t102 < 0) = false := decide_eq_false c7
   clear c7
   have H' := A_.mk H
   clear H
   have p101 : 0 ≤ (x5_1 : Int) := od_
   have q101 : x5_1 < (l0.length : Int) := od_
   obtain ⟨ad101, A101_7, c101_7, e101, hx101_0, hx101_1, hx101_2, hx101_3, hx101_4, hx101_5, hx101_6, hx101_7, hl101_7, hi101_7⟩ := at_T47 HR0.out x5_1 p101 q101
   cases e101
   replace hx101_0 := (HB.out.cell (wl_ w _ hx101_0)).trans hx101_0
   replace hx101_1 := (HB.out.cell (wl_ w _ hx101_1)).trans hx101_1
   replace hx101_2 := (HB.out.cell (wl_ w _ hx101_2)).trans hx101_2
   replace hx101_3 := (HB.out.cell (wl_ w _ hx101_3)).trans hx101_3
   replace hx101_4 := (HB.out.cell (wl_ w _ hx101_4)).trans hx101_4
   replace hx101_5 := (HB.out.cell (wl_ w _ hx101_5)).trans hx101_5
   replace hx101_6 := (HB.out.cell (wl_ w _ hx101_6)).trans hx101_6
   replace hx101_7 := (HB.out.cell (wl_ w _ hx101_7)).trans hx101_7
   have HR101_7 := A_.mk hi101_7
   have HC101_7 := A_.mk hl101_7
   clear hi101_7 hl101_7
   replace p101 := eq_true p101
   replace q101 := eq_true q101
   go_wp2_with (first | ((with_reducible refine gc_ (f := 22) rfl ?_); refine gl_ (some 23) Try.func22 #[.agg #[.int .i64 ((rd_T47 l0 x5_1).f0), .int .i64 ((rd_T47 l0 x5_1).f1), .int .i64 ((rd_T47 l0 x5_1).f2), .int .i64 ((rd_T47 l0 x5_1).f3), .int .i64 ((rd_T47 l0 x5_1).f4), .int .i64 ((rd_T47 l0 x5_1).f5), .int .i64 ((rd_T47 l0 x5_1).f6), .slice A101_7 ((rd_T47 l0 x5_1).f7).length c101_7], .int .i64 x1_1] ?_; (with_reducible refine (laws_szPacket.calls k1 ((rd_T47 l0 x5_1).f0) ((rd_T47 l0 x5_1).f1) ((rd_T47 l0 x5_1).f2) ((rd_T47 l0 x5_1).f3) ((rd_T47 l0 x5_1).f4) ((rd_T47 l0 x5_1).f5) ((rd_T47 l0 x5_1).f6) _ _ ((rd_T47 l0 x5_1).f7) x1_1 t102 _ ?side1 ?side2 A6.out).mono ?_); (case side1 => exact cY ((Kd.C_below HR101_7.out HB.out))); (case side2 => exact HC101_7.out); rintro e w9 ⟨rfl, hb⟩; refine ⟨_, rfl, ?_⟩; have n0_ := A_.mk (bt_ (beY HB.out) hb); clear HB; have HB := n0_; clear n0_; (try clear hb); (try clear hb2); (try clear hk); (try clear hi)))
   go_roundg k1
   case measure => have := HK1.out; omega
   case rel => exact ⟨(t102), (wrap64 (x5_1 + 1)), (by first | rfl | (simp; done) | (simp [*]; done)), (by first | rfl | (simp; done) | (simp [*]; done)), H', ⟨by have := HK1.out; omega⟩, ⟨beY HB.out⟩⟩
/-! ### laws_szChannel: function 8, its calls in a row -/
def laws_szChannel.f (k : Nat) (l0_0 : List Int) (l0_1 : List Int) (l0_2 : List Int) (l0_3 : List Int) (l0_4 : List (S47)) (l0_5 : List (S47)) (a1 : Int) : Option ((Int)) := ((laws_szCredits.f k l0_0 l0_1 a1).bind fun t1 => (if t1 < 0 then (some (-1)) else ((laws_szCredits.f k l0_2 l0_3 t1).bind fun t2 => (if t2 < 0 then (some (-1)) else ((laws_szPacketS.f k l0_4 t2).bind fun t3 => (if t3 < 0 then (some (-1)) else ((laws_szPacketS.f k l0_5 t3).bind fun t4 => (if t4 < 0 then (some (-1)) else (some (t4))))))))))
set_option maxHeartbeats 8000000 in
set_option maxRecDepth 100000 in
theorem laws_szChannel.calls (k : Nat) (A0_0 : Option Addr) (c0_0 : Nat) (l0_0 : List Int) (A0_1 : Option Addr) (c0_1 : Nat) (l0_1 : List Int) (A0_2 : Option Addr) (c0_2 : Nat) (l0_2 : List Int) (A0_3 : Option Addr) (c0_3 : Nat) (l0_3 : List Int) (A0_4 : Option Addr) (c0_4 : Nat) (l0_4 : List (S47)) (A0_5 : Option Addr) (c0_5 : Nat) (l0_5 : List (S47)) (a1 : Int) (r : Int) (w : World) (hr0_0 : Kd.C (Kd.int .i64) w A0_0 l0_0.length l0_0) (hc0_0 : l0_0.length ≤ c0_0) (hr0_1 : Kd.C (Kd.int .i64) w A0_1 l0_1.length l0_1) (hc0_1 : l0_1.length ≤ c0_1) (hr0_2 : Kd.C (Kd.int .i64) w A0_2 l0_2.length l0_2) (hc0_2 : l0_2.length ≤ c0_2) (hr0_3 : Kd.C (Kd.int .i64) w A0_3 l0_3.length l0_3) (hc0_3 : l0_3.length ≤ c0_3) (hr0_4 : Kd.C k47 w A0_4 l0_4.length l0_4) (hc0_4 : l0_4.length ≤ c0_4) (hr0_5 : Kd.C k47 w A0_5 l0_5.length l0_5) (hc0_5 : l0_5.length ≤ c0_5) (h : laws_szChannel.f k l0_0 l0_1 l0_2 l0_3 l0_4 l0_5 a1 = some r) :
  Calls Try.prog 8 #[.agg #[.slice A0_0 l0_0.length c0_0, .slice A0_1 l0_1.length c0_1, .slice A0_2 l0_2.length c0_2, .slice A0_3 l0_3.length c0_3, .slice A0_4 l0_4.length c0_4, .slice A0_5 l0_5.length c0_5], .int .i64 a1] w fun e w' => e = .returned (.int .i64 r) ∧ Below w.heap.size w w' := by
 have HR0_0 := A_.mk hr0_0
 have HC0_0 := A_.mk hc0_0
 clear hr0_0 hc0_0
 have HR0_1 := A_.mk hr0_1
 have HC0_1 := A_.mk hc0_1
 clear hr0_1 hc0_1
 have HR0_2 := A_.mk hr0_2
 have HC0_2 := A_.mk hc0_2
 clear hr0_2 hc0_2
 have HR0_3 := A_.mk hr0_3
 have HC0_3 := A_.mk hc0_3
 clear hr0_3 hc0_3
 have HR0_4 := A_.mk hr0_4
 have HC0_4 := A_.mk hc0_4
 clear hr0_4 hc0_4
 have HR0_5 := A_.mk hr0_5
 have HC0_5 := A_.mk hc0_5
 clear hr0_5 hc0_5
 have HB := A_.mk (Below.refl w.heap.size w)
 unfold laws_szChannel.f at h
 have H := h
 clear h
 replace H := oa_ H
 obtain ⟨t1, A2, H⟩ := H
 replace H := A_.mk H
 have hu27 := Try.underlying27
 go_enter Try.func8, Try.ntmps8
 have HS := A_.mk (Nat.le_refl w.heap.size)
 go_wp2_with (first | ((with_reducible refine gd_ (N := 2) rfl ?_); refine by_ 2 (cs := #[.slice A0_0 l0_0.length c0_0, .slice A0_1 l0_1.length c0_1, .slice A0_2 l0_2.length c0_2, .slice A0_3 l0_3.length c0_3, .slice A0_4 l0_4.length c0_4, .slice A0_5 l0_5.length c0_5]) (t := 27) ?_; intro gb1_ hg w1_ hbox hb; replace HS := A_.mk (And.intro HS.out (show gb1_ = w.heap.size ∧ gb1_ < w1_.heap.size from ⟨hg, blk_lt hbox⟩)); replace HB := aHB HB hb; have BK1 := A_.mk hbox; clear hbox hb hg; have Q1 := blk6_ BK1.out))
 (with_reducible refine (laws_szCredits.calls k _ _ l0_0 _ _ l0_1 a1 t1 _ (Kd.C_below HR0_0.out HB.out) HC0_0.out (Kd.C_below HR0_1.out HB.out) HC0_1.out A2.out).mono ?_)
 rintro e w2_ ⟨rfl, hb⟩
 replace HS := aHs HS hb.size
 replace BK1 := aBb BK1 hb
 replace HB := aHB HB hb
 clear hb  Q1
 have Q1 := blk6_ BK1.out
 replace H := H.out
 by_cases hc1_ : t1 < 0
 case pos =>
  rw [if_pos hc1_] at H
  have hc1_b0 : decide (t1 < 0) = true := decide_eq_true hc1_
  replace H := Option.some.inj H
  subst H
  go_wp2
  go_ret
  exact ⟨rfl, HB.out⟩
 rw [if_neg hc1_] at H
 have hc1_b0 : decide (t1 < 0) = false := decide_eq_false hc1_
 replace H := oa_ H
 obtain ⟨t2, A3, H⟩ := H
 replace H := A_.mk H
 go_wp2_with (fail)
 (with_reducible refine (laws_szCredits.calls k _ _ l0_2 _ _ l0_3 t1 t2 _ (Kd.C_below HR0_2.out HB.out) HC0_2.out (Kd.C_below HR0_3.out HB.out) HC0_3.out A3.out).mono ?_)
 rintro e w3_ ⟨rfl, hb⟩
 replace HS := aHs HS hb.size
 replace BK1 := aBb BK1 hb
 replace HB := aHB HB hb
 clear hb  Q1
 have Q1 := blk6_ BK1.out
 replace H := H.out
 by_cases hc2_ : t2 < 0
 case pos =>
  rw [if_pos hc2_] at H
  have hc2_b0 : decide (t2 < 0) = true := decide_eq_true hc2_
  replace H := Option.some.inj H
  subst H
  go_wp2
  go_ret
  exact ⟨rfl, HB.out⟩
 rw [if_neg hc2_] at H
 have hc2_b0 : decide (t2 < 0) = false := decide_eq_false hc2_
 replace H := oa_ H
 obtain ⟨t3, A4, H⟩ := H
 replace H := A_.mk H
 go_wp2_with (fail)
 (with_reducible refine (laws_szPacketS.calls k _ _ l0_4 t2 t3 _ (Kd.C_below HR0_4.out HB.out) HC0_4.out A4.out).mono ?_)
 rintro e w4_ ⟨rfl, hb⟩
 replace HS := aHs HS hb.size
 replace BK1 := aBb BK1 hb
 replace HB := aHB HB hb
 clear hb  Q1
 have Q1 := blk6_ BK1.out
 replace H := H.out
 by_cases hc3_ : t3 < 0
 case pos =>
  rw [if_pos hc3_] at H
  have hc3_b0 : decide (t3 < 0) = true := decide_eq_true hc3_
  replace H := Option.some.inj H
  subst H
  go_wp2
  go_ret
  exact ⟨rfl, HB.out⟩
 rw [if_neg hc3_] at H
 have hc3_b0 : decide (t3 < 0) = false := decide_eq_false hc3_
 replace H := oa_ H
 obtain ⟨t4, A5, H⟩ := H
 replace H := A_.mk H
 go_wp2_with (fail)
 (with_reducible refine (laws_szPacketS.calls k _ _ l0_5 t3 t4 _ (Kd.C_below HR0_5.out HB.out) HC0_5.out A5.out).mono ?_)
 rintro e w5_ ⟨rfl, hb⟩
 replace HS := aHs HS hb.size
 replace BK1 := aBb BK1 hb
 replace HB := aHB HB hb
 clear hb  Q1
 have Q1 := blk6_ BK1.out
 replace H := H.out
 by_cases hc4_ : t4 < 0
 case pos =>
  rw [if_pos hc4_] at H
  have hc4_b0 : decide (t4 < 0) = true := decide_eq_true hc4_
  replace H := Option.some.inj H
  subst H
  go_wp2
  go_ret
  exact ⟨rfl, HB.out⟩
 rw [if_neg hc4_] at H
 have hc4_b0 : decide (t4 < 0) = false := decide_eq_false hc4_
 replace H := Option.some.inj H
 subst H
 go_wp2
 go_ret
 exact ⟨rfl, HB.out⟩
/-! ### laws_toIntS: function 67 -/
def laws_toIntS.l0 : Nat → List Int → List Int → Int → Option (List Int)
 | 0, _, _, _ => none
 | k + 1, x0, x3, x4 => if x4 < (x0.length : Int) then (if 0 ≤ x4 then (if x4 < (x3.length : Int) then (laws_toIntS.l0 k x0 (x3.set (x4 : Int).toNat (rd x0 x4)) (wrap64 (x4 + 1))) else (none)) else (none)) else (some x3)
def laws_toIntS.f (k : Nat) (l0 : List Int) : Option (List Int) := if 0 ≤ (l0.length : Int) then (if ((l0.length : Int) : Int).toNat ≤ 35184372088832 then (laws_toIntS.l0 k l0 (List.replicate ((l0.length : Int) : Int).toNat 0) 0) else (none)) else (none)
set_option maxHeartbeats 8000000 in
set_option maxRecDepth 100000 in
theorem laws_toIntS.calls (k : Nat) (A0 : Option Addr) (c0 : Nat) (l0 : List Int) (r : List Int) (w : World) (hr0 : Kd.C (Kd.int .i64) w A0 l0.length l0) (hc0 : l0.length ≤ c0) (h : laws_toIntS.f k l0 = some r) :
  Calls Try.prog 67 #[.slice A0 l0.length c0] w fun e w' => ∃ v0_ : Value, e = .returned (v0_) ∧ Kd.R (Kd.int .i64) 3 w' w.heap.size (fun _ => True) v0_ r ∧ Below w.heap.size w w' := by
 have HR0 := A_.mk hr0
 have HC0 := A_.mk hc0
 clear hr0 hc0
 have HB := A_.mk (Below.refl w.heap.size w)
 have H : (if 0 ≤ (l0.length : Int) then (if ((l0.length : Int) : Int).toNat ≤ 35184372088832 then (laws_toIntS.l0 k l0 (List.replicate ((l0.length : Int) : Int).toNat 0) 0) else (none)) else (none)) = some r := h
 clear h
 by_cases c2 : 0 ≤ (l0.length : Int)
 rotate_left
 ·rw [if_neg c2] at H
  exact absurd H (by simp)
 rw [if_pos c2] at H
 have c2b0 := eq_true c2
 have c2b1 : decide (0 ≤ (l0.length : Int)) = true := decide_eq_true c2
 clear c2
 by_cases c3 : ((l0.length : Int) : Int).toNat ≤ 35184372088832
 rotate_left
 ·rw [if_neg c3] at H
  exact absurd H (by simp)
 rw [if_pos c3] at H
 have c3b0 := eq_true c3
 have c3b1 : decide (((l0.length : Int) : Int).toNat ≤ 35184372088832) = true := decide_eq_true c3
 clear c3
 obtain ⟨y103, hy103⟩ : ∃ y_ : List Int, y_ = (List.replicate ((l0.length : Int) : Int).toNat 0) := ⟨_, rfl⟩
 replace H : (laws_toIntS.l0 k l0 y103 0) = some r := by first | (rw [hy103]; with_reducible exact H) | (have H2_ := (Option.bind_some _ _).symm.trans H; rw [hy103]; with_reducible exact H2_) | (have H2_ := (Option.bind_some _ _).symm.trans H; with_reducible exact H2_) | with_reducible exact H | (rw [hy103]; exact H) | exact H
 have Ny103 := A_.mk hy103
 clear hy103
 have H' := A_.mk H
 clear H
 go_enter Try.func67, Try.ntmps67
 go_wp2_with (first | ((with_reducible refine gd_ (N := 7) rfl ?_); refine Kd.R_make (Kd.int .i64) _ 3 rfl (N := 7) rfl 22 _ _ rfl (l0.length : Int) rfl rfl Try.underlying22 (.int .i64 0) 8 info3 rfl (by decide) (by omega) 0 (ok := fun _ => True) (okp := fun _ => True) rfl (fun _ hk => hk) trivial (od_) (Nat.le_trans (Nat.mul_le_mul_right _ (od_ : (l0.length : Int).toNat ≤ 35184372088832)) (by omega)) (Below.refl _ _) (Nat.le_refl _) ?_; intro v104 w4 ho5 hb hg_ hnew_; clear hg_ hnew_; (first | rw [← Ny103.out] at ho5 | (simp only [Int.reduceToNat] at ho5; rw [← Ny103.out] at ho5)); have n0_ := A_.mk (Kd.R_lower ho5 (bz_ (beY HB.out))); have n1_ := A_.mk (bt_ (beY HB.out) hb); clear HB; have HO105 := n0_; have HB := n1_; clear n0_ n1_ hb ho5))
 go_loopg [4] k (fun kq v4 w' => ∃ (x3_1 : List Int) (x4_1 : Int), v4 = .int .i64 x4_1 ∧ A_ (laws_toIntS.l0 kq l0 x3_1 x4_1 = some r) ∧ A_ (kq ≤ k) ∧ A_ (Kd.R (Kd.int .i64) 3 w' w.heap.size (fun _ => True) v104 x3_1) ∧ A_ (Below w.heap.size w w'))
 case atStart => exact ⟨(y103), (0), (by first | rfl | (simp; done) | (simp [*]; done)), H', ⟨Nat.le_refl _⟩, ⟨by (repeat apply rX); exact HO105.out⟩, ⟨beY HB.out⟩⟩
 case round =>
  clear H'
  obtain ⟨x3_1, x4_1, rfl, HA, HK1, HO_3, HB⟩ := hrel
  cases gk with
  | zero => exact absurd HA.out (by simp [laws_toIntS.l0])
  | succ k1 =>
   have H := HA.out
   clear HA
   simp only [laws_toIntS.l0] at H
   by_cases c6 : x4_1 < (l0.length : Int)
   rotate_left
   ·rw [if_neg c6] at H
    have c6b0 : decide (x4_1 < (l0.length : Int)) = false := decide_eq_false c6
    clear c6
    obtain rfl := Option.some.inj H
    go_wp2
    go_ret
    exact ⟨_, by first | rfl | (simp [errW_none, errW_some] <;> rfl) | (simp [*, errW_none, errW_some] <;> rfl), by (repeat apply rX); exact HO_3.out, beY HB.out⟩
   rw [if_pos c6] at H
   have c6b0 : decide (x4_1 < (l0.length : Int)) = true := decide_eq_true c6
   clear c6
   by_cases c7 : 0 ≤ x4_1
   rotate_left
   ·rw [if_neg c7] at H
    exact absurd H (by simp)
   rw [if_pos c7] at H
   have c7b0 : decide (0 ≤ x4_1) = true := decide_eq_true c7
   clear c7
   by_cases c8 : x4_1 < (x3_1.length : Int)
   rotate_left
   ·rw [if_neg c8] at H
    exact absurd H (by simp)
   rw [if_pos c8] at H
   have c8b0 : decide (x4_1 < (x3_1.length : Int)) = true := decide_eq_true c8
   clear c8
   obtain ⟨y107, hy107⟩ : ∃ y_ : List Int, y_ = (x3_1.set (x4_1 : Int).toNat (rd l0 x4_1)) := ⟨_, rfl⟩
   replace H : (laws_toIntS.l0 k1 l0 y107 (wrap64 (x4_1 + 1))) = some r := by first | (rw [hy107]; with_reducible exact H) | (have H2_ := (Option.bind_some _ _).symm.trans H; rw [hy107]; with_reducible exact H2_) | (have H2_ := (Option.bind_some _ _).symm.trans H; with_reducible exact H2_) | with_reducible exact H | (rw [hy107]; exact H) | exact H
   have Ny107 := A_.mk hy107
   clear hy107
   have H' := A_.mk H
   clear H
   have p106 : 0 ≤ (x4_1 : Int) := od_
   have q106 : x4_1 < (l0.length : Int) := od_
   obtain ⟨ad106, e106, hx106_0⟩ := Kd.at_int HR0.out x4_1 p106 q106
   cases e106
   replace hx106_0 := (HB.out.cell (wl_ w _ hx106_0)).trans hx106_0
   replace p106 := eq_true p106
   replace q106 := eq_true q106
   have p9 : 0 ≤ (x4_1 : Int) := od_
   have q9 : (x4_1 : Int) < ((x3_1.length : Int) : Int) := od_
   obtain ⟨go9, co9, eo9, gb9, gl9, cl9, HG9⟩ := Kd.R_form HO_3.out (by omega)
   (first | cases eo9 | (injection eo9 with ea_ en_ ec_; (first | subst ea_ | (injection ea_ with ea_; subst ea_)); subst ec_; clear en_))
   have GB9 := A_.mk gb9
   have GG9 := A_.mk HG9
   clear gb9 gl9 HG9
   obtain ⟨hx9_0, hf9_0⟩ := Kd.R_celln 0 HO_3.out (x4_1 : Int) p9 q9
   replace p9 := eq_true p9
   replace q9 := eq_true q9
   have HP10 := Kd.R_putg HO_3.out (x4_1 : Int) (rd l0 x4_1)
   go_wp2_with (first | ((with_reducible refine gs_ (t := 3) (p := 20) rfl ?_); refine se_ (t := 3) (p := 20) (v := ?vo_w11) (w1 := (wr.setCell ⟨go9, (x4_1 : Int).toNat, none⟩ (.int .i64 (rd l0 x4_1)))) ?hg ?ho ?hn ?hr ?_; (case ho => rfl); (case hg => rfl); (case hn => rfl); (case hr => first | (go_simp; done) | (go_simp; rfl)); intro w11 hw; have hg : wr.grownBy w11 (some go9) := (by rw [hw]; exact HP10.2); have hp_ : Kd.R (Kd.int .i64) 3 w11 w.heap.size (fun _ => True) (.slice (some ⟨go9, 0, none⟩) x3_1.length co9) y107 := (by rw [hw, Ny107.out]; exact HP10.1); clear HP10; have n0_ := A_.mk (hp_); have n1_ := A_.mk ((by rw [hw]; exact bs_ (HB.out) GB9.out : Below w.heap.size w w11)); clear HO_3 HB; have HO_3 := n0_; have HB := n1_; clear n0_ n1_ hg hw hp_))
   go_roundg k1
   case measure => have := HK1.out; omega
   case rel => exact ⟨(y107), (wrap64 (x4_1 + 1)), (by first | rfl | (simp; done) | (simp [*]; done)), H', ⟨by have := HK1.out; omega⟩, ⟨by (repeat apply rX); exact HO_3.out⟩, ⟨beY HB.out⟩⟩
/-! ### laws_toCredits: function 38 -/
def laws_toCredits.f (k : Nat) (l0_0 : List Int) (l0_1 : List Int) : Option (List Int × List Int) := (laws_toIntS.f k l0_0).bind fun t111 => ((laws_toIntS.f k l0_1).bind fun t114 => (some (t111, t114)))
set_option maxHeartbeats 8000000 in
set_option maxRecDepth 100000 in
theorem laws_toCredits.calls (k : Nat) (A0_0 : Option Addr) (c0_0 : Nat) (l0_0 : List Int) (A0_1 : Option Addr) (c0_1 : Nat) (l0_1 : List Int) (r1 : List Int) (r2 : List Int) (w : World) (hr0_0 : Kd.C (Kd.int .i64) w A0_0 l0_0.length l0_0) (hc0_0 : l0_0.length ≤ c0_0) (hr0_1 : Kd.C (Kd.int .i64) w A0_1 l0_1.length l0_1) (hc0_1 : l0_1.length ≤ c0_1) (h : laws_toCredits.f k l0_0 l0_1 = some (r1, r2)) :
  Calls Try.prog 38 #[.agg #[.slice A0_0 l0_0.length c0_0, .slice A0_1 l0_1.length c0_1]] w fun e w' => ∃ v0_ v1_ : Value, e = .returned (.agg #[v0_, v1_]) ∧ Kd.R (Kd.int .i64) 3 w' w.heap.size (fun k_ => some k_ ≠ (v1_ : Value).ownBlock) v0_ r1 ∧ Kd.R (Kd.int .i64) 3 w' w.heap.size (fun k_ => some k_ ≠ (v0_ : Value).ownBlock) v1_ r2 ∧ Below w.heap.size w w' := by
 have hu24 := Try.underlying24
 have hu30 := Try.underlying30
 have HR0_0 := A_.mk hr0_0
 have HC0_0 := A_.mk hc0_0
 clear hr0_0 hc0_0
 have HR0_1 := A_.mk hr0_1
 have HC0_1 := A_.mk hc0_1
 clear hr0_1 hc0_1
 have HB := A_.mk (Below.refl w.heap.size w)
 have H : ((laws_toIntS.f k l0_0).bind fun t111 => ((laws_toIntS.f k l0_1).bind fun t114 => (some (t111, t114)))) = some (r1, r2) := h
 clear h
 replace H := ob_ H
 obtain ⟨t111, A20, H⟩ := H
 have A2 := A_.mk A20
 clear A20
 replace H := ob_ H
 obtain ⟨t114, A30, H⟩ := H
 have A3 := A_.mk A30
 clear A30
 simp only [Option.some.injEq, Prod.mk.injEq] at H
 obtain ⟨rfl, rfl⟩ := H
 go_enter Try.func38, Try.ntmps38
 go_wp2_with (first | ((with_reducible refine gd_ (N := 1) rfl ?_); refine by_ 1 (cs := #[.slice A0_0 l0_0.length c0_0, .slice A0_1 l0_1.length c0_1]) (t := 24) ?_; intro gb108 hg w4 hbox hb; have n0_ := A_.mk (bt_ (beY HB.out) hb); have n1_ := A_.mk (hbox); have n2_ := A_.mk ((by rw [hg]; exact (bz_ (beY HB.out)) : w.heap.size ≤ gb108)); have n3_ := A_.mk ((by rw [hg]; exact (bz_ (beY HB.out)) : w.heap.size ≤ gb108)); clear HB; have HB := n0_; have BK108 := n1_; have GW108 := n2_; have GE108 := n3_; clear n0_ n1_ n2_ n3_ hb hbox hg) | ((with_reducible refine gd_ (N := 2) rfl ?_); refine by_ 2 (cs := #[.slice none 0 0, .slice none 0 0]) (t := 30) ?_; intro gb109 hg w5 hbox hb; have n0_ := A_.mk (bb_ (bY BK108.out) hb); have n1_ := A_.mk (bt_ (by repeat (first | (with_reducible first | exact HB.out | apply ba_ | apply bd_ | apply be_ | refine bs_ ?_ GE108.out) | exact HB.out)) hb); have n2_ := A_.mk (hbox); have n3_ := A_.mk ((by rw [hg]; exact (bz_ (by repeat (first | (with_reducible first | exact HB.out | apply ba_ | apply bd_ | apply be_ | refine bs_ ?_ GE108.out) | exact HB.out))) : w.heap.size ≤ gb109)); have n4_ := A_.mk ((by rw [hg]; exact (bz_ (by repeat (first | (with_reducible first | exact HB.out | apply ba_ | apply bd_ | apply be_ | refine bs_ ?_ GE108.out) | exact HB.out))) : w.heap.size ≤ gb109)); have n5_ := A_.mk ((by rw [hg]; exact Nat.ne_of_lt (blk_lt (bY BK108.out)) : gb108 ≠ gb109)); have n6_ := A_.mk ((by rw [hg]; exact Nat.ne_of_gt (blk_lt (bY BK108.out)) : gb109 ≠ gb108)); clear BK108 HB; have BK108 := n0_; have HB := n1_; have BK109 := n2_; have GW109 := n3_; have GE109 := n4_; have NB108_109 := n5_; have NB109_108 := n6_; clear n0_ n1_ n2_ n3_ n4_ n5_ n6_ hb hbox hg) | ((with_reducible refine gd_ (N := 3) rfl ?_); refine by_ 3 (cs := #[.slice none 0 0, .slice none 0 0]) (t := 30) ?_; intro gb110 hg w6 hbox hb; have n0_ := A_.mk (bb_ (bY BK108.out) hb); have n1_ := A_.mk (bb_ (bY BK109.out) hb); have n2_ := A_.mk (bt_ (by repeat (first | (with_reducible first | exact HB.out | apply ba_ | apply bd_ | apply be_ | refine bs_ ?_ GE108.out | refine bs_ ?_ GE109.out) | exact HB.out)) hb); have n3_ := A_.mk (hbox); have n4_ := A_.mk ((by rw [hg]; exact (bz_ (by repeat (first | (with_reducible first | exact HB.out | apply ba_ | apply bd_ | apply be_ | refine bs_ ?_ GE108.out | refine bs_ ?_ GE109.out) | exact HB.out))) : w.heap.size ≤ gb110)); have n5_ := A_.mk ((by rw [hg]; exact (bz_ (by repeat (first | (with_reducible first | exact HB.out | apply ba_ | apply bd_ | apply be_ | refine bs_ ?_ GE108.out | refine bs_ ?_ GE109.out) | exact HB.out))) : w.heap.size ≤ gb110)); have n6_ := A_.mk ((by rw [hg]; exact Nat.ne_of_lt (blk_lt (bY BK108.out)) : gb108 ≠ gb110)); have n7_ := A_.mk ((by rw [hg]; exact Nat.ne_of_gt (blk_lt (bY BK108.out)) : gb110 ≠ gb108)); have n8_ := A_.mk ((by rw [hg]; exact Nat.ne_of_lt (blk_lt (bY BK109.out)) : gb109 ≠ gb110)); have n9_ := A_.mk ((by rw [hg]; exact Nat.ne_of_gt (blk_lt (bY BK109.out)) : gb110 ≠ gb109)); clear BK108 BK109 HB; have BK108 := n0_; have BK109 := n1_; have HB := n2_; have BK110 := n3_; have GW110 := n4_; have GE110 := n5_; have NB108_110 := n6_; have NB110_108 := n7_; have NB109_110 := n8_; have NB110_109 := n9_; clear n0_ n1_ n2_ n3_ n4_ n5_ n6_ n7_ n8_ n9_ hb hbox hg; have hnb7 := NB108_109.out; have hnc7 := NB109_108.out; have hnb8 := NB108_110.out; have hnc8 := NB110_108.out; have hcz9_0 : w6.cell? ⟨gb108, 0, none⟩ = some (.slice A0_0 l0_0.length c0_0) := (bc_ BK108.out 0).trans rfl; have hcz9_1 : w6.cell? ⟨gb108, 1, none⟩ = some (.slice A0_1 l0_1.length c0_1) := (bc_ BK108.out 1).trans rfl; have hfz9_0 := bf_ BK108.out 0; have hfz9_1 := bf_ BK108.out 1) | ((with_reducible refine gc_ (f := 67) rfl ?_); refine gl_ (some 6) Try.func67 #[.slice A0_0 l0_0.length c0_0] ?_; (with_reducible refine (laws_toIntS.calls k _ _ l0_0 t111 _ ?side1 ?side2 A2.out).mono ?_); (case side1 => exact cY ((Kd.C_below HR0_0.out HB.out))); (case side2 => exact HC0_0.out); rintro e w10 ⟨v112, rfl, ho0, hb⟩; refine ⟨_, rfl, ?_⟩; have n0_ := A_.mk (Kd.R_lower ho0 (bz_ (by repeat (first | (with_reducible first | exact HB.out | apply ba_ | apply bd_ | apply be_ | refine bs_ ?_ GE108.out | refine bs_ ?_ GE109.out | refine bs_ ?_ GE110.out) | exact HB.out)))); have n1_ := A_.mk (bb_ (bY BK108.out) hb); have n2_ := A_.mk (bb_ (bY BK109.out) hb); have n3_ := A_.mk (bb_ (bY BK110.out) hb); have n4_ := A_.mk (bt_ (by repeat (first | (with_reducible first | exact HB.out | apply ba_ | apply bd_ | apply be_ | refine bs_ ?_ GE108.out | refine bs_ ?_ GE109.out | refine bs_ ?_ GE110.out) | exact HB.out)) hb); clear BK108 BK109 BK110 HB; have HO113 := n0_; have BK108 := n1_; have BK109 := n2_; have BK110 := n3_; have HB := n4_; clear n0_ n1_ n2_ n3_ n4_; (try clear hb); (try clear hb2); (try clear hk); (try clear hi); (try clear ho0); obtain ⟨Ao11, co11, eo11⟩ := Kd.R_slice HO113.out; subst eo11; have hnb12 := NB110_109.out; have hnc12 := NB109_110.out; have hcz13_0 : w10.cell? ⟨gb110, 0, none⟩ = some (.slice none 0 0) := (bc_ BK110.out 0).trans rfl; have hcz13_1 : w10.cell? ⟨gb110, 1, none⟩ = some (.slice none 0 0) := (bc_ BK110.out 1).trans rfl; have hfz13_0 := bf_ BK110.out 0; have hfz13_1 := bf_ BK110.out 1; have hcz14_0 : w10.cell? ⟨gb108, 0, none⟩ = some (.slice A0_0 l0_0.length c0_0) := (bc_ BK108.out 0).trans rfl; have hcz14_1 : w10.cell? ⟨gb108, 1, none⟩ = some (.slice A0_1 l0_1.length c0_1) := (bc_ BK108.out 1).trans rfl; have hfz14_0 := bf_ BK108.out 0; have hfz14_1 := bf_ BK108.out 1) | ((with_reducible refine gc_ (f := 67) rfl ?_); refine gl_ (some 10) Try.func67 #[.slice A0_1 l0_1.length c0_1] ?_; (with_reducible refine (laws_toIntS.calls k _ _ l0_1 t114 _ ?side1 ?side2 A3.out).mono ?_); (case side1 => exact Kd.C_below HR0_1.out (by repeat (first | (with_reducible first | exact HB.out | apply ba_ | apply bd_ | apply be_ | refine bs_ ?_ GE108.out | refine bs_ ?_ GE109.out | refine bs_ ?_ GE110.out) | exact HB.out))); (case side2 => exact HC0_1.out); rintro e w15 ⟨v115, rfl, ho0, hb⟩; refine ⟨_, rfl, ?_⟩; have n0_ := A_.mk (Kd.R_elder' (by (repeat apply rX); exact (Kd.R_mono (Kd.R_far (p := ⟨gb110, 0, none⟩) (Kd.R_types HO113.out BK110.out (by decide)) (fun _ hk => hk.2) (.slice Ao11 t111.length co11)) (fun _ h_ => h_.1))) (Kd.R_base ho0) hb); have n1_ := A_.mk (Kd.R_lower (Kd.R_new' ho0 (Kd.R_lt (by (repeat apply rX); exact (Kd.R_mono (Kd.R_far (p := ⟨gb110, 0, none⟩) (Kd.R_types HO113.out BK110.out (by decide)) (fun _ hk => hk.2) (.slice Ao11 t111.length co11)) (fun _ h_ => h_.1))))) (bz_ (by repeat (first | (with_reducible first | exact HB.out | apply ba_ | apply bd_ | apply be_ | refine bs_ ?_ GE108.out | refine bs_ ?_ GE109.out | refine bs_ ?_ GE110.out) | exact HB.out)))); have n2_ := A_.mk (bb_ (g := gb108) (o := .cells #[.slice A0_0 l0_0.length c0_0, .slice A0_1 l0_1.length c0_1] 24 (0, 0)) (by (repeat apply bX); refine blk_far ?_ NB108_110.out _; (repeat apply bX); exact BK108.out) hb); have n3_ := A_.mk (bb_ (g := gb109) (o := .cells #[.slice none 0 0, .slice none 0 0] 30 (0, 0)) (by (repeat apply bX); refine blk_far ?_ NB109_110.out _; (repeat apply bX); exact BK109.out) hb); have n4_ := A_.mk (bb_ (g := gb110) (o := .cells #[.slice Ao11 t111.length co11, .slice none 0 0] 30 (0, 0)) (by (repeat apply bX); refine bp_ (cs := #[.slice none 0 0, .slice none 0 0]) ?_ 0 _ rfl; (repeat apply bX); exact BK110.out) hb); have n5_ := A_.mk (bt_ (by repeat (first | (with_reducible first | exact HB.out | apply ba_ | apply bd_ | apply be_ | refine bs_ ?_ GE108.out | refine bs_ ?_ GE109.out | refine bs_ ?_ GE110.out) | exact HB.out)) hb); clear HO113 BK108 BK109 BK110 HB; have HO113 := n0_; have HO116 := n1_; have BK108 := n2_; have BK109 := n3_; have BK110 := n4_; have HB := n5_; clear n0_ n1_ n2_ n3_ n4_ n5_; (try clear hb); (try clear hb2); (try clear hk); (try clear hi); (try clear ho0); obtain ⟨Ao16, co16, eo16⟩ := Kd.R_slice HO116.out; subst eo16; have hcz17_0 : w15.cell? ⟨gb110, 0, none⟩ = some (.slice Ao11 t111.length co11) := (bc_ BK110.out 0).trans rfl; have hcz17_1 : w15.cell? ⟨gb110, 1, none⟩ = some (.slice none 0 0) := (bc_ BK110.out 1).trans rfl; have hfz17_0 := bf_ BK110.out 0; have hfz17_1 := bf_ BK110.out 1; have hcz18_0 : w15.cell? ⟨gb109, 0, none⟩ = some (.slice none 0 0) := (bc_ BK109.out 0).trans rfl; have hcz18_1 : w15.cell? ⟨gb109, 1, none⟩ = some (.slice none 0 0) := (bc_ BK109.out 1).trans rfl; have hfz18_0 := bf_ BK109.out 0; have hfz18_1 := bf_ BK109.out 1))
 refine bodyPost_ret (results_cell_row rfl _ _ gb109 30 #[.slice Ao11 t111.length co11, .slice Ao16 t114.length co16] (0, 0) _ rfl (by (repeat apply bX); refine bp_ (cs := #[.slice Ao11 t111.length co11, .slice none 0 0]) ?_ 1 _ rfl; (repeat apply bX); refine bp_ (cs := #[.slice none 0 0, .slice none 0 0]) ?_ 0 _ rfl; (repeat apply bX); refine blk_far ?_ NB109_110.out _; (repeat apply bX); exact BK109.out) Try.underlying30 rfl (by kernel_rfl)) rfl ?_
 exact ⟨_, _, by first | rfl | (simp [errW_none, errW_some] <;> rfl) | (simp [*, errW_none, errW_some] <;> rfl), by (repeat apply rX); exact Kd.R_mono (Kd.R_far (p := ⟨gb109, 1, none⟩) (Kd.R_far (p := ⟨gb109, 0, none⟩) (Kd.R_far (p := ⟨gb110, 1, none⟩) (Kd.R_types (Kd.R_types HO113.out BK110.out (by decide)) BK109.out (by decide)) (fun _ hk => hk.1.2) (.slice Ao16 t114.length co16)) (fun _ hk => hk.2) (.slice Ao11 t111.length co11)) (fun _ hk => hk.2) (.slice Ao16 t114.length co16)) (fun _ hk => hk.1.1.2), by (repeat apply rX); exact Kd.R_mono (Kd.R_far (p := ⟨gb109, 1, none⟩) (Kd.R_far (p := ⟨gb109, 0, none⟩) (Kd.R_far (p := ⟨gb110, 1, none⟩) (Kd.R_types (Kd.R_types HO116.out BK110.out (by decide)) BK109.out (by decide)) (fun _ hk => hk.1.2) (.slice Ao16 t114.length co16)) (fun _ hk => hk.2) (.slice Ao11 t111.length co11)) (fun _ hk => hk.2) (.slice Ao16 t114.length co16)) (fun _ hk => hk.1.1.2), by repeat (first | (with_reducible first | exact HB.out | apply ba_ | apply bd_ | apply be_ | refine bs_ ?_ GE108.out | refine bs_ ?_ GE109.out | refine bs_ ?_ GE110.out) | exact HB.out)⟩
/-! ### laws_toPacket: function 24 -/
def laws_toPacket.f (k : Nat) (a0_0 : Int) (a0_1 : Int) (a0_2 : Int) (a0_3 : Int) (a0_4 : Int) (a0_5 : Int) (a0_6 : Int) (l0_7 : List Int) : Option (Int × Int × Int × Int × Int × Int × Int × List Int) := (laws_toIntS.f k l0_7).bind fun t120 => (some (a0_0, a0_1, a0_2, a0_3, a0_4, a0_5, a0_6, t120))
set_option maxHeartbeats 8000000 in
set_option maxRecDepth 100000 in
theorem laws_toPacket.calls (k : Nat) (a0_0 : Int) (a0_1 : Int) (a0_2 : Int) (a0_3 : Int) (a0_4 : Int) (a0_5 : Int) (a0_6 : Int) (A0_7 : Option Addr) (c0_7 : Nat) (l0_7 : List Int) (r1 : Int) (r2 : Int) (r3 : Int) (r4 : Int) (r5 : Int) (r6 : Int) (r7 : Int) (r8 : List Int) (w : World) (hr0_7 : Kd.C (Kd.int .i64) w A0_7 l0_7.length l0_7) (hc0_7 : l0_7.length ≤ c0_7) (h : laws_toPacket.f k a0_0 a0_1 a0_2 a0_3 a0_4 a0_5 a0_6 l0_7 = some (r1, r2, r3, r4, r5, r6, r7, r8)) :
  Calls Try.prog 24 #[.agg #[.int .i64 a0_0, .int .i64 a0_1, .int .i64 a0_2, .int .i64 a0_3, .int .i64 a0_4, .int .i64 a0_5, .int .i64 a0_6, .slice A0_7 l0_7.length c0_7]] w fun e w' => ∃ v7_ : Value, e = .returned (.agg #[.int .i64 r1, .int .i64 r2, .int .i64 r3, .int .i64 r4, .int .i64 r5, .int .i64 r6, .int .i64 r7, v7_]) ∧ Kd.R (Kd.int .i64) 3 w' w.heap.size (fun _ => True) v7_ r8 ∧ Below w.heap.size w w' := by
 have hu47 := Try.underlying47
 have hu38 := Try.underlying38
 have HR0_7 := A_.mk hr0_7
 have HC0_7 := A_.mk hc0_7
 clear hr0_7 hc0_7
 have HB := A_.mk (Below.refl w.heap.size w)
 have H : ((laws_toIntS.f k l0_7).bind fun t120 => (some (a0_0, a0_1, a0_2, a0_3, a0_4, a0_5, a0_6, t120))) = some (r1, r2, r3, r4, r5, r6, r7, r8) := h
 clear h
 replace H := ob_ H
 obtain ⟨t120, A20, H⟩ := H
 have A2 := A_.mk A20
 clear A20
 simp only [Option.some.injEq, Prod.mk.injEq] at H
 obtain ⟨rfl, rfl, rfl, rfl, rfl, rfl, rfl, rfl⟩ := H
 go_enter Try.func24, Try.ntmps24
 go_wp2_with (first | ((with_reducible refine gd_ (N := 1) rfl ?_); refine by_ 1 (cs := #[.int .i64 a0_0, .int .i64 a0_1, .int .i64 a0_2, .int .i64 a0_3, .int .i64 a0_4, .int .i64 a0_5, .int .i64 a0_6, .slice A0_7 l0_7.length c0_7]) (t := 47) ?_; intro gb117 hg w3 hbox hb; have n0_ := A_.mk (bt_ (beY HB.out) hb); have n1_ := A_.mk (hbox); have n2_ := A_.mk ((by rw [hg]; exact (bz_ (beY HB.out)) : w.heap.size ≤ gb117)); have n3_ := A_.mk ((by rw [hg]; exact (bz_ (beY HB.out)) : w.heap.size ≤ gb117)); clear HB; have HB := n0_; have BK117 := n1_; have GW117 := n2_; have GE117 := n3_; clear n0_ n1_ n2_ n3_ hb hbox hg) | ((with_reducible refine gd_ (N := 2) rfl ?_); refine by_ 2 (cs := #[.int .i64 0, .int .i64 0, .int .i64 0, .int .i64 0, .int .i64 0, .int .i64 0, .int .i64 0, .slice none 0 0]) (t := 38) ?_; intro gb118 hg w4 hbox hb; have n0_ := A_.mk (bb_ (bY BK117.out) hb); have n1_ := A_.mk (bt_ (by repeat (first | (with_reducible first | exact HB.out | apply ba_ | apply bd_ | apply be_ | refine bs_ ?_ GE117.out) | exact HB.out)) hb); have n2_ := A_.mk (hbox); have n3_ := A_.mk ((by rw [hg]; exact (bz_ (by repeat (first | (with_reducible first | exact HB.out | apply ba_ | apply bd_ | apply be_ | refine bs_ ?_ GE117.out) | exact HB.out))) : w.heap.size ≤ gb118)); have n4_ := A_.mk ((by rw [hg]; exact (bz_ (by repeat (first | (with_reducible first | exact HB.out | apply ba_ | apply bd_ | apply be_ | refine bs_ ?_ GE117.out) | exact HB.out))) : w.heap.size ≤ gb118)); have n5_ := A_.mk ((by rw [hg]; exact Nat.ne_of_lt (blk_lt (bY BK117.out)) : gb117 ≠ gb118)); have n6_ := A_.mk ((by rw [hg]; exact Nat.ne_of_gt (blk_lt (bY BK117.out)) : gb118 ≠ gb117)); clear BK117 HB; have BK117 := n0_; have HB := n1_; have BK118 := n2_; have GW118 := n3_; have GE118 := n4_; have NB117_118 := n5_; have NB118_117 := n6_; clear n0_ n1_ n2_ n3_ n4_ n5_ n6_ hb hbox hg) | ((with_reducible refine gd_ (N := 3) rfl ?_); refine by_ 3 (cs := #[.int .i64 0, .int .i64 0, .int .i64 0, .int .i64 0, .int .i64 0, .int .i64 0, .int .i64 0, .slice none 0 0]) (t := 38) ?_; intro gb119 hg w5 hbox hb; have n0_ := A_.mk (bb_ (bY BK117.out) hb); have n1_ := A_.mk (bb_ (bY BK118.out) hb); have n2_ := A_.mk (bt_ (by repeat (first | (with_reducible first | exact HB.out | apply ba_ | apply bd_ | apply be_ | refine bs_ ?_ GE117.out | refine bs_ ?_ GE118.out) | exact HB.out)) hb); have n3_ := A_.mk (hbox); have n4_ := A_.mk ((by rw [hg]; exact (bz_ (by repeat (first | (with_reducible first | exact HB.out | apply ba_ | apply bd_ | apply be_ | refine bs_ ?_ GE117.out | refine bs_ ?_ GE118.out) | exact HB.out))) : w.heap.size ≤ gb119)); have n5_ := A_.mk ((by rw [hg]; exact (bz_ (by repeat (first | (with_reducible first | exact HB.out | apply ba_ | apply bd_ | apply be_ | refine bs_ ?_ GE117.out | refine bs_ ?_ GE118.out) | exact HB.out))) : w.heap.size ≤ gb119)); have n6_ := A_.mk ((by rw [hg]; exact Nat.ne_of_lt (blk_lt (bY BK117.out)) : gb117 ≠ gb119)); have n7_ := A_.mk ((by rw [hg]; exact Nat.ne_of_gt (blk_lt (bY BK117.out)) : gb119 ≠ gb117)); have n8_ := A_.mk ((by rw [hg]; exact Nat.ne_of_lt (blk_lt (bY BK118.out)) : gb118 ≠ gb119)); have n9_ := A_.mk ((by rw [hg]; exact Nat.ne_of_gt (blk_lt (bY BK118.out)) : gb119 ≠ gb118)); clear BK117 BK118 HB; have BK117 := n0_; have BK118 := n1_; have HB := n2_; have BK119 := n3_; have GW119 := n4_; have GE119 := n5_; have NB117_119 := n6_; have NB119_117 := n7_; have NB118_119 := n8_; have NB119_118 := n9_; clear n0_ n1_ n2_ n3_ n4_ n5_ n6_ n7_ n8_ n9_ hb hbox hg; have hnb6 := NB117_118.out; have hnc6 := NB118_117.out; have hnb7 := NB117_119.out; have hnc7 := NB119_117.out; have hcz8_0 : w5.cell? ⟨gb117, 0, none⟩ = some (.int .i64 a0_0) := (bc_ BK117.out 0).trans rfl; have hcz8_1 : w5.cell? ⟨gb117, 1, none⟩ = some (.int .i64 a0_1) := (bc_ BK117.out 1).trans rfl; have hcz8_2 : w5.cell? ⟨gb117, 2, none⟩ = some (.int .i64 a0_2) := (bc_ BK117.out 2).trans rfl; have hcz8_3 : w5.cell? ⟨gb117, 3, none⟩ = some (.int .i64 a0_3) := (bc_ BK117.out 3).trans rfl; have hcz8_4 : w5.cell? ⟨gb117, 4, none⟩ = some (.int .i64 a0_4) := (bc_ BK117.out 4).trans rfl; have hcz8_5 : w5.cell? ⟨gb117, 5, none⟩ = some (.int .i64 a0_5) := (bc_ BK117.out 5).trans rfl; have hcz8_6 : w5.cell? ⟨gb117, 6, none⟩ = some (.int .i64 a0_6) := (bc_ BK117.out 6).trans rfl; have hcz8_7 : w5.cell? ⟨gb117, 7, none⟩ = some (.slice A0_7 l0_7.length c0_7) := (bc_ BK117.out 7).trans rfl; have hfz8_0 := bf_ BK117.out 0; have hfz8_1 := bf_ BK117.out 1; have hfz8_2 := bf_ BK117.out 2; have hfz8_3 := bf_ BK117.out 3; have hfz8_4 := bf_ BK117.out 4; have hfz8_5 := bf_ BK117.out 5; have hfz8_6 := bf_ BK117.out 6; have hfz8_7 := bf_ BK117.out 7; have hnb9 := NB119_118.out; have hnc9 := NB118_119.out; have hcz10_0 : w5.cell? ⟨gb119, 0, none⟩ = some (.int .i64 0) := (bc_ BK119.out 0).trans rfl; have hcz10_1 : w5.cell? ⟨gb119, 1, none⟩ = some (.int .i64 0) := (bc_ BK119.out 1).trans rfl; have hcz10_2 : w5.cell? ⟨gb119, 2, none⟩ = some (.int .i64 0) := (bc_ BK119.out 2).trans rfl; have hcz10_3 : w5.cell? ⟨gb119, 3, none⟩ = some (.int .i64 0) := (bc_ BK119.out 3).trans rfl; have hcz10_4 : w5.cell? ⟨gb119, 4, none⟩ = some (.int .i64 0) := (bc_ BK119.out 4).trans rfl; have hcz10_5 : w5.cell? ⟨gb119, 5, none⟩ = some (.int .i64 0) := (bc_ BK119.out 5).trans rfl; have hcz10_6 : w5.cell? ⟨gb119, 6, none⟩ = some (.int .i64 0) := (bc_ BK119.out 6).trans rfl; have hcz10_7 : w5.cell? ⟨gb119, 7, none⟩ = some (.slice none 0 0) := (bc_ BK119.out 7).trans rfl; have hfz10_0 := bf_ BK119.out 0; have hfz10_1 := bf_ BK119.out 1; have hfz10_2 := bf_ BK119.out 2; have hfz10_3 := bf_ BK119.out 3; have hfz10_4 := bf_ BK119.out 4; have hfz10_5 := bf_ BK119.out 5; have hfz10_6 := bf_ BK119.out 6; have hfz10_7 := bf_ BK119.out 7) | ((with_reducible refine gc_ (f := 67) rfl ?_); refine gl_ (some 27) Try.func67 #[.slice A0_7 l0_7.length c0_7] ?_; (with_reducible refine (laws_toIntS.calls k _ _ l0_7 t120 _ ?side1 ?side2 A2.out).mono ?_); (case side1 => exact Kd.C_below HR0_7.out (by repeat (first | (with_reducible first | exact HB.out | apply ba_ | apply bd_ | apply be_ | refine bs_ ?_ GE117.out | refine bs_ ?_ GE118.out | refine bs_ ?_ GE119.out) | exact HB.out))); (case side2 => exact HC0_7.out); rintro e w11 ⟨v121, rfl, ho0, hb⟩; refine ⟨_, rfl, ?_⟩; have n0_ := A_.mk (Kd.R_lower ho0 (bz_ (by repeat (first | (with_reducible first | exact HB.out | apply ba_ | apply bd_ | apply be_ | refine bs_ ?_ GE117.out | refine bs_ ?_ GE118.out | refine bs_ ?_ GE119.out) | exact HB.out)))); have n1_ := A_.mk (bb_ (g := gb117) (o := .cells #[.int .i64 a0_0, .int .i64 a0_1, .int .i64 a0_2, .int .i64 a0_3, .int .i64 a0_4, .int .i64 a0_5, .int .i64 a0_6, .slice A0_7 l0_7.length c0_7] 47 (0, 0)) (by (repeat apply bX); refine blk_far ?_ NB117_119.out _; (repeat apply bX); refine blk_far ?_ NB117_119.out _; (repeat apply bX); refine blk_far ?_ NB117_119.out _; (repeat apply bX); refine blk_far ?_ NB117_119.out _; (repeat apply bX); refine blk_far ?_ NB117_119.out _; (repeat apply bX); refine blk_far ?_ NB117_119.out _; (repeat apply bX); refine blk_far ?_ NB117_119.out _; (repeat apply bX); exact BK117.out) hb); have n2_ := A_.mk (bb_ (g := gb118) (o := .cells #[.int .i64 0, .int .i64 0, .int .i64 0, .int .i64 0, .int .i64 0, .int .i64 0, .int .i64 0, .slice none 0 0] 38 (0, 0)) (by (repeat apply bX); refine blk_far ?_ NB118_119.out _; (repeat apply bX); refine blk_far ?_ NB118_119.out _; (repeat apply bX); refine blk_far ?_ NB118_119.out _; (repeat apply bX); refine blk_far ?_ NB118_119.out _; (repeat apply bX); refine blk_far ?_ NB118_119.out _; (repeat apply bX); refine blk_far ?_ NB118_119.out _; (repeat apply bX); refine blk_far ?_ NB118_119.out _; (repeat apply bX); exact BK118.out) hb); have n3_ := A_.mk (bb_ (g := gb119) (o := .cells #[.int .i64 a0_0, .int .i64 a0_1, .int .i64 a0_2, .int .i64 a0_3, .int .i64 a0_4, .int .i64 a0_5, .int .i64 a0_6, .slice none 0 0] 38 (0, 0)) (by (repeat apply bX); refine bp_ (cs := #[.int .i64 a0_0, .int .i64 a0_1, .int .i64 a0_2, .int .i64 a0_3, .int .i64 a0_4, .int .i64 a0_5, .int .i64 0, .slice none 0 0]) ?_ 6 _ rfl; (repeat apply bX); refine bp_ (cs := #[.int .i64 a0_0, .int .i64 a0_1, .int .i64 a0_2, .int .i64 a0_3, .int .i64 a0_4, .int .i64 0, .int .i64 0, .slice none 0 0]) ?_ 5 _ rfl; (repeat apply bX); refine bp_ (cs := #[.int .i64 a0_0, .int .i64 a0_1, .int .i64 a0_2, .int .i64 a0_3, .int .i64 0, .int .i64 0, .int .i64 0, .slice none 0 0]) ?_ 4 _ rfl; (repeat apply bX); refine bp_ (cs := #[.int .i64 a0_0, .int .i64 a0_1, .int .i64 a0_2, .int .i64 0, .int .i64 0, .int .i64 0, .int .i64 0, .slice none 0 0]) ?_ 3 _ rfl; (repeat apply bX); refine bp_ (cs := #[.int .i64 a0_0, .int .i64 a0_1, .int .i64 0, .int .i64 0, .int .i64 0, .int .i64 0, .int .i64 0, .slice none 0 0]) ?_ 2 _ rfl; (repeat apply bX); refine bp_ (cs := #[.int .i64 a0_0, .int .i64 0, .int .i64 0, .int .i64 0, .int .i64 0, .int .i64 0, .int .i64 0, .slice none 0 0]) ?_ 1 _ rfl; (repeat apply bX); refine bp_ (cs := #[.int .i64 0, .int .i64 0, .int .i64 0, .int .i64 0, .int .i64 0, .int .i64 0, .int .i64 0, .slice none 0 0]) ?_ 0 _ rfl; (repeat apply bX); exact BK119.out) hb); have n4_ := A_.mk (bt_ (by repeat (first | (with_reducible first | exact HB.out | apply ba_ | apply bd_ | apply be_ | refine bs_ ?_ GE117.out | refine bs_ ?_ GE118.out | refine bs_ ?_ GE119.out) | exact HB.out)) hb); clear BK117 BK118 BK119 HB; have HO122 := n0_; have BK117 := n1_; have BK118 := n2_; have BK119 := n3_; have HB := n4_; clear n0_ n1_ n2_ n3_ n4_; (try clear hb); (try clear hb2); (try clear hk); (try clear hi); (try clear ho0); obtain ⟨Ao12, co12, eo12⟩ := Kd.R_slice HO122.out; subst eo12; have hcz13_0 : w11.cell? ⟨gb119, 0, none⟩ = some (.int .i64 a0_0) := (bc_ BK119.out 0).trans rfl; have hcz13_1 : w11.cell? ⟨gb119, 1, none⟩ = some (.int .i64 a0_1) := (bc_ BK119.out 1).trans rfl; have hcz13_2 : w11.cell? ⟨gb119, 2, none⟩ = some (.int .i64 a0_2) := (bc_ BK119.out 2).trans rfl; have hcz13_3 : w11.cell? ⟨gb119, 3, none⟩ = some (.int .i64 a0_3) := (bc_ BK119.out 3).trans rfl; have hcz13_4 : w11.cell? ⟨gb119, 4, none⟩ = some (.int .i64 a0_4) := (bc_ BK119.out 4).trans rfl; have hcz13_5 : w11.cell? ⟨gb119, 5, none⟩ = some (.int .i64 a0_5) := (bc_ BK119.out 5).trans rfl; have hcz13_6 : w11.cell? ⟨gb119, 6, none⟩ = some (.int .i64 a0_6) := (bc_ BK119.out 6).trans rfl; have hcz13_7 : w11.cell? ⟨gb119, 7, none⟩ = some (.slice none 0 0) := (bc_ BK119.out 7).trans rfl; have hfz13_0 := bf_ BK119.out 0; have hfz13_1 := bf_ BK119.out 1; have hfz13_2 := bf_ BK119.out 2; have hfz13_3 := bf_ BK119.out 3; have hfz13_4 := bf_ BK119.out 4; have hfz13_5 := bf_ BK119.out 5; have hfz13_6 := bf_ BK119.out 6; have hfz13_7 := bf_ BK119.out 7; have hcz14_0 : w11.cell? ⟨gb118, 0, none⟩ = some (.int .i64 0) := (bc_ BK118.out 0).trans rfl; have hcz14_1 : w11.cell? ⟨gb118, 1, none⟩ = some (.int .i64 0) := (bc_ BK118.out 1).trans rfl; have hcz14_2 : w11.cell? ⟨gb118, 2, none⟩ = some (.int .i64 0) := (bc_ BK118.out 2).trans rfl; have hcz14_3 : w11.cell? ⟨gb118, 3, none⟩ = some (.int .i64 0) := (bc_ BK118.out 3).trans rfl; have hcz14_4 : w11.cell? ⟨gb118, 4, none⟩ = some (.int .i64 0) := (bc_ BK118.out 4).trans rfl; have hcz14_5 : w11.cell? ⟨gb118, 5, none⟩ = some (.int .i64 0) := (bc_ BK118.out 5).trans rfl; have hcz14_6 : w11.cell? ⟨gb118, 6, none⟩ = some (.int .i64 0) := (bc_ BK118.out 6).trans rfl; have hcz14_7 : w11.cell? ⟨gb118, 7, none⟩ = some (.slice none 0 0) := (bc_ BK118.out 7).trans rfl; have hfz14_0 := bf_ BK118.out 0; have hfz14_1 := bf_ BK118.out 1; have hfz14_2 := bf_ BK118.out 2; have hfz14_3 := bf_ BK118.out 3; have hfz14_4 := bf_ BK118.out 4; have hfz14_5 := bf_ BK118.out 5; have hfz14_6 := bf_ BK118.out 6; have hfz14_7 := bf_ BK118.out 7))
 refine bodyPost_ret (results_cell_row rfl _ _ gb118 38 #[.int .i64 a0_0, .int .i64 a0_1, .int .i64 a0_2, .int .i64 a0_3, .int .i64 a0_4, .int .i64 a0_5, .int .i64 a0_6, .slice Ao12 t120.length co12] (0, 0) _ rfl (by (repeat apply bX); refine bp_ (cs := #[.int .i64 a0_0, .int .i64 a0_1, .int .i64 a0_2, .int .i64 a0_3, .int .i64 a0_4, .int .i64 a0_5, .int .i64 a0_6, .slice none 0 0]) ?_ 7 _ rfl; (repeat apply bX); refine bp_ (cs := #[.int .i64 a0_0, .int .i64 a0_1, .int .i64 a0_2, .int .i64 a0_3, .int .i64 a0_4, .int .i64 a0_5, .int .i64 0, .slice none 0 0]) ?_ 6 _ rfl; (repeat apply bX); refine bp_ (cs := #[.int .i64 a0_0, .int .i64 a0_1, .int .i64 a0_2, .int .i64 a0_3, .int .i64 a0_4, .int .i64 0, .int .i64 0, .slice none 0 0]) ?_ 5 _ rfl; (repeat apply bX); refine bp_ (cs := #[.int .i64 a0_0, .int .i64 a0_1, .int .i64 a0_2, .int .i64 a0_3, .int .i64 0, .int .i64 0, .int .i64 0, .slice none 0 0]) ?_ 4 _ rfl; (repeat apply bX); refine bp_ (cs := #[.int .i64 a0_0, .int .i64 a0_1, .int .i64 a0_2, .int .i64 0, .int .i64 0, .int .i64 0, .int .i64 0, .slice none 0 0]) ?_ 3 _ rfl; (repeat apply bX); refine bp_ (cs := #[.int .i64 a0_0, .int .i64 a0_1, .int .i64 0, .int .i64 0, .int .i64 0, .int .i64 0, .int .i64 0, .slice none 0 0]) ?_ 2 _ rfl; (repeat apply bX); refine bp_ (cs := #[.int .i64 a0_0, .int .i64 0, .int .i64 0, .int .i64 0, .int .i64 0, .int .i64 0, .int .i64 0, .slice none 0 0]) ?_ 1 _ rfl; (repeat apply bX); refine bp_ (cs := #[.int .i64 0, .int .i64 0, .int .i64 0, .int .i64 0, .int .i64 0, .int .i64 0, .int .i64 0, .slice none 0 0]) ?_ 0 _ rfl; (repeat apply bX); refine blk_far ?_ NB118_119.out _; (repeat apply bX); exact BK118.out) Try.underlying38 rfl (by kernel_rfl)) rfl ?_
 exact ⟨_, by first | rfl | (simp [errW_none, errW_some] <;> rfl) | (simp [*, errW_none, errW_some] <;> rfl), by (repeat apply rX); exact Kd.R_mono (Kd.R_far (p := ⟨gb118, 7, none⟩) (Kd.R_far (p := ⟨gb118, 6, none⟩) (Kd.R_far (p := ⟨gb118, 5, none⟩) (Kd.R_far (p := ⟨gb118, 4, none⟩) (Kd.R_far (p := ⟨gb118, 3, none⟩) (Kd.R_far (p := ⟨gb118, 2, none⟩) (Kd.R_far (p := ⟨gb118, 1, none⟩) (Kd.R_far (p := ⟨gb118, 0, none⟩) (Kd.R_far (p := ⟨gb119, 7, none⟩) (Kd.R_types (Kd.R_types HO122.out BK119.out (by decide)) BK118.out (by decide)) (fun _ hk => hk.1.2) (.slice Ao12 t120.length co12)) (fun _ hk => hk.2) (.int .i64 a0_0)) (fun _ hk => hk.2) (.int .i64 a0_1)) (fun _ hk => hk.2) (.int .i64 a0_2)) (fun _ hk => hk.2) (.int .i64 a0_3)) (fun _ hk => hk.2) (.int .i64 a0_4)) (fun _ hk => hk.2) (.int .i64 a0_5)) (fun _ hk => hk.2) (.int .i64 a0_6)) (fun _ hk => hk.2) (.slice Ao12 t120.length co12)) (fun _ hk => trivial), by repeat (first | (with_reducible first | exact HB.out | apply ba_ | apply bd_ | apply be_ | refine bs_ ?_ GE117.out | refine bs_ ?_ GE118.out | refine bs_ ?_ GE119.out) | exact HB.out)⟩
/-! ### laws_toPacketS: function 39 -/
def laws_toPacketS.l0 : Nat → List (S47) → List (S38) → Int → Option ((List (S38)))
 | 0, _, _, _ => none
 | k + 1, x0, x3, x4 => if x4 < (x0.length : Int) then (if 0 ≤ x4 then ((laws_toPacket.f k ((rd_T47 x0 x4).f0) ((rd_T47 x0 x4).f1) ((rd_T47 x0 x4).f2) ((rd_T47 x0 x4).f3) ((rd_T47 x0 x4).f4) ((rd_T47 x0 x4).f5) ((rd_T47 x0 x4).f6) ((rd_T47 x0 x4).f7)).bind fun bt127 => (if x4 < (x3.length : Int) then (laws_toPacketS.l0 k x0 (x3.set (x4 : Int).toNat (⟨bt127.1, bt127.2.1, bt127.2.2.1, bt127.2.2.2.1, bt127.2.2.2.2.1, bt127.2.2.2.2.2.1, bt127.2.2.2.2.2.2.1, bt127.2.2.2.2.2.2.2⟩ : S38)) (wrap64 (x4 + 1))) else (none))) else (none)) else (some x3)
def laws_toPacketS.f (k : Nat) (l0 : List (S47)) : Option ((List (S38))) := if 0 ≤ (l0.length : Int) then (if ((l0.length : Int) : Int).toNat ≤ 3518437208883 then (laws_toPacketS.l0 k l0 (List.replicate ((l0.length : Int) : Int).toNat z38) 0) else (none)) else (none)
set_option maxHeartbeats 8000000 in
set_option maxRecDepth 100000 in
theorem laws_toPacketS.calls (k : Nat) (A0 : Option Addr) (c0 : Nat) (l0 : List (S47)) (r : List (S38)) (w : World) (hr0 : Kd.C k47 w A0 l0.length l0) (hc0 : l0.length ≤ c0) (h : laws_toPacketS.f k l0 = some r) :
  Calls Try.prog 39 #[.slice A0 l0.length c0] w fun e w' => ∃ v0_ : Value, e = .returned (v0_) ∧ Kd.S k38 38 w' w.heap.size (fun _ => True) v0_ r ∧ Below w.heap.size w w' := by
 have hu47 := Try.underlying47
 have hu38 := Try.underlying38
 have HR0 := A_.mk hr0
 have HC0 := A_.mk hc0
 clear hr0 hc0
 have HB := A_.mk (Below.refl w.heap.size w)
 have H : (if 0 ≤ (l0.length : Int) then (if ((l0.length : Int) : Int).toNat ≤ 3518437208883 then (laws_toPacketS.l0 k l0 (List.replicate ((l0.length : Int) : Int).toNat z38) 0) else (none)) else (none)) = some r := h
 clear h
 by_cases c2 : 0 ≤ (l0.length : Int)
 rotate_left
 ·rw [if_neg c2] at H
  exact absurd H (by simp)
 rw [if_pos c2] at H
 have c2b0 := eq_true c2
 have c2b1 : decide (0 ≤ (l0.length : Int)) = true := decide_eq_true c2
 clear c2
 by_cases c3 : ((l0.length : Int) : Int).toNat ≤ 3518437208883
 rotate_left
 ·rw [if_neg c3] at H
  exact absurd H (by simp)
 rw [if_pos c3] at H
 have c3b0 := eq_true c3
 have c3b1 : decide (((l0.length : Int) : Int).toNat ≤ 3518437208883) = true := decide_eq_true c3
 clear c3
 obtain ⟨y123, hy123⟩ : ∃ y_ : List (S38), y_ = (List.replicate ((l0.length : Int) : Int).toNat z38) := ⟨_, rfl⟩
 replace H : (laws_toPacketS.l0 k l0 y123 0) = some r := by first | (rw [hy123]; with_reducible exact H) | (have H2_ := (Option.bind_some _ _).symm.trans H; rw [hy123]; with_reducible exact H2_) | (have H2_ := (Option.bind_some _ _).symm.trans H; with_reducible exact H2_) | with_reducible exact H | (rw [hy123]; exact H) | exact H
 have Ny123 := A_.mk hy123
 clear hy123
 have H' := A_.mk H
 clear H
 go_enter Try.func39, Try.ntmps39
 go_wp2_with (first | ((with_reducible refine gd_ (N := 7) rfl ?_); refine Kd.S_make k38 _ 38 rfl (N := 7) rfl 31 _ _ rfl (l0.length : Int) rfl rfl Try.underlying31 (.agg #[(.int .i64 0), (.int .i64 0), (.int .i64 0), (.int .i64 0), (.int .i64 0), (.int .i64 0), (.int .i64 0), (.slice none 0 0)]) 80 info38 rfl (by decide) (by omega) z38 (ok := fun _ => True) (okp := fun _ => True) (k38_mkM _ _ _ z38 (Kd.R_nil _ _ _ _ _)) (fun _ hk => hk) trivial (od_) (Nat.le_trans (Nat.mul_le_mul_right _ (od_ : (l0.length : Int).toNat ≤ 3518437208883)) (by omega)) (Below.refl _ _) (Nat.le_refl _) ?_; intro v124 w4 ho5 hb hg_ hnew_; clear hg_ hnew_; (first | rw [← Ny123.out] at ho5 | (simp only [Int.reduceToNat] at ho5; rw [← Ny123.out] at ho5)); have n0_ := A_.mk (Kd.S_lower ho5 (bz_ (beY HB.out))); have n1_ := A_.mk (bt_ (beY HB.out) hb); clear HB; have HO125 := n0_; have HB := n1_; clear n0_ n1_ hb ho5))
 go_loopg [4] k (fun kq v4 w' => ∃ (x3_1 : List (S38)) (x4_1 : Int), v4 = .int .i64 x4_1 ∧ A_ (laws_toPacketS.l0 kq l0 x3_1 x4_1 = some r) ∧ A_ (kq ≤ k) ∧ A_ (Kd.S k38 38 w' w.heap.size (fun _ => True) v124 x3_1) ∧ A_ (Below w.heap.size w w'))
 case atStart => exact ⟨(y123), (0), (by first | rfl | (simp; done) | (simp [*]; done)), H', ⟨Nat.le_refl _⟩, ⟨by (with_reducible repeat (first | apply Kd.S_alloc | apply Kd.S_drewN | apply Kd.S_drew)); exact HO125.out⟩, ⟨beY HB.out⟩⟩
 case round =>
  clear H'
  obtain ⟨x3_1, x4_1, rfl, HA, HK1, HO_3, HB⟩ := hrel
  cases gk with
  | zero => exact absurd HA.out (by simp [laws_toPacketS.l0])
  | succ k1 =>
   have H := HA.out
   clear HA
   simp only [laws_toPacketS.l0] at H
   by_cases c6 : x4_1 < (l0.length : Int)
   rotate_left
   ·rw [if_neg c6] at H
    have c6b0 : decide (x4_1 < (l0.length : Int)) = false := decide_eq_false c6
    clear c6
    obtain rfl := Option.some.inj H
    go_wp2
    go_ret
    exact ⟨_, by first | rfl | (simp [errW_none, errW_some] <;> rfl) | (simp [*, errW_none, errW_some] <;> rfl), by (with_reducible repeat (first | apply Kd.S_alloc | apply Kd.S_drewN | apply Kd.S_drew)); exact HO_3.out, beY HB.out⟩
   rw [if_pos c6] at H
   have c6b0 : decide (x4_1 < (l0.length : Int)) = true := decide_eq_true c6
   clear c6
   by_cases c7 : 0 ≤ x4_1
   rotate_left
   ·rw [if_neg c7] at H
    exact absurd H (by simp)
   rw [if_pos c7] at H
   have c7b0 : decide (0 ≤ x4_1) = true := decide_eq_true c7
   clear c7
   replace H := ob_ H
   obtain ⟨⟨t127, t128, t129, t130, t131, t132, t133, t134⟩, A80, H⟩ := H
   replace H : (if x4_1 < (x3_1.length : Int) then (laws_toPacketS.l0 k1 l0 (x3_1.set (x4_1 : Int).toNat (⟨t127, t128, t129, t130, t131, t132, t133, t134⟩ : S38)) (wrap64 (x4_1 + 1))) else (none)) = some r := H
   have A8 := A_.mk A80
   clear A80
   by_cases c9 : x4_1 < (x3_1.length : Int)
   rotate_left
   ·rw [if_neg c9] at H
    exact absurd H (by simp)
   rw [if_pos c9] at H
   have c9b0 : decide (x4_1 < (x3_1.length : Int)) = true := decide_eq_true c9
   clear c9
   obtain ⟨y137, hy137⟩ : ∃ y_ : List (S38), y_ = (x3_1.set (x4_1 : Int).toNat (⟨t127, t128, t129, t130, t131, t132, t133, t134⟩ : S38)) := ⟨_, rfl⟩
   replace H : (laws_toPacketS.l0 k1 l0 y137 (wrap64 (x4_1 + 1))) = some r := by first | (rw [hy137]; with_reducible exact H) | (have H2_ := (Option.bind_some _ _).symm.trans H; rw [hy137]; with_reducible exact H2_) | (have H2_ := (Option.bind_some _ _).symm.trans H; with_reducible exact H2_) | with_reducible exact H | (rw [hy137]; exact H) | exact H
   have Ny137 := A_.mk hy137
   clear hy137
   have H' := A_.mk H
   clear H
   have p126 : 0 ≤ (x4_1 : Int) := od_
   have q126 : x4_1 < (l0.length : Int) := od_
   obtain ⟨ad126, A126_7, c126_7, e126, hx126_0, hx126_1, hx126_2, hx126_3, hx126_4, hx126_5, hx126_6, hx126_7, hl126_7, hi126_7⟩ := at_T47 HR0.out x4_1 p126 q126
   cases e126
   replace hx126_0 := (HB.out.cell (wl_ w _ hx126_0)).trans hx126_0
   replace hx126_1 := (HB.out.cell (wl_ w _ hx126_1)).trans hx126_1
   replace hx126_2 := (HB.out.cell (wl_ w _ hx126_2)).trans hx126_2
   replace hx126_3 := (HB.out.cell (wl_ w _ hx126_3)).trans hx126_3
   replace hx126_4 := (HB.out.cell (wl_ w _ hx126_4)).trans hx126_4
   replace hx126_5 := (HB.out.cell (wl_ w _ hx126_5)).trans hx126_5
   replace hx126_6 := (HB.out.cell (wl_ w _ hx126_6)).trans hx126_6
   replace hx126_7 := (HB.out.cell (wl_ w _ hx126_7)).trans hx126_7
   have HR126_7 := A_.mk hi126_7
   have HC126_7 := A_.mk hl126_7
   clear hi126_7 hl126_7
   replace p126 := eq_true p126
   replace q126 := eq_true q126
   go_wp2_with (first | ((with_reducible refine gc_ (f := 24) rfl ?_); refine gl_ (some 20) Try.func24 #[.agg #[.int .i64 ((rd_T47 l0 x4_1).f0), .int .i64 ((rd_T47 l0 x4_1).f1), .int .i64 ((rd_T47 l0 x4_1).f2), .int .i64 ((rd_T47 l0 x4_1).f3), .int .i64 ((rd_T47 l0 x4_1).f4), .int .i64 ((rd_T47 l0 x4_1).f5), .int .i64 ((rd_T47 l0 x4_1).f6), .slice A126_7 ((rd_T47 l0 x4_1).f7).length c126_7]] ?_; (with_reducible refine (laws_toPacket.calls k1 ((rd_T47 l0 x4_1).f0) ((rd_T47 l0 x4_1).f1) ((rd_T47 l0 x4_1).f2) ((rd_T47 l0 x4_1).f3) ((rd_T47 l0 x4_1).f4) ((rd_T47 l0 x4_1).f5) ((rd_T47 l0 x4_1).f6) _ _ ((rd_T47 l0 x4_1).f7) t127 t128 t129 t130 t131 t132 t133 t134 _ ?side1 ?side2 A8.out).mono ?_); (case side1 => exact cY ((Kd.C_below HR126_7.out HB.out))); (case side2 => exact HC126_7.out); rintro e w11 ⟨v135, rfl, ho0, hb⟩; refine ⟨_, rfl, ?_⟩; have n0_ := A_.mk (Kd.S_elder' (by (with_reducible repeat (first | apply Kd.S_alloc | apply Kd.S_drewN | apply Kd.S_drew)); exact HO_3.out) (Kd.R_base ho0) hb); have n1_ := A_.mk (Kd.R_lower ho0 (bz_ (beY HB.out))); have n2_ := A_.mk (bt_ (beY HB.out) hb); clear HO_3 HB; have HO_3 := n0_; have HO136 := n1_; have HB := n2_; clear n0_ n1_ n2_; (try clear hb); (try clear hb2); (try clear hk); (try clear hi); (try clear ho0); have p10 : 0 ≤ (x4_1 : Int) := od_; have q10 : (x4_1 : Int) < ((x3_1.length : Int) : Int) := od_; obtain ⟨go10, co10, eo10, gb10, gl10, cl10, HG10⟩ := Kd.S_form HO_3.out (by omega); (first | cases eo10 | (injection eo10 with ea_ en_ ec_; (first | subst ea_ | (injection ea_ with ea_; subst ea_)); subst ec_; clear en_)); have GB10 := A_.mk gb10; have GG10 := A_.mk HG10; clear gb10 gl10 HG10; obtain ⟨_, ce10, hcl10, hM10, hcc10, hfr10, _, _⟩ := Kd.S_elem HO_3.out z38 (x4_1 : Int) p10 q10; obtain ⟨ve10_7, rfl, ge10_7⟩ := k38_openM hM10; have hx10_0 : w11.cell? ⟨go10, (x4_1 : Int).toNat * 8, none⟩ = some (.int .i64 ((rd_T38 x3_1 x4_1).f0)) := hcc10 0 _ rfl; have hx10_1 : w11.cell? ⟨go10, (x4_1 : Int).toNat * 8 + 1, none⟩ = some (.int .i64 ((rd_T38 x3_1 x4_1).f1)) := hcc10 1 _ rfl; have hx10_2 : w11.cell? ⟨go10, (x4_1 : Int).toNat * 8 + 2, none⟩ = some (.int .i64 ((rd_T38 x3_1 x4_1).f2)) := hcc10 2 _ rfl; have hx10_3 : w11.cell? ⟨go10, (x4_1 : Int).toNat * 8 + 3, none⟩ = some (.int .i64 ((rd_T38 x3_1 x4_1).f3)) := hcc10 3 _ rfl; have hx10_4 : w11.cell? ⟨go10, (x4_1 : Int).toNat * 8 + 4, none⟩ = some (.int .i64 ((rd_T38 x3_1 x4_1).f4)) := hcc10 4 _ rfl; have hx10_5 : w11.cell? ⟨go10, (x4_1 : Int).toNat * 8 + 5, none⟩ = some (.int .i64 ((rd_T38 x3_1 x4_1).f5)) := hcc10 5 _ rfl; have hx10_6 : w11.cell? ⟨go10, (x4_1 : Int).toNat * 8 + 6, none⟩ = some (.int .i64 ((rd_T38 x3_1 x4_1).f6)) := hcc10 6 _ rfl; have hx10_7 : w11.cell? ⟨go10, (x4_1 : Int).toNat * 8 + 7, none⟩ = some (ve10_7) := hcc10 7 _ rfl; have hf10_0 : w11.frozen? ⟨go10, (x4_1 : Int).toNat * 8, none⟩ = false := hfr10 0; have hf10_1 : w11.frozen? ⟨go10, (x4_1 : Int).toNat * 8 + 1, none⟩ = false := hfr10 1; have hf10_2 : w11.frozen? ⟨go10, (x4_1 : Int).toNat * 8 + 2, none⟩ = false := hfr10 2; have hf10_3 : w11.frozen? ⟨go10, (x4_1 : Int).toNat * 8 + 3, none⟩ = false := hfr10 3; have hf10_4 : w11.frozen? ⟨go10, (x4_1 : Int).toNat * 8 + 4, none⟩ = false := hfr10 4; have hf10_5 : w11.frozen? ⟨go10, (x4_1 : Int).toNat * 8 + 5, none⟩ = false := hfr10 5; have hf10_6 : w11.frozen? ⟨go10, (x4_1 : Int).toNat * 8 + 6, none⟩ = false := hfr10 6; have hf10_7 : w11.frozen? ⟨go10, (x4_1 : Int).toNat * 8 + 7, none⟩ = false := hfr10 7; clear hcl10 hcc10 hfr10; (try clear hM10); replace p10 := eq_true p10; replace q10 := eq_true q10; have n_ := A_.mk (Kd.S_mono (ok' := (fun k_ => some k_ ≠ (v135 : Value).ownBlock)) HO_3.out (fun k_ hk => hk.2)); clear HO_3; have HO_3 := n_; clear n_; have HX12 := A_.mk (show Kd.S k38 38 w11 w.heap.size (fun k_ => ((fun _ => True)) k_ ∧ ¬ ((fun k_ => some k_ = (v135 : Value).ownBlock)) k_) (.slice (some ⟨go10, 0, none⟩) x3_1.length co10) x3_1 from (by (with_reducible repeat (first | apply Kd.S_alloc | apply Kd.S_drewN | apply Kd.S_drew)); exact Kd.S_mono HO_3.out (fun k_ hk => ⟨trivial, fun e_ => hk e_⟩))); obtain ⟨oki12, ce12, hcl12, hM12, hcc12, hfr12, hoki12, hH12⟩ := Kd.S_elem HX12.out z38 (x4_1 : Int) (od_) (by have h_ : (x4_1 : Int) < ((x3_1.length : Int) : Int) := od_; first | exact h_ | (have e_ := (Kd.S_reads' HO_3.out).1; omega) | simpa using h_); obtain ⟨ve12_7, rfl, ge12_7⟩ := k38_openM hM12; have HP12 := Kd.S_seg hH12 (od_) (by have h_ : (x4_1 : Int) < ((x3_1.length : Int) : Int) := od_; first | exact h_ | (have e_ := (Kd.S_reads' HO_3.out).1; omega) | simpa using h_) (seg := [.int .i64 t127, .int .i64 t128, .int .i64 t129, .int .i64 t130, .int .i64 t131, .int .i64 t132, .int .i64 t133, v135]) (j := 0) (show 8 ≤ 8 from by decide) (x' := (⟨t127, t128, t129, t130, t131, t132, t133, t134⟩ : S38)) (k38_mkM _ _ _ (⟨t127, t128, t129, t130, t131, t132, t133, t134⟩ : S38) (Kd.R_mono (Kd.R_tight rfl (Kd.R_mono (ok' := fun k_ => ((fun _ => True)) k_ ∧ k_ ≠ go10) (Kd.R_apart' (HO136.out) (Kd.S_typed HO_3.out) (by decide)) (fun k_ hk => ⟨trivial, fun e_ => (hk.2) (by rw [e_]; rfl)⟩))) (fun _ h_ => Or.inr (h_)))) (fun _ hk => hk) (fun k_ hk_ => ((Kd.R_mono (ok' := fun k_ => ((fun _ => True)) k_ ∧ k_ ≠ go10) (Kd.R_apart' (HO136.out) (Kd.S_typed HO_3.out) (by decide)) (fun k_ hk => ⟨trivial, fun e_ => (hk.2) (by rw [e_]; rfl)⟩))).1 k_ hk_.symm); have hx12_0 := hcc12 0 _ rfl; (try simp only [show (k38).sz = 8 from rfl, Nat.mul_one, Nat.add_zero] at hx12_0); have hf12_0 := hfr12 0; (try simp only [show (k38).sz = 8 from rfl, Nat.mul_one, Nat.add_zero] at hf12_0); have hx12_1 := hcc12 1 _ rfl; (try simp only [show (k38).sz = 8 from rfl, Nat.mul_one, Nat.add_zero] at hx12_1); have hf12_1 := hfr12 1; (try simp only [show (k38).sz = 8 from rfl, Nat.mul_one, Nat.add_zero] at hf12_1); have hx12_2 := hcc12 2 _ rfl; (try simp only [show (k38).sz = 8 from rfl, Nat.mul_one, Nat.add_zero] at hx12_2); have hf12_2 := hfr12 2; (try simp only [show (k38).sz = 8 from rfl, Nat.mul_one, Nat.add_zero] at hf12_2); have hx12_3 := hcc12 3 _ rfl; (try simp only [show (k38).sz = 8 from rfl, Nat.mul_one, Nat.add_zero] at hx12_3); have hf12_3 := hfr12 3; (try simp only [show (k38).sz = 8 from rfl, Nat.mul_one, Nat.add_zero] at hf12_3); have hx12_4 := hcc12 4 _ rfl; (try simp only [show (k38).sz = 8 from rfl, Nat.mul_one, Nat.add_zero] at hx12_4); have hf12_4 := hfr12 4; (try simp only [show (k38).sz = 8 from rfl, Nat.mul_one, Nat.add_zero] at hf12_4); have hx12_5 := hcc12 5 _ rfl; (try simp only [show (k38).sz = 8 from rfl, Nat.mul_one, Nat.add_zero] at hx12_5); have hf12_5 := hfr12 5; (try simp only [show (k38).sz = 8 from rfl, Nat.mul_one, Nat.add_zero] at hf12_5); have hx12_6 := hcc12 6 _ rfl; (try simp only [show (k38).sz = 8 from rfl, Nat.mul_one, Nat.add_zero] at hx12_6); have hf12_6 := hfr12 6; (try simp only [show (k38).sz = 8 from rfl, Nat.mul_one, Nat.add_zero] at hf12_6); have hx12_7 := hcc12 7 _ rfl; (try simp only [show (k38).sz = 8 from rfl, Nat.mul_one, Nat.add_zero] at hx12_7); have hf12_7 := hfr12 7; (try simp only [show (k38).sz = 8 from rfl, Nat.mul_one, Nat.add_zero] at hf12_7); clear hcl12 hcc12 hfr12; (try clear hM12); (try clear hoki12); (try clear hH12)) | ((with_reducible refine gs_ (t := 38) (p := 21) rfl ?_); refine se_ (t := 38) (p := 21) (v := ?vo_w13) (w1 := ((((((((w11.setCell ⟨go10, (x4_1 : Int).toNat * 8, none⟩ (.int .i64 t127)).setCell ⟨go10, (x4_1 : Int).toNat * 8 + 1, none⟩ (.int .i64 t128)).setCell ⟨go10, (x4_1 : Int).toNat * 8 + 2, none⟩ (.int .i64 t129)).setCell ⟨go10, (x4_1 : Int).toNat * 8 + 3, none⟩ (.int .i64 t130)).setCell ⟨go10, (x4_1 : Int).toNat * 8 + 4, none⟩ (.int .i64 t131)).setCell ⟨go10, (x4_1 : Int).toNat * 8 + 5, none⟩ (.int .i64 t132)).setCell ⟨go10, (x4_1 : Int).toNat * 8 + 6, none⟩ (.int .i64 t133)).setCell ⟨go10, (x4_1 : Int).toNat * 8 + 7, none⟩ (v135))) ?hg ?ho ?hn ?hr ?_; (case ho => rfl); (case hg => rfl); (case hn => rfl); (case hr => first | (go_simp; done) | (go_simp; rfl) | ((obtain ⟨_, _, es_⟩ := Kd.R_slice HO136.out; subst es_); first | (go_simp; done) | (go_simp; rfl))); intro w13 hw; have hg : w11.grownBy w13 (some go10) := (by rw [hw]; exact HP12.2); have hp_ : Kd.S k38 38 w13 w.heap.size (fun _ => True) (.slice (some ⟨go10, 0, none⟩) x3_1.length co10) y137 := (by rw [hw, Ny137.out]; exact HP12.1); clear HP12; have n0_ := A_.mk (hp_); have n1_ := A_.mk ((by rw [hw]; exact bs_ (bs_ (bs_ (bs_ (bs_ (bs_ (bs_ (bs_ (HB.out) GB10.out) GB10.out) GB10.out) GB10.out) GB10.out) GB10.out) GB10.out) GB10.out : Below w.heap.size w w13)); clear HO_3 HB HO136; have HO_3 := n0_; have HB := n1_; clear n0_ n1_ hg hw hp_))
   go_roundg k1
   case measure => have := HK1.out; omega
   case rel => exact ⟨(y137), (wrap64 (x4_1 + 1)), (by first | rfl | (simp; done) | (simp [*]; done)), H', ⟨by have := HK1.out; omega⟩, ⟨by (with_reducible repeat (first | apply Kd.S_alloc | apply Kd.S_drewN | apply Kd.S_drew)); exact HO_3.out⟩, ⟨beY HB.out⟩⟩
end Go.Proofs.Ytlombfmebinjbaa.PFnExactTellCredits
