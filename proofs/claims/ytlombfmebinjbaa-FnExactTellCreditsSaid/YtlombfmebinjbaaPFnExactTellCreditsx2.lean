-- Written by a program of this session (wip/xp): not trusted, Lean checks it.
import Derived.Test.YtlombfmebinjbaaPFnExactTellCreditsx0
import Derived.Test.YtlombfmebinjbaaPFnExactTellCreditsx1
namespace Go.Proofs.Ytlombfmebinjbaa.PFnExactTellCredits
open Go.RowKit Go.Proofs.YtlombfmebinjbaaW.PrintWords Go.Proofs.YtlombfmebinjbaaW.PrintLast Go.Proofs.YtlombfmebinjbaaW.PrintMore
attribute [local go_sem] max2_int min2_int max_two min_two max_three min_three max_four min_four   -- for this text's walks alone
set_option linter.unusedVariables false
set_option linter.unusedSimpArgs false

/-! ### laws_toChannel: function 10, its calls in a row -/
def laws_toChannel.f (k : Nat) (l0_0 : List Int) (l0_1 : List Int) (l0_2 : List Int) (l0_3 : List Int) (l0_4 : List (S47)) (l0_5 : List (S47)) : Option ((List Int) × (List Int) × (List Int) × (List Int) × (List (S38)) × (List (S38))) := ((laws_toCredits.f k l0_0 l0_1).bind fun ⟨t1, t2⟩ => ((laws_toCredits.f k l0_2 l0_3).bind fun ⟨t3, t4⟩ => ((laws_toPacketS.f k l0_4).bind fun t5 => ((laws_toPacketS.f k l0_5).bind fun t6 => (some (t1, t2, t3, t4, t5, t6))))))
set_option maxHeartbeats 8000000 in
set_option maxRecDepth 100000 in
theorem laws_toChannel.calls (k : Nat) (A0_0 : Option Addr) (c0_0 : Nat) (l0_0 : List Int) (A0_1 : Option Addr) (c0_1 : Nat) (l0_1 : List Int) (A0_2 : Option Addr) (c0_2 : Nat) (l0_2 : List Int) (A0_3 : Option Addr) (c0_3 : Nat) (l0_3 : List Int) (A0_4 : Option Addr) (c0_4 : Nat) (l0_4 : List (S47)) (A0_5 : Option Addr) (c0_5 : Nat) (l0_5 : List (S47)) (r1 : List Int) (r2 : List Int) (r3 : List Int) (r4 : List Int) (r5 : List (S38)) (r6 : List (S38)) (w : World) (hr0_0 : Kd.C (Kd.int .i64) w A0_0 l0_0.length l0_0) (hc0_0 : l0_0.length ≤ c0_0) (hr0_1 : Kd.C (Kd.int .i64) w A0_1 l0_1.length l0_1) (hc0_1 : l0_1.length ≤ c0_1) (hr0_2 : Kd.C (Kd.int .i64) w A0_2 l0_2.length l0_2) (hc0_2 : l0_2.length ≤ c0_2) (hr0_3 : Kd.C (Kd.int .i64) w A0_3 l0_3.length l0_3) (hc0_3 : l0_3.length ≤ c0_3) (hr0_4 : Kd.C k47 w A0_4 l0_4.length l0_4) (hc0_4 : l0_4.length ≤ c0_4) (hr0_5 : Kd.C k47 w A0_5 l0_5.length l0_5) (hc0_5 : l0_5.length ≤ c0_5) (h : laws_toChannel.f k l0_0 l0_1 l0_2 l0_3 l0_4 l0_5 = some (r1, r2, r3, r4, r5, r6)) :
  Calls Try.prog 10 #[.agg #[.slice A0_0 l0_0.length c0_0, .slice A0_1 l0_1.length c0_1, .slice A0_2 l0_2.length c0_2, .slice A0_3 l0_3.length c0_3, .slice A0_4 l0_4.length c0_4, .slice A0_5 l0_5.length c0_5]] w fun e w' => ∃ f_ : Nat → Nat, ∃ v0_ v1_ v2_ v3_ v4_ v5_ : Value, e = .returned (.agg #[v0_, v1_, v2_, v3_, v4_, v5_]) ∧ Kd.R (Kd.int .i64) 3 w' w.heap.size (fun k_ => f_ k_ = 0) v0_ r1 ∧ Kd.R (Kd.int .i64) 3 w' w.heap.size (fun k_ => f_ k_ = 1) v1_ r2 ∧ Kd.R (Kd.int .i64) 3 w' w.heap.size (fun k_ => f_ k_ = 2) v2_ r3 ∧ Kd.R (Kd.int .i64) 3 w' w.heap.size (fun k_ => f_ k_ = 3) v3_ r4 ∧ Kd.S k38 38 w' w.heap.size (fun k_ => f_ k_ = 4) v4_ r5 ∧ Kd.S k38 38 w' w.heap.size (fun k_ => f_ k_ = 5) v5_ r6 ∧ Below w.heap.size w w' := by
 have HR0_0 := A_.mk hr0_0
 have HC0_0 := A_.mk hc0_0
 clear hr0_0 hc0_0
 have HR0_1 := A_.mk hr0_1
 have HC0_1 := A_.mk hc0_1
 clear hr0_1 hc0_1
 have HR0_2 := A_.mk hr0_2
 have HC0_2 := A_.mk hc0_2
 clear hr0_2 hc0_2
 have HR0_3 := A_.mk hr0_3
 have HC0_3 := A_.mk hc0_3
 clear hr0_3 hc0_3
 have HR0_4 := A_.mk hr0_4
 have HC0_4 := A_.mk hc0_4
 clear hr0_4 hc0_4
 have HR0_5 := A_.mk hr0_5
 have HC0_5 := A_.mk hc0_5
 clear hr0_5 hc0_5
 have HB := A_.mk (Below.refl w.heap.size w)
 unfold laws_toChannel.f at h
 have H := h
 clear h
 replace H := oa_ H
 obtain ⟨⟨t1, t2⟩, A4, H⟩ := H
 try dsimp only at H
 replace H := oa_ H
 obtain ⟨⟨t3, t4⟩, A6, H⟩ := H
 try dsimp only at H
 replace H := oa_ H
 obtain ⟨t5, A8, H⟩ := H
 replace H := oa_ H
 obtain ⟨t6, A10, H⟩ := H
 simp only [Option.some.injEq, Prod.mk.injEq] at H
 obtain ⟨rfl, rfl, rfl, rfl, rfl, rfl⟩ := H
 have hu27 := Try.underlying27
 have hu33 := Try.underlying33
 go_enter Try.func10, Try.ntmps10
 have HS := A_.mk (Nat.le_refl w.heap.size)
 go_wp2_with (first | ((with_reducible refine gd_ (N := 1) rfl ?_); refine by_ 1 (cs := #[.slice A0_0 l0_0.length c0_0, .slice A0_1 l0_1.length c0_1, .slice A0_2 l0_2.length c0_2, .slice A0_3 l0_3.length c0_3, .slice A0_4 l0_4.length c0_4, .slice A0_5 l0_5.length c0_5]) (t := 27) ?_; intro gb1_ hg w1_ hbox hb; replace HS := A_.mk (And.intro HS.out (show gb1_ = w.heap.size ∧ gb1_ < w1_.heap.size from ⟨hg, blk_lt hbox⟩)); replace HB := aHB HB hb; have BK1 := A_.mk hbox; clear hbox hb hg; have Q1 := blk6_ BK1.out) | ((with_reducible refine gd_ (N := 2) rfl ?_); refine by_ 2 (cs := #[.slice none 0 0, .slice none 0 0, .slice none 0 0, .slice none 0 0, .slice none 0 0, .slice none 0 0]) (t := 33) ?_; intro gb2_ hg w2_ hbox hb; replace HS := A_.mk (And.intro HS.out (show gb2_ = w1_.heap.size ∧ gb2_ < w2_.heap.size from ⟨hg, blk_lt hbox⟩)); replace BK1 := aBb BK1 hb; replace HB := aHB HB hb; have BK2 := A_.mk hbox; clear hbox hb hg Q1; have Q1 := blk6_ BK1.out; have Q2 := blk6_ BK2.out) | ((with_reducible refine gd_ (N := 3) rfl ?_); refine by_ 3 (cs := #[.slice none 0 0, .slice none 0 0, .slice none 0 0, .slice none 0 0, .slice none 0 0, .slice none 0 0]) (t := 33) ?_; intro gb3_ hg w3_ hbox hb; replace HS := A_.mk (And.intro HS.out (show gb3_ = w2_.heap.size ∧ gb3_ < w3_.heap.size from ⟨hg, blk_lt hbox⟩)); replace BK1 := aBb BK1 hb; replace BK2 := aBb BK2 hb; replace HB := aHB HB hb; have BK3 := A_.mk hbox; clear hbox hb hg Q1 Q2; have Q1 := blk6_ BK1.out; have Q2 := blk6_ BK2.out; have Q3 := blk6_ BK3.out) | ((with_reducible refine gc_ (f := 38) rfl ?_); refine gl_ (some 6) Try.func38 #[.agg #[.slice A0_0 l0_0.length c0_0, .slice A0_1 l0_1.length c0_1]] ?_; (with_reducible refine (laws_toCredits.calls k _ _ l0_0 _ _ l0_1 t1 t2 _ (Kd.C_below HR0_0.out HB.out) HC0_0.out (Kd.C_below HR0_1.out HB.out) HC0_1.out A4.out).mono ?_); rintro e w4_ ⟨v0_, v1_, rfl, ho0_, ho1_, hb⟩; refine ⟨_, rfl, ?_⟩; obtain ⟨f4_, hn0_, hn1_⟩ := two_col ho0_ ho1_; clear ho0_ ho1_; replace HS := aHs HS hb.size; obtain ⟨Ao4_0, co4_0, ev_⟩ := Kd.R_slice hn0_; subst ev_; have HO4_0 := aRn hn0_ HB.out.size; obtain ⟨Ao4_1, co4_1, ev_⟩ := Kd.R_slice hn1_; subst ev_; have HO4_1 := aRn hn1_ HB.out.size; replace BK1 := aBb BK1 hb; replace BK2 := aBb BK2 hb; replace BK3 := aBb BK3 hb; replace HB := aHB HB hb; clear hb hn0_ hn1_ Q1 Q2 Q3; have Q1 := blk6_ BK1.out; have Q2 := blk6_ BK2.out; have Q3 := blk6_ BK3.out) | ((with_reducible refine gs_ (t := 30) (p := 7) rfl ?_); have qf0 := bf_ BK3.out 0; have qf1 := bf_ BK3.out 1; refine se_ (t := 30) (p := 7) (v := ?vo_5) (w1 := ((w4_.setCell ⟨gb3_, 0, none⟩ (.slice Ao4_0 t1.length co4_0)).setCell ⟨gb3_, 1, none⟩ (.slice Ao4_1 t2.length co4_1))) ?hg ?ho ?hn ?hr ?_; (case ho => rfl); (case hg => rfl); (case hn => rfl); (case hr => first | (go_simp; done) | (go_simp; rfl)); intro w5_ hw; clear qf0 qf1; have hge : w.heap.size ≤ gb3_ := (by have := HS.out; omega); have hkp : Kept w4_ w5_ (fun k_ => k_ = gb3_) := (by rw [hw]; exact (Kept.of_set (Kept.of_set (Kept.refl _ _) _ _) _ _)); have hbb : Below w.heap.size w w5_ := (by rw [hw]; exact (bs_ (bs_ HB.out hge) hge)); have hbx : w5_.heap[gb3_]? = some (.cells #[.slice Ao4_0 t1.length co4_0, .slice Ao4_1 t2.length co4_1, .slice none 0 0, .slice none 0 0, .slice none 0 0, .slice none 0 0] 33 (0, 0)) := (by rw [hw]; exact (bp_ (cs := #[.slice Ao4_0 t1.length co4_0, .slice none 0 0, .slice none 0 0, .slice none 0 0, .slice none 0 0, .slice none 0 0]) (bp_ (cs := #[.slice none 0 0, .slice none 0 0, .slice none 0 0, .slice none 0 0, .slice none 0 0, .slice none 0 0]) BK3.out 0 _ rfl) 1 _ rfl)); clear hw; replace HO4_0 := aRk HO4_0 hkp HS; replace HO4_1 := aRk HO4_1 hkp HS; replace BK1 := aBk BK1 hkp HS; replace BK2 := aBk BK2 hkp HS; replace BK3 := A_.mk hbx; replace HB := A_.mk hbb; replace HS := aHs HS hkp.1; clear hkp hbb hbx hge Q1 Q2 Q3; have Q1 := blk6_ BK1.out; have Q2 := blk6_ BK2.out; have Q3 := blk6_ BK3.out) | ((with_reducible refine gc_ (f := 38) rfl ?_); refine gl_ (some 10) Try.func38 #[.agg #[.slice A0_2 l0_2.length c0_2, .slice A0_3 l0_3.length c0_3]] ?_; (with_reducible refine (laws_toCredits.calls k _ _ l0_2 _ _ l0_3 t3 t4 _ (Kd.C_below HR0_2.out HB.out) HC0_2.out (Kd.C_below HR0_3.out HB.out) HC0_3.out A6.out).mono ?_); rintro e w6_ ⟨v0_, v1_, rfl, ho0_, ho1_, hb⟩; refine ⟨_, rfl, ?_⟩; obtain ⟨f6_, hn0_, hn1_⟩ := two_col ho0_ ho1_; clear ho0_ ho1_; replace HS := aHs HS hb.size; obtain ⟨Ao6_0, co6_0, ev_⟩ := Kd.R_slice hn0_; subst ev_; have HO6_0 := aRn hn0_ HB.out.size; obtain ⟨Ao6_1, co6_1, ev_⟩ := Kd.R_slice hn1_; subst ev_; have HO6_1 := aRn hn1_ HB.out.size; replace HO4_0 := aRb HO4_0 hb; replace HO4_1 := aRb HO4_1 hb; replace BK1 := aBb BK1 hb; replace BK2 := aBb BK2 hb; replace BK3 := aBb BK3 hb; replace HB := aHB HB hb; clear hb hn0_ hn1_ Q1 Q2 Q3; have Q1 := blk6_ BK1.out; have Q2 := blk6_ BK2.out; have Q3 := blk6_ BK3.out) | ((with_reducible refine gs_ (t := 30) (p := 11) rfl ?_); have qf0 := bf_ BK3.out 2; have qf1 := bf_ BK3.out 3; refine se_ (t := 30) (p := 11) (v := ?vo_7) (w1 := ((w6_.setCell ⟨gb3_, 2, none⟩ (.slice Ao6_0 t3.length co6_0)).setCell ⟨gb3_, 3, none⟩ (.slice Ao6_1 t4.length co6_1))) ?hg ?ho ?hn ?hr ?_; (case ho => rfl); (case hg => rfl); (case hn => rfl); (case hr => first | (go_simp; done) | (go_simp; rfl)); intro w7_ hw; clear qf0 qf1; have hge : w.heap.size ≤ gb3_ := (by have := HS.out; omega); have hkp : Kept w6_ w7_ (fun k_ => k_ = gb3_) := (by rw [hw]; exact (Kept.of_set (Kept.of_set (Kept.refl _ _) _ _) _ _)); have hbb : Below w.heap.size w w7_ := (by rw [hw]; exact (bs_ (bs_ HB.out hge) hge)); have hbx : w7_.heap[gb3_]? = some (.cells #[.slice Ao4_0 t1.length co4_0, .slice Ao4_1 t2.length co4_1, .slice Ao6_0 t3.length co6_0, .slice Ao6_1 t4.length co6_1, .slice none 0 0, .slice none 0 0] 33 (0, 0)) := (by rw [hw]; exact (bp_ (cs := #[.slice Ao4_0 t1.length co4_0, .slice Ao4_1 t2.length co4_1, .slice Ao6_0 t3.length co6_0, .slice none 0 0, .slice none 0 0, .slice none 0 0]) (bp_ (cs := #[.slice Ao4_0 t1.length co4_0, .slice Ao4_1 t2.length co4_1, .slice none 0 0, .slice none 0 0, .slice none 0 0, .slice none 0 0]) BK3.out 2 _ rfl) 3 _ rfl)); clear hw; replace HO4_0 := aRk HO4_0 hkp HS; replace HO4_1 := aRk HO4_1 hkp HS; replace HO6_0 := aRk HO6_0 hkp HS; replace HO6_1 := aRk HO6_1 hkp HS; replace BK1 := aBk BK1 hkp HS; replace BK2 := aBk BK2 hkp HS; replace BK3 := A_.mk hbx; replace HB := A_.mk hbb; replace HS := aHs HS hkp.1; clear hkp hbb hbx hge Q1 Q2 Q3; have Q1 := blk6_ BK1.out; have Q2 := blk6_ BK2.out; have Q3 := blk6_ BK3.out) | ((with_reducible refine gc_ (f := 39) rfl ?_); refine gl_ (some 14) Try.func39 #[.slice A0_4 l0_4.length c0_4] ?_; (with_reducible refine (laws_toPacketS.calls k _ _ l0_4 t5 _ (Kd.C_below HR0_4.out HB.out) HC0_4.out A8.out).mono ?_); rintro e w8_ ⟨v0_, rfl, ho0_, hb⟩; refine ⟨_, rfl, ?_⟩; replace HS := aHs HS hb.size; obtain ⟨Ao8_0, co8_0, ev_⟩ := Kd.S_slice ho0_; subst ev_; have HO8_0 := aSm ho0_ HB.out.size; replace HO4_0 := aRb HO4_0 hb; replace HO4_1 := aRb HO4_1 hb; replace HO6_0 := aRb HO6_0 hb; replace HO6_1 := aRb HO6_1 hb; replace BK1 := aBb BK1 hb; replace BK2 := aBb BK2 hb; replace BK3 := aBb BK3 hb; replace HB := aHB HB hb; clear hb ho0_ Q1 Q2 Q3; have Q1 := blk6_ BK1.out; have Q2 := blk6_ BK2.out; have Q3 := blk6_ BK3.out) | ((with_reducible refine gs_ (t := 31) (p := 15) rfl ?_); have qf0 := bf_ BK3.out 4; refine se_ (t := 31) (p := 15) (v := ?vo_9) (w1 := (w8_.setCell ⟨gb3_, 4, none⟩ (.slice Ao8_0 t5.length co8_0))) ?hg ?ho ?hn ?hr ?_; (case ho => rfl); (case hg => rfl); (case hn => rfl); (case hr => first | (go_simp; done) | (go_simp; rfl)); intro w9_ hw; clear qf0; have hge : w.heap.size ≤ gb3_ := (by have := HS.out; omega); have hkp : Kept w8_ w9_ (fun k_ => k_ = gb3_) := (by rw [hw]; exact (Kept.of_set (Kept.refl _ _) _ _)); have hbb : Below w.heap.size w w9_ := (by rw [hw]; exact (bs_ HB.out hge)); have hbx : w9_.heap[gb3_]? = some (.cells #[.slice Ao4_0 t1.length co4_0, .slice Ao4_1 t2.length co4_1, .slice Ao6_0 t3.length co6_0, .slice Ao6_1 t4.length co6_1, .slice Ao8_0 t5.length co8_0, .slice none 0 0] 33 (0, 0)) := (by rw [hw]; exact (bp_ (cs := #[.slice Ao4_0 t1.length co4_0, .slice Ao4_1 t2.length co4_1, .slice Ao6_0 t3.length co6_0, .slice Ao6_1 t4.length co6_1, .slice none 0 0, .slice none 0 0]) BK3.out 4 _ rfl)); clear hw; replace HO4_0 := aRk HO4_0 hkp HS; replace HO4_1 := aRk HO4_1 hkp HS; replace HO6_0 := aRk HO6_0 hkp HS; replace HO6_1 := aRk HO6_1 hkp HS; replace HO8_0 := aSk HO8_0 hkp HS; replace BK1 := aBk BK1 hkp HS; replace BK2 := aBk BK2 hkp HS; replace BK3 := A_.mk hbx; replace HB := A_.mk hbb; replace HS := aHs HS hkp.1; clear hkp hbb hbx hge Q1 Q2 Q3; have Q1 := blk6_ BK1.out; have Q2 := blk6_ BK2.out; have Q3 := blk6_ BK3.out) | ((with_reducible refine gc_ (f := 39) rfl ?_); refine gl_ (some 18) Try.func39 #[.slice A0_5 l0_5.length c0_5] ?_; (with_reducible refine (laws_toPacketS.calls k _ _ l0_5 t6 _ (Kd.C_below HR0_5.out HB.out) HC0_5.out A10.out).mono ?_); rintro e w10_ ⟨v0_, rfl, ho0_, hb⟩; refine ⟨_, rfl, ?_⟩; replace HS := aHs HS hb.size; obtain ⟨Ao10_0, co10_0, ev_⟩ := Kd.S_slice ho0_; subst ev_; have HO10_0 := aSm ho0_ HB.out.size; replace HO4_0 := aRb HO4_0 hb; replace HO4_1 := aRb HO4_1 hb; replace HO6_0 := aRb HO6_0 hb; replace HO6_1 := aRb HO6_1 hb; replace HO8_0 := aSb HO8_0 hb; replace BK1 := aBb BK1 hb; replace BK2 := aBb BK2 hb; replace BK3 := aBb BK3 hb; replace HB := aHB HB hb; clear hb ho0_ Q1 Q2 Q3; have Q1 := blk6_ BK1.out; have Q2 := blk6_ BK2.out; have Q3 := blk6_ BK3.out) | ((with_reducible refine gs_ (t := 31) (p := 19) rfl ?_); have qf0 := bf_ BK3.out 5; refine se_ (t := 31) (p := 19) (v := ?vo_11) (w1 := (w10_.setCell ⟨gb3_, 5, none⟩ (.slice Ao10_0 t6.length co10_0))) ?hg ?ho ?hn ?hr ?_; (case ho => rfl); (case hg => rfl); (case hn => rfl); (case hr => first | (go_simp; done) | (go_simp; rfl)); intro w11_ hw; clear qf0; have hge : w.heap.size ≤ gb3_ := (by have := HS.out; omega); have hkp : Kept w10_ w11_ (fun k_ => k_ = gb3_) := (by rw [hw]; exact (Kept.of_set (Kept.refl _ _) _ _)); have hbb : Below w.heap.size w w11_ := (by rw [hw]; exact (bs_ HB.out hge)); have hbx : w11_.heap[gb3_]? = some (.cells #[.slice Ao4_0 t1.length co4_0, .slice Ao4_1 t2.length co4_1, .slice Ao6_0 t3.length co6_0, .slice Ao6_1 t4.length co6_1, .slice Ao8_0 t5.length co8_0, .slice Ao10_0 t6.length co10_0] 33 (0, 0)) := (by rw [hw]; exact (bp_ (cs := #[.slice Ao4_0 t1.length co4_0, .slice Ao4_1 t2.length co4_1, .slice Ao6_0 t3.length co6_0, .slice Ao6_1 t4.length co6_1, .slice Ao8_0 t5.length co8_0, .slice none 0 0]) BK3.out 5 _ rfl)); clear hw; replace HO4_0 := aRk HO4_0 hkp HS; replace HO4_1 := aRk HO4_1 hkp HS; replace HO6_0 := aRk HO6_0 hkp HS; replace HO6_1 := aRk HO6_1 hkp HS; replace HO8_0 := aSk HO8_0 hkp HS; replace HO10_0 := aSk HO10_0 hkp HS; replace BK1 := aBk BK1 hkp HS; replace BK2 := aBk BK2 hkp HS; replace BK3 := A_.mk hbx; replace HB := A_.mk hbb; replace HS := aHs HS hkp.1; clear hkp hbb hbx hge Q1 Q2 Q3; have Q1 := blk6_ BK1.out; have Q2 := blk6_ BK2.out; have Q3 := blk6_ BK3.out) | ((with_reducible refine gs_ (t := 33) (p := 2) rfl ?_); have qf0 := bf_ BK2.out 0; have qf1 := bf_ BK2.out 1; have qf2 := bf_ BK2.out 2; have qf3 := bf_ BK2.out 3; have qf4 := bf_ BK2.out 4; have qf5 := bf_ BK2.out 5; refine se_ (t := 33) (p := 2) (v := ?vo_12) (w1 := (ch6_ w11_ gb2_ (.slice Ao4_0 t1.length co4_0) (.slice Ao4_1 t2.length co4_1) (.slice Ao6_0 t3.length co6_0) (.slice Ao6_1 t4.length co6_1) (.slice Ao8_0 t5.length co8_0) (.slice Ao10_0 t6.length co10_0))) ?hg ?ho ?hn ?hr ?_; (case ho => rfl); (case hg => rfl); (case hn => rfl); (case hr => first | (go_simp; done) | (go_simp; rfl)); intro w12_ hw; clear qf0 qf1 qf2 qf3 qf4 qf5; obtain ⟨hbx, hkp, hbb⟩ := st6_ hw BK2 HB (by have := HS.out; omega); clear hw; replace HO4_0 := aRk HO4_0 hkp HS; replace HO4_1 := aRk HO4_1 hkp HS; replace HO6_0 := aRk HO6_0 hkp HS; replace HO6_1 := aRk HO6_1 hkp HS; replace HO8_0 := aSk HO8_0 hkp HS; replace HO10_0 := aSk HO10_0 hkp HS; replace BK1 := aBk BK1 hkp HS; replace BK3 := aBk BK3 hkp HS; replace BK2 := A_.mk hbx; replace HB := A_.mk hbb; replace HS := aHs HS hkp.1; clear hkp hbb hbx Q1 Q2 Q3; have Q1 := blk6_ BK1.out; have Q2 := blk6_ BK2.out; have Q3 := blk6_ BK3.out))
 refine bodyPost_ret (results_cell_row rfl _ _ gb2_ 33 #[.slice Ao4_0 t1.length co4_0, .slice Ao4_1 t2.length co4_1, .slice Ao6_0 t3.length co6_0, .slice Ao6_1 t4.length co6_1, .slice Ao8_0 t5.length co8_0, .slice Ao10_0 t6.length co10_0] (0, 0) _ rfl BK2.out Try.underlying33 rfl (by kernel_rfl)) rfl ?_
 obtain ⟨f_, hf_⟩ : ∃ f_ : Nat → Nat, ∀ k_, f_ k_ = (if ((w3_.heap.size ≤ k_ ∧ k_ < w4_.heap.size) ∧ f4_ k_ = 0) then 0 else (if ((w3_.heap.size ≤ k_ ∧ k_ < w4_.heap.size) ∧ f4_ k_ = 1) then 1 else (if ((w5_.heap.size ≤ k_ ∧ k_ < w6_.heap.size) ∧ f6_ k_ = 0) then 2 else (if ((w5_.heap.size ≤ k_ ∧ k_ < w6_.heap.size) ∧ f6_ k_ = 1) then 3 else (if ((w7_.heap.size ≤ k_ ∧ k_ < w8_.heap.size)) then 4 else (if ((w9_.heap.size ≤ k_ ∧ k_ < w10_.heap.size)) then 5 else 0)))))) := ⟨fun k_ => (if ((w3_.heap.size ≤ k_ ∧ k_ < w4_.heap.size) ∧ f4_ k_ = 0) then 0 else (if ((w3_.heap.size ≤ k_ ∧ k_ < w4_.heap.size) ∧ f4_ k_ = 1) then 1 else (if ((w5_.heap.size ≤ k_ ∧ k_ < w6_.heap.size) ∧ f6_ k_ = 0) then 2 else (if ((w5_.heap.size ≤ k_ ∧ k_ < w6_.heap.size) ∧ f6_ k_ = 1) then 3 else (if ((w7_.heap.size ≤ k_ ∧ k_ < w8_.heap.size)) then 4 else (if ((w9_.heap.size ≤ k_ ∧ k_ < w10_.heap.size)) then 5 else 0)))))), fun _ => rfl⟩
 have hcol0_ : ∀ k_, (((w3_.heap.size ≤ k_ ∧ k_ < w4_.heap.size) ∧ f4_ k_ = 0)) → f_ k_ = 0 := fun k_ hk_ => by rw [hf_]; have := HS.out; repeat' (first | omega | split)
 have hcol1_ : ∀ k_, (((w3_.heap.size ≤ k_ ∧ k_ < w4_.heap.size) ∧ f4_ k_ = 1)) → f_ k_ = 1 := fun k_ hk_ => by rw [hf_]; have := HS.out; repeat' (first | omega | split)
 have hcol2_ : ∀ k_, (((w5_.heap.size ≤ k_ ∧ k_ < w6_.heap.size) ∧ f6_ k_ = 0)) → f_ k_ = 2 := fun k_ hk_ => by rw [hf_]; have := HS.out; repeat' (first | omega | split)
 have hcol3_ : ∀ k_, (((w5_.heap.size ≤ k_ ∧ k_ < w6_.heap.size) ∧ f6_ k_ = 1)) → f_ k_ = 3 := fun k_ hk_ => by rw [hf_]; have := HS.out; repeat' (first | omega | split)
 have hcol4_ : ∀ k_, (((w7_.heap.size ≤ k_ ∧ k_ < w8_.heap.size))) → f_ k_ = 4 := fun k_ hk_ => by rw [hf_]; have := HS.out; repeat' (first | omega | split)
 have hcol5_ : ∀ k_, (((w9_.heap.size ≤ k_ ∧ k_ < w10_.heap.size))) → f_ k_ = 5 := fun k_ hk_ => by rw [hf_]; have := HS.out; repeat' (first | omega | split)
 exact ⟨f_, _, _, _, _, _, _, rfl, Kd.R_mono HO4_0.out hcol0_, Kd.R_mono HO4_1.out hcol1_, Kd.R_mono HO6_0.out hcol2_, Kd.R_mono HO6_1.out hcol3_, Kd.S_mono HO8_0.out hcol4_, Kd.S_mono HO10_0.out hcol5_, HB.out⟩
/-! ### laws_eqIntS: function 55 -/
def laws_eqIntS.l0 : Nat → List Int → List Int → Int → Option (Bool)
 | 0, _, _, _ => none
 | k + 1, x0, x1, x5 => if x5 < (x0.length : Int) then (if 0 ≤ x5 then (if x5 < (x1.length : Int) then (if (rd x0 x5) = (rd x1 x5) then (laws_eqIntS.l0 k x0 x1 (wrap64 (x5 + 1))) else (some false)) else (none)) else (none)) else (some true)
def laws_eqIntS.f (k : Nat) (l0 : List Int) (l1 : List Int) : Option (Bool) := if (l0.length : Int) = (l1.length : Int) then (laws_eqIntS.l0 k l0 l1 0) else (some false)
set_option maxHeartbeats 8000000 in
set_option maxRecDepth 100000 in
theorem laws_eqIntS.calls (k : Nat) (A0 : Option Addr) (c0 : Nat) (l0 : List Int) (A1 : Option Addr) (c1 : Nat) (l1 : List Int) (r : Bool) (w : World) (hr0 : Kd.C (Kd.int .i64) w A0 l0.length l0) (hc0 : l0.length ≤ c0) (hr1 : Kd.C (Kd.int .i64) w A1 l1.length l1) (hc1 : l1.length ≤ c1) (h : laws_eqIntS.f k l0 l1 = some r) :
  Calls Try.prog 55 #[.slice A0 l0.length c0, .slice A1 l1.length c1] w fun e w' => e = .returned (.bool r) ∧ Drawn0 w w' := by
 have HR0 := A_.mk hr0
 have HC0 := A_.mk hc0
 clear hr0 hc0
 have HR1 := A_.mk hr1
 have HC1 := A_.mk hc1
 clear hr1 hc1
 have H : (if (l0.length : Int) = (l1.length : Int) then (laws_eqIntS.l0 k l0 l1 0) else (some false)) = some r := h
 clear h
 by_cases c3 : (l0.length : Int) = (l1.length : Int)
 rotate_left
 ·rw [if_neg c3] at H
  have c3b0 : ((l0.length : Int) == (l1.length : Int)) = false := beq_eq_false_iff_ne.mpr c3
  have c3b1 : ((l0.length : Int) != (l1.length : Int)) = true := bne_iff_ne.mpr c3
  have c3b2 : (l0.length == l1.length) = false := by first | simpa using c3 | (simp at c3 ⊢; omega)
  obtain rfl := Option.some.inj H
  go_enter Try.func55, Try.ntmps55
  go_wp2
  repeat (go_quiet (fail); try go_wp2)
  go_ret
  exact ⟨by first | rfl | (simp; done) | (simp [*]; done), by repeat (first | exact Drawn0.refl _ | apply Drawn0.step)⟩
 rw [if_pos c3] at H
 have c3b0 : ((l0.length : Int) == (l1.length : Int)) = true := beq_iff_eq.mpr c3
 have c3b1 : ((l0.length : Int) != (l1.length : Int)) = false := bne_eq_false_iff_eq.mpr c3
 have c3b2 : (l0.length == l1.length) = true := by first | simpa using c3 | (simp at c3 ⊢; omega)
 clear c3
 have H' := A_.mk H
 clear H
 go_enter Try.func55, Try.ntmps55
 go_wp2
 repeat (go_quiet (fail); try go_wp2)
 go_loopg [5] k (fun kq v5 w' => ∃ (x5_1 : Int), v5 = .int .i64 x5_1 ∧ A_ (laws_eqIntS.l0 kq l0 l1 x5_1 = some r) ∧ A_ (kq ≤ k) ∧ Drawn0 w w')
 case atStart => exact ⟨(0), (by first | rfl | (simp; done) | (simp [*]; done)), H', ⟨Nat.le_refl _⟩, by repeat (first | exact Drawn0.refl _ | apply Drawn0.step)⟩
 case round =>
  clear H'
  obtain ⟨x5_1, rfl, HA, HK1, ⟨m1, rfl⟩⟩ := hrel
  cases gk with
  | zero => exact absurd HA.out (by simp [laws_eqIntS.l0])
  | succ k1 =>
   have H := HA.out
   clear HA
   simp only [laws_eqIntS.l0] at H
   by_cases c4 : x5_1 < (l0.length : Int)
   rotate_left
   ·rw [if_neg c4] at H
    have c4b0 : decide (x5_1 < (l0.length : Int)) = false := decide_eq_false c4
    clear c4
    obtain rfl := Option.some.inj H
    go_wp2
    repeat (go_quiet (fail); try go_wp2)
    go_ret
    exact ⟨by first | rfl | (simp; done) | (simp [*]; done), by repeat (first | exact Drawn0.refl _ | apply Drawn0.step)⟩
   rw [if_pos c4] at H
   have c4b0 : decide (x5_1 < (l0.length : Int)) = true := decide_eq_true c4
   clear c4
   by_cases c5 : 0 ≤ x5_1
   rotate_left
   ·rw [if_neg c5] at H
    exact absurd H (by simp)
   rw [if_pos c5] at H
   have c5b0 : decide (0 ≤ x5_1) = true := decide_eq_true c5
   clear c5
   by_cases c6 : x5_1 < (l1.length : Int)
   rotate_left
   ·rw [if_neg c6] at H
    exact absurd H (by simp)
   rw [if_pos c6] at H
   have c6b0 : decide (x5_1 < (l1.length : Int)) = true := decide_eq_true c6
   clear c6
   by_cases c7 : (rd l0 x5_1) = (rd l1 x5_1)
   rotate_left
   ·rw [if_neg c7] at H
    have c7b0 : ((rd l0 x5_1) == (rd l1 x5_1)) = false := beq_eq_false_iff_ne.mpr c7
    have c7b1 : ((rd l0 x5_1) != (rd l1 x5_1)) = true := bne_iff_ne.mpr c7
    obtain rfl := Option.some.inj H
    have p138 : 0 ≤ (x5_1 : Int) := od_
    have q138 : x5_1 < (l0.length : Int) := od_
    obtain ⟨ad138, e138, hx138_0⟩ := Kd.at_int HR0.out x5_1 p138 q138
    cases e138
    replace p138 := eq_true p138
    replace q138 := eq_true q138
    have p139 : 0 ≤ (x5_1 : Int) := od_
    have q139 : x5_1 < (l1.length : Int) := od_
    obtain ⟨ad139, e139, hx139_0⟩ := Kd.at_int HR1.out x5_1 p139 q139
    cases e139
    replace p139 := eq_true p139
    replace q139 := eq_true q139
    go_wp2
    repeat (go_quiet (fail); try go_wp2)
    go_ret
    exact ⟨by first | rfl | (simp; done) | (simp [*]; done), by repeat (first | exact Drawn0.refl _ | apply Drawn0.step)⟩
   rw [if_pos c7] at H
   have c7b0 : ((rd l0 x5_1) == (rd l1 x5_1)) = true := beq_iff_eq.mpr c7
   have c7b1 : ((rd l0 x5_1) != (rd l1 x5_1)) = false := bne_eq_false_iff_eq.mpr c7
   clear c7
   have H' := A_.mk H
   clear H
   have p138 : 0 ≤ (x5_1 : Int) := od_
   have q138 : x5_1 < (l0.length : Int) := od_
   obtain ⟨ad138, e138, hx138_0⟩ := Kd.at_int HR0.out x5_1 p138 q138
   cases e138
   replace p138 := eq_true p138
   replace q138 := eq_true q138
   have p139 : 0 ≤ (x5_1 : Int) := od_
   have q139 : x5_1 < (l1.length : Int) := od_
   obtain ⟨ad139, e139, hx139_0⟩ := Kd.at_int HR1.out x5_1 p139 q139
   cases e139
   replace p139 := eq_true p139
   replace q139 := eq_true q139
   go_wp2
   repeat (go_quiet (fail); try go_wp2)
   go_roundg k1
   case measure => have := HK1.out; omega
   case rel => exact ⟨(wrap64 (x5_1 + 1)), (by first | rfl | (simp; done) | (simp [*]; done)), H', ⟨by have := HK1.out; omega⟩, by repeat (first | exact Drawn0.refl _ | apply Drawn0.step)⟩
/-! ### laws_eqCredits: function 46, its calls in a row -/
def laws_eqCredits.f (k : Nat) (l0_0 : List Int) (l0_1 : List Int) (l1_0 : List Int) (l1_1 : List Int) : Option ((Bool)) := ((laws_eqIntS.f k l0_0 l1_0).bind fun t1 => (if t1 = true then ((laws_eqIntS.f k l0_1 l1_1).bind fun t2 => (if t2 = true then (some (true)) else (some (false)))) else (some (false))))
set_option maxHeartbeats 8000000 in
set_option maxRecDepth 100000 in
theorem laws_eqCredits.calls (k : Nat) (A0_0 : Option Addr) (c0_0 : Nat) (l0_0 : List Int) (A0_1 : Option Addr) (c0_1 : Nat) (l0_1 : List Int) (A1_0 : Option Addr) (c1_0 : Nat) (l1_0 : List Int) (A1_1 : Option Addr) (c1_1 : Nat) (l1_1 : List Int) (r : Bool) (w : World) (hr0_0 : Kd.C (Kd.int .i64) w A0_0 l0_0.length l0_0) (hc0_0 : l0_0.length ≤ c0_0) (hr0_1 : Kd.C (Kd.int .i64) w A0_1 l0_1.length l0_1) (hc0_1 : l0_1.length ≤ c0_1) (hr1_0 : Kd.C (Kd.int .i64) w A1_0 l1_0.length l1_0) (hc1_0 : l1_0.length ≤ c1_0) (hr1_1 : Kd.C (Kd.int .i64) w A1_1 l1_1.length l1_1) (hc1_1 : l1_1.length ≤ c1_1) (h : laws_eqCredits.f k l0_0 l0_1 l1_0 l1_1 = some r) :
  Calls Try.prog 46 #[.agg #[.slice A0_0 l0_0.length c0_0, .slice A0_1 l0_1.length c0_1], .agg #[.slice A1_0 l1_0.length c1_0, .slice A1_1 l1_1.length c1_1]] w fun e w' => e = .returned (.bool r) ∧ Below w.heap.size w w' := by
 have HR0_0 := A_.mk hr0_0
 have HC0_0 := A_.mk hc0_0
 clear hr0_0 hc0_0
 have HR0_1 := A_.mk hr0_1
 have HC0_1 := A_.mk hc0_1
 clear hr0_1 hc0_1
 have HR1_0 := A_.mk hr1_0
 have HC1_0 := A_.mk hc1_0
 clear hr1_0 hc1_0
 have HR1_1 := A_.mk hr1_1
 have HC1_1 := A_.mk hc1_1
 clear hr1_1 hc1_1
 have HB := A_.mk (Below.refl w.heap.size w)
 unfold laws_eqCredits.f at h
 have H := h
 clear h
 replace H := oa_ H
 obtain ⟨t1, A3, H⟩ := H
 replace H := A_.mk H
 have hu30 := Try.underlying30
 go_enter Try.func46, Try.ntmps46
 have HS := A_.mk (Nat.le_refl w.heap.size)
 go_wp2_with (first | ((with_reducible refine gd_ (N := 2) rfl ?_); refine by_ 2 (cs := #[.slice A0_0 l0_0.length c0_0, .slice A0_1 l0_1.length c0_1]) (t := 30) ?_; intro gb1_ hg w1_ hbox hb; replace HS := A_.mk (And.intro HS.out (show gb1_ = w.heap.size ∧ gb1_ < w1_.heap.size from ⟨hg, blk_lt hbox⟩)); replace HB := aHB HB hb; have BK1 := A_.mk hbox; clear hbox hb hg; have Q1 := blk2_ BK1.out) | ((with_reducible refine gd_ (N := 3) rfl ?_); refine by_ 3 (cs := #[.slice A1_0 l1_0.length c1_0, .slice A1_1 l1_1.length c1_1]) (t := 30) ?_; intro gb2_ hg w2_ hbox hb; replace HS := A_.mk (And.intro HS.out (show gb2_ = w1_.heap.size ∧ gb2_ < w2_.heap.size from ⟨hg, blk_lt hbox⟩)); replace BK1 := aBb BK1 hb; replace HB := aHB HB hb; have BK2 := A_.mk hbox; clear hbox hb hg Q1; have Q1 := blk2_ BK1.out; have Q2 := blk2_ BK2.out))
 (with_reducible refine (laws_eqIntS.calls k _ _ l0_0 _ _ l1_0 t1 _ (Kd.C_below HR0_0.out HB.out) HC0_0.out (Kd.C_below HR1_0.out HB.out) HC1_0.out A3.out).mono ?_)
 rintro e w3_ ⟨rfl, hb⟩
 replace hb := Drawn0.below hb
 replace HS := aHs HS hb.size
 replace BK1 := aBb BK1 hb
 replace BK2 := aBb BK2 hb
 replace HB := aHB HB hb
 clear hb  Q1 Q2
 have Q1 := blk2_ BK1.out
 have Q2 := blk2_ BK2.out
 replace H := H.out
 by_cases hc1_ : t1 = true
 case neg =>
  rw [if_neg hc1_] at H
  replace hc1_ := eq_false_of_ne_true hc1_
  subst hc1_
  replace H := Option.some.inj H
  subst H
  go_wp2
  go_ret
  exact ⟨rfl, HB.out⟩
 rw [if_pos hc1_] at H
 subst hc1_
 replace H := oa_ H
 obtain ⟨t2, A4, H⟩ := H
 replace H := A_.mk H
 go_wp2_with (fail)
 (with_reducible refine (laws_eqIntS.calls k _ _ l0_1 _ _ l1_1 t2 _ (Kd.C_below HR0_1.out HB.out) HC0_1.out (Kd.C_below HR1_1.out HB.out) HC1_1.out A4.out).mono ?_)
 rintro e w4_ ⟨rfl, hb⟩
 replace hb := Drawn0.below hb
 replace HS := aHs HS hb.size
 replace BK1 := aBb BK1 hb
 replace BK2 := aBb BK2 hb
 replace HB := aHB HB hb
 clear hb  Q1 Q2
 have Q1 := blk2_ BK1.out
 have Q2 := blk2_ BK2.out
 replace H := H.out
 by_cases hc2_ : t2 = true
 case pos =>
  rw [if_pos hc2_] at H
  subst hc2_
  replace H := Option.some.inj H
  subst H
  go_wp2
  go_ret
  exact ⟨rfl, HB.out⟩
 rw [if_neg hc2_] at H
 replace hc2_ := eq_false_of_ne_true hc2_
 subst hc2_
 replace H := Option.some.inj H
 subst H
 go_wp2
 go_ret
 exact ⟨rfl, HB.out⟩
/-! ### laws_eqPacket: function 15, its calls in a row -/
def laws_eqPacket.f (k : Nat) (a0_0 : Int) (a0_1 : Int) (a0_2 : Int) (a0_3 : Int) (a0_4 : Int) (a0_5 : Int) (a0_6 : Int) (l0_7 : List Int) (a1_0 : Int) (a1_1 : Int) (a1_2 : Int) (a1_3 : Int) (a1_4 : Int) (a1_5 : Int) (a1_6 : Int) (l1_7 : List Int) : Option ((Bool)) := (if a0_0 = a1_0 then (if a0_1 = a1_1 then (if a0_2 = a1_2 then (if a0_3 = a1_3 then (if a0_4 = a1_4 then (if a0_5 = a1_5 then (if a0_6 = a1_6 then ((laws_eqIntS.f k l0_7 l1_7).bind fun t1 => (if t1 = true then (some (true)) else (some (false)))) else (some (false))) else (some (false))) else (some (false))) else (some (false))) else (some (false))) else (some (false))) else (some (false)))
set_option maxHeartbeats 8000000 in
set_option maxRecDepth 100000 in
theorem laws_eqPacket.calls (k : Nat) (a0_0 : Int) (a0_1 : Int) (a0_2 : Int) (a0_3 : Int) (a0_4 : Int) (a0_5 : Int) (a0_6 : Int) (A0_7 : Option Addr) (c0_7 : Nat) (l0_7 : List Int) (a1_0 : Int) (a1_1 : Int) (a1_2 : Int) (a1_3 : Int) (a1_4 : Int) (a1_5 : Int) (a1_6 : Int) (A1_7 : Option Addr) (c1_7 : Nat) (l1_7 : List Int) (r : Bool) (w : World) (hr0_7 : Kd.C (Kd.int .i64) w A0_7 l0_7.length l0_7) (hc0_7 : l0_7.length ≤ c0_7) (hr1_7 : Kd.C (Kd.int .i64) w A1_7 l1_7.length l1_7) (hc1_7 : l1_7.length ≤ c1_7) (h : laws_eqPacket.f k a0_0 a0_1 a0_2 a0_3 a0_4 a0_5 a0_6 l0_7 a1_0 a1_1 a1_2 a1_3 a1_4 a1_5 a1_6 l1_7 = some r) :
  Calls Try.prog 15 #[.agg #[.int .i64 a0_0, .int .i64 a0_1, .int .i64 a0_2, .int .i64 a0_3, .int .i64 a0_4, .int .i64 a0_5, .int .i64 a0_6, .slice A0_7 l0_7.length c0_7], .agg #[.int .i64 a1_0, .int .i64 a1_1, .int .i64 a1_2, .int .i64 a1_3, .int .i64 a1_4, .int .i64 a1_5, .int .i64 a1_6, .slice A1_7 l1_7.length c1_7]] w fun e w' => e = .returned (.bool r) ∧ Below w.heap.size w w' := by
 have HR0_7 := A_.mk hr0_7
 have HC0_7 := A_.mk hc0_7
 clear hr0_7 hc0_7
 have HR1_7 := A_.mk hr1_7
 have HC1_7 := A_.mk hc1_7
 clear hr1_7 hc1_7
 have HB := A_.mk (Below.refl w.heap.size w)
 unfold laws_eqPacket.f at h
 have H := h
 clear h
 by_cases hc1_ : a0_0 = a1_0
 case neg =>
  rw [if_neg hc1_] at H
  have hc1_b0 : (a0_0 == a1_0) = false := beq_eq_false_iff_ne.mpr hc1_
  have hc1_bn : (a0_0 != a1_0) = true := bne_iff_ne.mpr hc1_
  replace H := Option.some.inj H
  subst H
  have hu38 := Try.underlying38
  go_enter Try.func15, Try.ntmps15
  have HS := A_.mk (Nat.le_refl w.heap.size)
  go_wp2_with (first | ((with_reducible refine gd_ (N := 2) rfl ?_); refine by_ 2 (cs := #[.int .i64 a0_0, .int .i64 a0_1, .int .i64 a0_2, .int .i64 a0_3, .int .i64 a0_4, .int .i64 a0_5, .int .i64 a0_6, .slice A0_7 l0_7.length c0_7]) (t := 38) ?_; intro gb1_ hg w1_ hbox hb; replace HS := A_.mk (And.intro HS.out (show gb1_ = w.heap.size ∧ gb1_ < w1_.heap.size from ⟨hg, blk_lt hbox⟩)); replace HB := aHB HB hb; have BK1 := A_.mk hbox; clear hbox hb hg; have Q1 := blk8_ BK1.out) | ((with_reducible refine gd_ (N := 3) rfl ?_); refine by_ 3 (cs := #[.int .i64 a1_0, .int .i64 a1_1, .int .i64 a1_2, .int .i64 a1_3, .int .i64 a1_4, .int .i64 a1_5, .int .i64 a1_6, .slice A1_7 l1_7.length c1_7]) (t := 38) ?_; intro gb2_ hg w2_ hbox hb; replace HS := A_.mk (And.intro HS.out (show gb2_ = w1_.heap.size ∧ gb2_ < w2_.heap.size from ⟨hg, blk_lt hbox⟩)); replace BK1 := aBb BK1 hb; replace HB := aHB HB hb; have BK2 := A_.mk hbox; clear hbox hb hg Q1; have Q1 := blk8_ BK1.out; have Q2 := blk8_ BK2.out))
  go_ret
  exact ⟨rfl, HB.out⟩
 rw [if_pos hc1_] at H
 have hc1_b0 : (a0_0 == a1_0) = true := beq_iff_eq.mpr hc1_
 have hc1_bn : (a0_0 != a1_0) = false := bne_eq_false_iff_eq.mpr hc1_
 replace hc1_ := A_.mk hc1_
 by_cases hc2_ : a0_1 = a1_1
 case neg =>
  rw [if_neg hc2_] at H
  have hc2_b0 : (a0_1 == a1_1) = false := beq_eq_false_iff_ne.mpr hc2_
  have hc2_bn : (a0_1 != a1_1) = true := bne_iff_ne.mpr hc2_
  replace H := Option.some.inj H
  subst H
  have hu38 := Try.underlying38
  go_enter Try.func15, Try.ntmps15
  have HS := A_.mk (Nat.le_refl w.heap.size)
  go_wp2_with (first | ((with_reducible refine gd_ (N := 2) rfl ?_); refine by_ 2 (cs := #[.int .i64 a0_0, .int .i64 a0_1, .int .i64 a0_2, .int .i64 a0_3, .int .i64 a0_4, .int .i64 a0_5, .int .i64 a0_6, .slice A0_7 l0_7.length c0_7]) (t := 38) ?_; intro gb1_ hg w1_ hbox hb; replace HS := A_.mk (And.intro HS.out (show gb1_ = w.heap.size ∧ gb1_ < w1_.heap.size from ⟨hg, blk_lt hbox⟩)); replace HB := aHB HB hb; have BK1 := A_.mk hbox; clear hbox hb hg; have Q1 := blk8_ BK1.out) | ((with_reducible refine gd_ (N := 3) rfl ?_); refine by_ 3 (cs := #[.int .i64 a1_0, .int .i64 a1_1, .int .i64 a1_2, .int .i64 a1_3, .int .i64 a1_4, .int .i64 a1_5, .int .i64 a1_6, .slice A1_7 l1_7.length c1_7]) (t := 38) ?_; intro gb2_ hg w2_ hbox hb; replace HS := A_.mk (And.intro HS.out (show gb2_ = w1_.heap.size ∧ gb2_ < w2_.heap.size from ⟨hg, blk_lt hbox⟩)); replace BK1 := aBb BK1 hb; replace HB := aHB HB hb; have BK2 := A_.mk hbox; clear hbox hb hg Q1; have Q1 := blk8_ BK1.out; have Q2 := blk8_ BK2.out))
  go_ret
  exact ⟨rfl, HB.out⟩
 rw [if_pos hc2_] at H
 have hc2_b0 : (a0_1 == a1_1) = true := beq_iff_eq.mpr hc2_
 have hc2_bn : (a0_1 != a1_1) = false := bne_eq_false_iff_eq.mpr hc2_
 replace hc2_ := A_.mk hc2_
 by_cases hc3_ : a0_2 = a1_2
 case neg =>
  rw [if_neg hc3_] at H
  have hc3_b0 : (a0_2 == a1_2) = false := beq_eq_false_iff_ne.mpr hc3_
  have hc3_bn : (a0_2 != a1_2) = true := bne_iff_ne.mpr hc3_
  replace H := Option.some.inj H
  subst H
  have hu38 := Try.underlying38
  go_enter Try.func15, Try.ntmps15
  have HS := A_.mk (Nat.le_refl w.heap.size)
  go_wp2_with (first | ((with_reducible refine gd_ (N := 2) rfl ?_); refine by_ 2 (cs := #[.int .i64 a0_0, .int .i64 a0_1, .int .i64 a0_2, .int .i64 a0_3, .int .i64 a0_4, .int .i64 a0_5, .int .i64 a0_6, .slice A0_7 l0_7.length c0_7]) (t := 38) ?_; intro gb1_ hg w1_ hbox hb; replace HS := A_.mk (And.intro HS.out (show gb1_ = w.heap.size ∧ gb1_ < w1_.heap.size from ⟨hg, blk_lt hbox⟩)); replace HB := aHB HB hb; have BK1 := A_.mk hbox; clear hbox hb hg; have Q1 := blk8_ BK1.out) | ((with_reducible refine gd_ (N := 3) rfl ?_); refine by_ 3 (cs := #[.int .i64 a1_0, .int .i64 a1_1, .int .i64 a1_2, .int .i64 a1_3, .int .i64 a1_4, .int .i64 a1_5, .int .i64 a1_6, .slice A1_7 l1_7.length c1_7]) (t := 38) ?_; intro gb2_ hg w2_ hbox hb; replace HS := A_.mk (And.intro HS.out (show gb2_ = w1_.heap.size ∧ gb2_ < w2_.heap.size from ⟨hg, blk_lt hbox⟩)); replace BK1 := aBb BK1 hb; replace HB := aHB HB hb; have BK2 := A_.mk hbox; clear hbox hb hg Q1; have Q1 := blk8_ BK1.out; have Q2 := blk8_ BK2.out))
  go_ret
  exact ⟨rfl, HB.out⟩
 rw [if_pos hc3_] at H
 have hc3_b0 : (a0_2 == a1_2) = true := beq_iff_eq.mpr hc3_
 have hc3_bn : (a0_2 != a1_2) = false := bne_eq_false_iff_eq.mpr hc3_
 replace hc3_ := A_.mk hc3_
 by_cases hc4_ : a0_3 = a1_3
 case neg =>
  rw [if_neg hc4_] at H
  have hc4_b0 : (a0_3 == a1_3) = false := beq_eq_false_iff_ne.mpr hc4_
  have hc4_bn : (a0_3 != a1_3) = true := bne_iff_ne.mpr hc4_
  replace H := Option.some.inj H
  subst H
  have hu38 := Try.underlying38
  go_enter Try.func15, Try.ntmps15
  have HS := A_.mk (Nat.le_refl w.heap.size)
  go_wp2_with (first | ((with_reducible refine gd_ (N := 2) rfl ?_); refine by_ 2 (cs := #[.int .i64 a0_0, .int .i64 a0_1, .int .i64 a0_2, .int .i64 a0_3, .int .i64 a0_4, .int .i64 a0_5, .int .i64 a0_6, .slice A0_7 l0_7.length c0_7]) (t := 38) ?_; intro gb1_ hg w1_ hbox hb; replace HS := A_.mk (And.intro HS.out (show gb1_ = w.heap.size ∧ gb1_ < w1_.heap.size from ⟨hg, blk_lt hbox⟩)); replace HB := aHB HB hb; have BK1 := A_.mk hbox; clear hbox hb hg; have Q1 := blk8_ BK1.out) | ((with_reducible refine gd_ (N := 3) rfl ?_); refine by_ 3 (cs := #[.int .i64 a1_0, .int .i64 a1_1, .int .i64 a1_2, .int .i64 a1_3, .int .i64 a1_4, .int .i64 a1_5, .int .i64 a1_6, .slice A1_7 l1_7.length c1_7]) (t := 38) ?_; intro gb2_ hg w2_ hbox hb; replace HS := A_.mk (And.intro HS.out (show gb2_ = w1_.heap.size ∧ gb2_ < w2_.heap.size from ⟨hg, blk_lt hbox⟩)); replace BK1 := aBb BK1 hb; replace HB := aHB HB hb; have BK2 := A_.mk hbox; clear hbox hb hg Q1; have Q1 := blk8_ BK1.out; have Q2 := blk8_ BK2.out))
  go_ret
  exact ⟨rfl, HB.out⟩
 rw [if_pos hc4_] at H
 have hc4_b0 : (a0_3 == a1_3) = true := beq_iff_eq.mpr hc4_
 have hc4_bn : (a0_3 != a1_3) = false := bne_eq_false_iff_eq.mpr hc4_
 replace hc4_ := A_.mk hc4_
 by_cases hc5_ : a0_4 = a1_4
 case neg =>
  rw [if_neg hc5_] at H
  have hc5_b0 : (a0_4 == a1_4) = false := beq_eq_false_iff_ne.mpr hc5_
  have hc5_bn : (a0_4 != a1_4) = true := bne_iff_ne.mpr hc5_
  replace H := Option.some.inj H
  subst H
  have hu38 := Try.underlying38
  go_enter Try.func15, Try.ntmps15
  have HS := A_.mk (Nat.le_refl w.heap.size)
  go_wp2_with (first | ((with_reducible refine gd_ (N := 2) rfl ?_); refine by_ 2 (cs := #[.int .i64 a0_0, .int .i64 a0_1, .int .i64 a0_2, .int .i64 a0_3, .int .i64 a0_4, .int .i64 a0_5, .int .i64 a0_6, .slice A0_7 l0_7.length c0_7]) (t := 38) ?_; intro gb1_ hg w1_ hbox hb; replace HS := A_.mk (And.intro HS.out (show gb1_ = w.heap.size ∧ gb1_ < w1_.heap.size from ⟨hg, blk_lt hbox⟩)); replace HB := aHB HB hb; have BK1 := A_.mk hbox; clear hbox hb hg; have Q1 := blk8_ BK1.out) | ((with_reducible refine gd_ (N := 3) rfl ?_); refine by_ 3 (cs := #[.int .i64 a1_0, .int .i64 a1_1, .int .i64 a1_2, .int .i64 a1_3, .int .i64 a1_4, .int .i64 a1_5, .int .i64 a1_6, .slice A1_7 l1_7.length c1_7]) (t := 38) ?_; intro gb2_ hg w2_ hbox hb; replace HS := A_.mk (And.intro HS.out (show gb2_ = w1_.heap.size ∧ gb2_ < w2_.heap.size from ⟨hg, blk_lt hbox⟩)); replace BK1 := aBb BK1 hb; replace HB := aHB HB hb; have BK2 := A_.mk hbox; clear hbox hb hg Q1; have Q1 := blk8_ BK1.out; have Q2 := blk8_ BK2.out))
  go_ret
  exact ⟨rfl, HB.out⟩
 rw [if_pos hc5_] at H
 have hc5_b0 : (a0_4 == a1_4) = true := beq_iff_eq.mpr hc5_
 have hc5_bn : (a0_4 != a1_4) = false := bne_eq_false_iff_eq.mpr hc5_
 replace hc5_ := A_.mk hc5_
 by_cases hc6_ : a0_5 = a1_5
 case neg =>
  rw [if_neg hc6_] at H
  have hc6_b0 : (a0_5 == a1_5) = false := beq_eq_false_iff_ne.mpr hc6_
  have hc6_bn : (a0_5 != a1_5) = true := bne_iff_ne.mpr hc6_
  replace H := Option.some.inj H
  subst H
  have hu38 := Try.underlying38
  go_enter Try.func15, Try.ntmps15
  have HS := A_.mk (Nat.le_refl w.heap.size)
  go_wp2_with (first | ((with_reducible refine gd_ (N := 2) rfl ?_); refine by_ 2 (cs := #[.int .i64 a0_0, .int .i64 a0_1, .int .i64 a0_2, .int .i64 a0_3, .int .i64 a0_4, .int .i64 a0_5, .int .i64 a0_6, .slice A0_7 l0_7.length c0_7]) (t := 38) ?_; intro gb1_ hg w1_ hbox hb; replace HS := A_.mk (And.intro HS.out (show gb1_ = w.heap.size ∧ gb1_ < w1_.heap.size from ⟨hg, blk_lt hbox⟩)); replace HB := aHB HB hb; have BK1 := A_.mk hbox; clear hbox hb hg; have Q1 := blk8_ BK1.out) | ((with_reducible refine gd_ (N := 3) rfl ?_); refine by_ 3 (cs := #[.int .i64 a1_0, .int .i64 a1_1, .int .i64 a1_2, .int .i64 a1_3, .int .i64 a1_4, .int .i64 a1_5, .int .i64 a1_6, .slice A1_7 l1_7.length c1_7]) (t := 38) ?_; intro gb2_ hg w2_ hbox hb; replace HS := A_.mk (And.intro HS.out (show gb2_ = w1_.heap.size ∧ gb2_ < w2_.heap.size from ⟨hg, blk_lt hbox⟩)); replace BK1 := aBb BK1 hb; replace HB := aHB HB hb; have BK2 := A_.mk hbox; clear hbox hb hg Q1; have Q1 := blk8_ BK1.out; have Q2 := blk8_ BK2.out))
  go_ret
  exact ⟨rfl, HB.out⟩
 rw [if_pos hc6_] at H
 have hc6_b0 : (a0_5 == a1_5) = true := beq_iff_eq.mpr hc6_
 have hc6_bn : (a0_5 != a1_5) = false := bne_eq_false_iff_eq.mpr hc6_
 replace hc6_ := A_.mk hc6_
 by_cases hc7_ : a0_6 = a1_6
 case neg =>
  rw [if_neg hc7_] at H
  have hc7_b0 : (a0_6 == a1_6) = false := beq_eq_false_iff_ne.mpr hc7_
  have hc7_bn : (a0_6 != a1_6) = true := bne_iff_ne.mpr hc7_
  replace H := Option.some.inj H
  subst H
  have hu38 := Try.underlying38
  go_enter Try.func15, Try.ntmps15
  have HS := A_.mk (Nat.le_refl w.heap.size)
  go_wp2_with (first | ((with_reducible refine gd_ (N := 2) rfl ?_); refine by_ 2 (cs := #[.int .i64 a0_0, .int .i64 a0_1, .int .i64 a0_2, .int .i64 a0_3, .int .i64 a0_4, .int .i64 a0_5, .int .i64 a0_6, .slice A0_7 l0_7.length c0_7]) (t := 38) ?_; intro gb1_ hg w1_ hbox hb; replace HS := A_.mk (And.intro HS.out (show gb1_ = w.heap.size ∧ gb1_ < w1_.heap.size from ⟨hg, blk_lt hbox⟩)); replace HB := aHB HB hb; have BK1 := A_.mk hbox; clear hbox hb hg; have Q1 := blk8_ BK1.out) | ((with_reducible refine gd_ (N := 3) rfl ?_); refine by_ 3 (cs := #[.int .i64 a1_0, .int .i64 a1_1, .int .i64 a1_2, .int .i64 a1_3, .int .i64 a1_4, .int .i64 a1_5, .int .i64 a1_6, .slice A1_7 l1_7.length c1_7]) (t := 38) ?_; intro gb2_ hg w2_ hbox hb; replace HS := A_.mk (And.intro HS.out (show gb2_ = w1_.heap.size ∧ gb2_ < w2_.heap.size from ⟨hg, blk_lt hbox⟩)); replace BK1 := aBb BK1 hb; replace HB := aHB HB hb; have BK2 := A_.mk hbox; clear hbox hb hg Q1; have Q1 := blk8_ BK1.out; have Q2 := blk8_ BK2.out))
  go_ret
  exact ⟨rfl, HB.out⟩
 rw [if_pos hc7_] at H
 have hc7_b0 : (a0_6 == a1_6) = true := beq_iff_eq.mpr hc7_
 have hc7_bn : (a0_6 != a1_6) = false := bne_eq_false_iff_eq.mpr hc7_
 replace hc7_ := A_.mk hc7_
 replace H := oa_ H
 obtain ⟨t1, A3, H⟩ := H
 replace H := A_.mk H
 have hu38 := Try.underlying38
 go_enter Try.func15, Try.ntmps15
 have HS := A_.mk (Nat.le_refl w.heap.size)
 go_wp2_with (first | ((with_reducible refine gd_ (N := 2) rfl ?_); refine by_ 2 (cs := #[.int .i64 a0_0, .int .i64 a0_1, .int .i64 a0_2, .int .i64 a0_3, .int .i64 a0_4, .int .i64 a0_5, .int .i64 a0_6, .slice A0_7 l0_7.length c0_7]) (t := 38) ?_; intro gb1_ hg w1_ hbox hb; replace HS := A_.mk (And.intro HS.out (show gb1_ = w.heap.size ∧ gb1_ < w1_.heap.size from ⟨hg, blk_lt hbox⟩)); replace HB := aHB HB hb; have BK1 := A_.mk hbox; clear hbox hb hg; have Q1 := blk8_ BK1.out) | ((with_reducible refine gd_ (N := 3) rfl ?_); refine by_ 3 (cs := #[.int .i64 a1_0, .int .i64 a1_1, .int .i64 a1_2, .int .i64 a1_3, .int .i64 a1_4, .int .i64 a1_5, .int .i64 a1_6, .slice A1_7 l1_7.length c1_7]) (t := 38) ?_; intro gb2_ hg w2_ hbox hb; replace HS := A_.mk (And.intro HS.out (show gb2_ = w1_.heap.size ∧ gb2_ < w2_.heap.size from ⟨hg, blk_lt hbox⟩)); replace BK1 := aBb BK1 hb; replace HB := aHB HB hb; have BK2 := A_.mk hbox; clear hbox hb hg Q1; have Q1 := blk8_ BK1.out; have Q2 := blk8_ BK2.out))
 (with_reducible refine (laws_eqIntS.calls k _ _ l0_7 _ _ l1_7 t1 _ (Kd.C_below HR0_7.out HB.out) HC0_7.out (Kd.C_below HR1_7.out HB.out) HC1_7.out A3.out).mono ?_)
 rintro e w3_ ⟨rfl, hb⟩
 replace hb := Drawn0.below hb
 replace HS := aHs HS hb.size
 replace BK1 := aBb BK1 hb
 replace BK2 := aBb BK2 hb
 replace HB := aHB HB hb
 clear hb  Q1 Q2
 have Q1 := blk8_ BK1.out
 have Q2 := blk8_ BK2.out
 replace H := H.out
 by_cases hc8_ : t1 = true
 case pos =>
  rw [if_pos hc8_] at H
  subst hc8_
  replace H := Option.some.inj H
  subst H
  go_wp2
  go_ret
  exact ⟨rfl, HB.out⟩
 rw [if_neg hc8_] at H
 replace hc8_ := eq_false_of_ne_true hc8_
 subst hc8_
 replace H := Option.some.inj H
 subst H
 go_wp2
 go_ret
 exact ⟨rfl, HB.out⟩
end Go.Proofs.Ytlombfmebinjbaa.PFnExactTellCredits
