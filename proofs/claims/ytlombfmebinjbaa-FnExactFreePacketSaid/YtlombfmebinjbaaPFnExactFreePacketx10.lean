-- Written by a program of this session (wip/xp): not trusted, Lean checks it.
import Derived.Test.YtlombfmebinjbaaPFnExactFreePacketx0
import Derived.Test.YtlombfmebinjbaaPFnExactFreePacketx1
import Derived.Test.YtlombfmebinjbaaPFnExactFreePacketx3
import Derived.Test.YtlombfmebinjbaaPFnExactFreePacketx8
import Derived.Test.YtlombfmebinjbaaPFnExactFreePacketx9
namespace Go.Proofs.Ytlombfmebinjbaa.PFnExactFreePacket
open Go.RowKit Go.Proofs.YtlombfmebinjbaaW.PrintWords Go.Proofs.YtlombfmebinjbaaW.PrintLast Go.Proofs.YtlombfmebinjbaaW.PrintMore
attribute [local go_sem] max2_int min2_int max_two min_two max_three min_three max_four min_four   -- for this text's walks alone
set_option linter.unusedVariables false
set_option linter.unusedSimpArgs false

theorem el8_ {w W : World} {a0 a1 a2 a3 a4 a5 a6 a7 : Addr} {v0 v1 v2 v3 v4 v5 v6 v7 : Value} (hb : Below w.heap.size w W) (h : w.cell? a0 = some v0 ∧ w.cell? a1 = some v1 ∧ w.cell? a2 = some v2 ∧ w.cell? a3 = some v3 ∧ w.cell? a4 = some v4 ∧ w.cell? a5 = some v5 ∧ w.cell? a6 = some v6 ∧ w.cell? a7 = some v7) : W.cell? a0 = some v0 ∧ W.cell? a1 = some v1 ∧ W.cell? a2 = some v2 ∧ W.cell? a3 = some v3 ∧ W.cell? a4 = some v4 ∧ W.cell? a5 = some v5 ∧ W.cell? a6 = some v6 ∧ W.cell? a7 = some v7 :=
 ⟨(hb.cell (wl_ _ _ h.1)).trans h.1, (hb.cell (wl_ _ _ h.2.1)).trans h.2.1, (hb.cell (wl_ _ _ h.2.2.1)).trans h.2.2.1, (hb.cell (wl_ _ _ h.2.2.2.1)).trans h.2.2.2.1, (hb.cell (wl_ _ _ h.2.2.2.2.1)).trans h.2.2.2.2.1, (hb.cell (wl_ _ _ h.2.2.2.2.2.1)).trans h.2.2.2.2.2.1, (hb.cell (wl_ _ _ h.2.2.2.2.2.2.1)).trans h.2.2.2.2.2.2.1, (hb.cell (wl_ _ _ h.2.2.2.2.2.2.2)).trans h.2.2.2.2.2.2.2⟩
section
variable {P : Program}
theorem results_cct {fn : Func} {p p' u : Tmp} {ty ty' : TypeId} (h : fn.results = #[.cell p ty, .cell p' ty', .tmp u]) (tmps : Array Value) (w : World) (g : Nat) (t : TypeId) (cs : Array Value) (fr : Nat × Nat) (d : TypeDesc)
  (hp : tmps.getD p undef = .pointer (some ⟨g, 0, none⟩)) (hg : w.heap[g]? = some (.cells cs t fr))
  (hu : P.underlying ty = some d) (hd : (match d with | .struct _ | .array _ _ => true | _ => false) = true) (hi : (P.info? ty).map (·.size) = some cs.size)
  (g' : Nat) (t' : TypeId) (cs' : Array Value) (fr' : Nat × Nat) (d' : TypeDesc) (hp' : tmps.getD p' undef = .pointer (some ⟨g', 0, none⟩)) (hg' : w.heap[g']? = some (.cells cs' t' fr'))
  (hu' : P.underlying ty' = some d') (hd' : (match d' with | .struct _ | .array _ _ => true | _ => false) = true) (hi' : (P.info? ty').map (·.size) = some cs'.size) :
  (results fn tmps).run P w = .ok (.tuple #[.agg cs, .agg cs', tmps.getD u undef]) w := by
 have h1 : tmps[p]?.getD undef = .pointer (some ⟨g, 0, none⟩) := by simpa using hp
 have h2 : tmps[p']?.getD undef = .pointer (some ⟨g', 0, none⟩) := by simpa using hp'
 simp [results, h, h1, h2, asAddr, run_loadVar_row w g t ty cs fr d hg hu hd hi, run_loadVar_row w g' t' ty' cs' fr' d' hg' hu' hd' hi']
end
theorem S_at0 {α : Type} {d : Kd α} {e base n c : Nat} {W : World} {ok : Nat → Prop} {A : Option Addr} {xs : List α} (h : Kd.S d e W base ok (.slice A n c) xs) (hn : 0 < n) : ∃ g, A = some ⟨g, 0, none⟩ := by
 obtain ⟨_, inner, hown, _⟩ := Kd.S_R h
 rcases hown.2 with ⟨hv, _⟩ | ⟨g', cap', cur, hv, _⟩
 ·cases hv; omega
 ·cases hv; exact ⟨_, rfl⟩
theorem S_cap {α : Type} {d : Kd α} {e base n c : Nat} {W : World} {ok : Nat → Prop} {A : Option Addr} {xs : List α} (h : Kd.S d e W base ok (.slice A n c) xs) : c ≤ 9223372036854775807 := by
 obtain ⟨_, inner, hown, _⟩ := Kd.S_R h
 rcases hown.2 with ⟨hv, _⟩ | ⟨g', cap', cur, hv, _, _, _, hcm, _⟩
 ·cases hv; decide
 ·cases hv; exact hcm
/-! ### spec_FreePacket: function 13, its calls in a row -/
def spec_FreePacket.f (k : Nat) (l0_0 : List Int) (l0_1 : List Int) (l0_2 : List Int) (l0_3 : List Int) (l0_4 : List (S38)) (l0_5 : List (S38)) (a1 : Int) : Option ((List Int) × (List Int) × (List Int) × (List Int) × (List (S38)) × (List (S38)) × (Int) × (Int) × (Int) × (Int) × (Int) × (Int) × (Int) × (List Int) × (Bool)) := ((spec_l15Copy.f k l0_0 l0_1 l0_2 l0_3 l0_4 l0_5).bind fun ⟨t1, t2, t3, t4, t5, t6⟩ => ((spec_ChannelOk.f k l0_0 l0_1 l0_2 l0_3 l0_4 l0_5).bind fun t7 => (if t7 = true then ((spec_l01In.f a1 0 (wrap64 ((l0_4.length : Int) - 1))).bind fun t8 => (if t8 = true then (if 0 ≤ a1 then (if a1 < (l0_4.length : Int) then ((spec_l04Copy.f ((rd_T38 l0_4 a1).f0) ((rd_T38 l0_4 a1).f1) ((rd_T38 l0_4 a1).f2) ((rd_T38 l0_4 a1).f3) ((rd_T38 l0_4 a1).f4) ((rd_T38 l0_4 a1).f5) ((rd_T38 l0_4 a1).f6) ((rd_T38 l0_4 a1).f7)).bind fun ⟨t9, t10, t11, t12, t13, t14, t15, t16⟩ => (if (t6.length + 1) * 80 ≤ 140737488355328 then (if 0 ≤ a1 then (if a1 < (t5.length : Int) then ((spec_l04Copy.f ((rd_T38 l0_4 a1).f0) ((rd_T38 l0_4 a1).f1) ((rd_T38 l0_4 a1).f2) ((rd_T38 l0_4 a1).f3) ((rd_T38 l0_4 a1).f4) ((rd_T38 l0_4 a1).f5) ((rd_T38 l0_4 a1).f6) ((rd_T38 l0_4 a1).f7)).bind fun ⟨t19, t20, t21, t22, t23, t24, t25, t26⟩ => (some (t1, t2, t3, t4, (t5.eraseIdx (a1).toNat), (t6 ++ [(⟨t9, t10, t11, t12, t13, t14, t15, t16⟩ : S38)]), t19, t20, t21, t22, t23, t24, t25, t26, true))) else none) else none) else none)) else none) else none) else (some (t1, t2, t3, t4, t5, t6, 0, 0, 0, 0, 0, 0, 0, [], false)))) else (some (t1, t2, t3, t4, t5, t6, 0, 0, 0, 0, 0, 0, 0, [], false)))))
set_option maxHeartbeats 8000000 in
set_option maxRecDepth 100000 in
theorem spec_FreePacket.calls (k : Nat) (A0_0 : Option Addr) (c0_0 : Nat) (l0_0 : List Int) (A0_1 : Option Addr) (c0_1 : Nat) (l0_1 : List Int) (A0_2 : Option Addr) (c0_2 : Nat) (l0_2 : List Int) (A0_3 : Option Addr) (c0_3 : Nat) (l0_3 : List Int) (P0_4_ : Nat → Prop) (A0_4 : Option Addr) (c0_4 : Nat) (l0_4 : List (S38)) (P0_5_ : Nat → Prop) (A0_5 : Option Addr) (c0_5 : Nat) (l0_5 : List (S38)) (a1 : Int) (r1 : List Int) (r2 : List Int) (r3 : List Int) (r4 : List Int) (r5 : List (S38)) (r6 : List (S38)) (r7 : Int) (r8 : Int) (r9 : Int) (r10 : Int) (r11 : Int) (r12 : Int) (r13 : Int) (r14 : List Int) (r15 : Bool) (w : World) (hr0_0 : Kd.C (Kd.int .i64) w A0_0 l0_0.length l0_0) (hc0_0 : l0_0.length ≤ c0_0) (hr0_1 : Kd.C (Kd.int .i64) w A0_1 l0_1.length l0_1) (hc0_1 : l0_1.length ≤ c0_1) (hr0_2 : Kd.C (Kd.int .i64) w A0_2 l0_2.length l0_2) (hc0_2 : l0_2.length ≤ c0_2) (hr0_3 : Kd.C (Kd.int .i64) w A0_3 l0_3.length l0_3) (hc0_3 : l0_3.length ≤ c0_3) (hs0_4 : Kd.V k38 38 w w.heap.size (fun k_ => P0_4_ k_) (.slice A0_4 l0_4.length c0_4) l0_4) (hs0_5 : Kd.V k38 38 w w.heap.size (fun k_ => P0_5_ k_) (.slice A0_5 l0_5.length c0_5) l0_5) (h : spec_FreePacket.f k l0_0 l0_1 l0_2 l0_3 l0_4 l0_5 a1 = some (r1, r2, r3, r4, r5, r6, r7, r8, r9, r10, r11, r12, r13, r14, r15)) :
  Calls Try.prog 13 #[.agg #[.slice A0_0 l0_0.length c0_0, .slice A0_1 l0_1.length c0_1, .slice A0_2 l0_2.length c0_2, .slice A0_3 l0_3.length c0_3, .slice A0_4 l0_4.length c0_4, .slice A0_5 l0_5.length c0_5], .int .i64 a1] w fun e w' => ∃ v0_ v1_ v2_ v3_ v4_ v5_ v6_ : Value, e = .returned (.tuple #[.agg #[v0_, v1_, v2_, v3_, v4_, v5_], .agg #[.int .i64 r7, .int .i64 r8, .int .i64 r9, .int .i64 r10, .int .i64 r11, .int .i64 r12, .int .i64 r13, v6_], .bool r15]) ∧ Kd.V (Kd.int .i64) 3 w' w.heap.size (fun k_ => w.heap.size ≤ k_) v0_ r1 ∧ Kd.V (Kd.int .i64) 3 w' w.heap.size (fun k_ => w.heap.size ≤ k_) v1_ r2 ∧ Kd.V (Kd.int .i64) 3 w' w.heap.size (fun k_ => w.heap.size ≤ k_) v2_ r3 ∧ Kd.V (Kd.int .i64) 3 w' w.heap.size (fun k_ => w.heap.size ≤ k_) v3_ r4 ∧ Kd.V k38 38 w' w.heap.size (fun k_ => w.heap.size ≤ k_) v4_ r5 ∧ Kd.V k38 38 w' w.heap.size (fun k_ => w.heap.size ≤ k_) v5_ r6 ∧ Kd.V (Kd.int .i64) 3 w' w.heap.size (fun k_ => w.heap.size ≤ k_) v6_ r14 ∧ Below w.heap.size w w' := by
 have HR0_0 := A_.mk hr0_0
 have HC0_0 := A_.mk hc0_0
 clear hr0_0 hc0_0
 have HR0_1 := A_.mk hr0_1
 have HC0_1 := A_.mk hc0_1
 clear hr0_1 hc0_1
 have HR0_2 := A_.mk hr0_2
 have HC0_2 := A_.mk hc0_2
 clear hr0_2 hc0_2
 have HR0_3 := A_.mk hr0_3
 have HC0_3 := A_.mk hc0_3
 clear hr0_3 hc0_3
 have HV0_4 := A_.mk (Kd.V_mono (ok' := fun k_ => k_ < w.heap.size) (Kd.V_bound hs0_4) (fun k_ hk_ => hk_.2))
 have HW0_4 := A_.mk ((Kd.V_reads' hs0_4).2.2)
 clear hs0_4
 have HV0_5 := A_.mk (Kd.V_mono (ok' := fun k_ => k_ < w.heap.size) (Kd.V_bound hs0_5) (fun k_ hk_ => hk_.2))
 clear hs0_5
 have HB := A_.mk (Below.refl w.heap.size w)
 unfold spec_FreePacket.f at h
 have H := h
 clear h
 replace H := ob_ H
 obtain ⟨⟨t1, t2, t3, t4, t5, t6⟩, A4_0, H⟩ := H
 have A4 := A_.mk A4_0
 clear A4_0
 try dsimp only at H
 replace H := ob_ H
 obtain ⟨t7, A7_0, H⟩ := H
 have A7 := A_.mk A7_0
 clear A7_0
 replace H := A_.mk H
 have hu33 := Try.underlying33
 have hu38 := Try.underlying38
 go_enter Try.func13, Try.ntmps13
 have HS := A_.mk (Nat.le_refl w.heap.size)
 go_wp2_with (first | ((with_reducible refine gd_ (N := 2) rfl ?_); refine by_ 2 (cs := #[.slice A0_0 l0_0.length c0_0, .slice A0_1 l0_1.length c0_1, .slice A0_2 l0_2.length c0_2, .slice A0_3 l0_3.length c0_3, .slice A0_4 l0_4.length c0_4, .slice A0_5 l0_5.length c0_5]) (t := 33) ?_; intro gb1_ hg w1_ hbox hb; replace HS := A_.mk (And.intro HS.out (show gb1_ = w.heap.size ∧ gb1_ < w1_.heap.size from ⟨hg, blk_lt hbox⟩)); replace HV0_4 := aVb HV0_4 hb; replace HV0_5 := aVb HV0_5 hb; replace HB := aHB HB hb; have BK1 := A_.mk hbox; clear hbox hb hg; obtain ⟨q1_0, q1_1, q1_2, q1_3, q1_4, q1_5⟩ := blk6_ BK1.out) | ((with_reducible refine gd_ (N := 4) rfl ?_); refine by_ 4 (cs := #[.slice none 0 0, .slice none 0 0, .slice none 0 0, .slice none 0 0, .slice none 0 0, .slice none 0 0]) (t := 33) ?_; intro gb2_ hg w2_ hbox hb; replace HS := A_.mk (And.intro HS.out (show gb2_ = w1_.heap.size ∧ gb2_ < w2_.heap.size from ⟨hg, blk_lt hbox⟩)); replace HV0_4 := aVb HV0_4 hb; replace HV0_5 := aVb HV0_5 hb; replace BK1 := aBb BK1 hb; replace HB := aHB HB hb; have BK2 := A_.mk hbox; clear hbox hb hg q1_0 q1_1 q1_2 q1_3 q1_4 q1_5; obtain ⟨q1_0, q1_1, q1_2, q1_3, q1_4, q1_5⟩ := blk6_ BK1.out; obtain ⟨q2_0, q2_1, q2_2, q2_3, q2_4, q2_5⟩ := blk6_ BK2.out) | ((with_reducible refine gd_ (N := 5) rfl ?_); refine by_ 5 (cs := #[.int .i64 0, .int .i64 0, .int .i64 0, .int .i64 0, .int .i64 0, .int .i64 0, .int .i64 0, .slice none 0 0]) (t := 38) ?_; intro gb3_ hg w3_ hbox hb; replace HS := A_.mk (And.intro HS.out (show gb3_ = w2_.heap.size ∧ gb3_ < w3_.heap.size from ⟨hg, blk_lt hbox⟩)); replace HV0_4 := aVb HV0_4 hb; replace HV0_5 := aVb HV0_5 hb; replace BK1 := aBb BK1 hb; replace BK2 := aBb BK2 hb; replace HB := aHB HB hb; have BK3 := A_.mk hbox; clear hbox hb hg q1_0 q1_1 q1_2 q1_3 q1_4 q1_5 q2_0 q2_1 q2_2 q2_3 q2_4 q2_5; obtain ⟨q1_0, q1_1, q1_2, q1_3, q1_4, q1_5⟩ := blk6_ BK1.out; obtain ⟨q2_0, q2_1, q2_2, q2_3, q2_4, q2_5⟩ := blk6_ BK2.out; obtain ⟨q3_0, q3_1, q3_2, q3_3, q3_4, q3_5, q3_6, q3_7⟩ := blk8_ BK3.out) | ((with_reducible refine gc_ (f := 48) rfl ?_); refine gl_ (some 9) Try.func48 #[.agg #[.slice A0_0 l0_0.length c0_0, .slice A0_1 l0_1.length c0_1, .slice A0_2 l0_2.length c0_2, .slice A0_3 l0_3.length c0_3, .slice A0_4 l0_4.length c0_4, .slice A0_5 l0_5.length c0_5]] ?_; (with_reducible refine (spec_l15Copy.calls k _ _ l0_0 _ _ l0_1 _ _ l0_2 _ _ l0_3 _ _ l0_4 _ _ l0_5 t1 t2 t3 t4 t5 t6 _ (Kd.C_below HR0_0.out HB.out) HC0_0.out (Kd.C_below HR0_1.out HB.out) HC0_1.out (Kd.C_below HR0_2.out HB.out) HC0_2.out (Kd.C_below HR0_3.out HB.out) HC0_3.out (Kd.V_reads' HV0_4.out).2.2 (Kd.V_reads' HV0_4.out).2.1 (Kd.V_reads' HV0_5.out).2.2 (Kd.V_reads' HV0_5.out).2.1 A4.out).mono ?_); rintro e w4_ ⟨f4_, v0_, v1_, v2_, v3_, v4_, v5_, rfl, ho0_, ho1_, ho2_, ho3_, ho4_, ho5_, hb⟩; refine ⟨_, rfl, ?_⟩; replace HS := aHs HS hb.size; obtain ⟨Ao4_0, co4_0, ev_⟩ := Kd.R_slice ho0_; subst ev_; have HO4_0 := aRn ho0_ HB.out.size; obtain ⟨Ao4_1, co4_1, ev_⟩ := Kd.R_slice ho1_; subst ev_; have HO4_1 := aRn ho1_ HB.out.size; obtain ⟨Ao4_2, co4_2, ev_⟩ := Kd.R_slice ho2_; subst ev_; have HO4_2 := aRn ho2_ HB.out.size; obtain ⟨Ao4_3, co4_3, ev_⟩ := Kd.R_slice ho3_; subst ev_; have HO4_3 := aRn ho3_ HB.out.size; obtain ⟨Ao4_4, co4_4, ev_⟩ := Kd.S_slice ho4_; subst ev_; have HO4_4 := aSn ho4_ HB.out.size; obtain ⟨Ao4_5, co4_5, ev_⟩ := Kd.S_slice ho5_; subst ev_; have HO4_5 := aSn ho5_ HB.out.size; replace HV0_4 := aVb HV0_4 hb; replace HV0_5 := aVb HV0_5 hb; replace BK1 := aBb BK1 hb; replace BK2 := aBb BK2 hb; replace BK3 := aBb BK3 hb; replace HB := aHB HB hb; clear hb ho0_ ho1_ ho2_ ho3_ ho4_ ho5_ q1_0 q1_1 q1_2 q1_3 q1_4 q1_5 q2_0 q2_1 q2_2 q2_3 q2_4 q2_5 q3_0 q3_1 q3_2 q3_3 q3_4 q3_5 q3_6 q3_7; obtain ⟨q1_0, q1_1, q1_2, q1_3, q1_4, q1_5⟩ := blk6_ BK1.out; obtain ⟨q2_0, q2_1, q2_2, q2_3, q2_4, q2_5⟩ := blk6_ BK2.out; obtain ⟨q3_0, q3_1, q3_2, q3_3, q3_4, q3_5, q3_6, q3_7⟩ := blk8_ BK3.out) | ((with_reducible refine gd_ (N := 7) rfl ?_); refine by_ 7 (cs := #[.slice none 0 0, .slice none 0 0, .slice none 0 0, .slice none 0 0, .slice none 0 0, .slice none 0 0]) (t := 33) ?_; intro gb5_ hg w5_ hbox hb; replace HS := A_.mk (And.intro HS.out (show gb5_ = w4_.heap.size ∧ gb5_ < w5_.heap.size from ⟨hg, blk_lt hbox⟩)); replace HV0_4 := aVb HV0_4 hb; replace HV0_5 := aVb HV0_5 hb; replace HO4_0 := aRb HO4_0 hb; replace HO4_1 := aRb HO4_1 hb; replace HO4_2 := aRb HO4_2 hb; replace HO4_3 := aRb HO4_3 hb; replace HO4_4 := aSb HO4_4 hb; replace HO4_5 := aSb HO4_5 hb; replace BK1 := aBb BK1 hb; replace BK2 := aBb BK2 hb; replace BK3 := aBb BK3 hb; replace HB := aHB HB hb; have BK5 := A_.mk hbox; clear hbox hb hg q1_0 q1_1 q1_2 q1_3 q1_4 q1_5 q2_0 q2_1 q2_2 q2_3 q2_4 q2_5 q3_0 q3_1 q3_2 q3_3 q3_4 q3_5 q3_6 q3_7; obtain ⟨q1_0, q1_1, q1_2, q1_3, q1_4, q1_5⟩ := blk6_ BK1.out; obtain ⟨q2_0, q2_1, q2_2, q2_3, q2_4, q2_5⟩ := blk6_ BK2.out; obtain ⟨q3_0, q3_1, q3_2, q3_3, q3_4, q3_5, q3_6, q3_7⟩ := blk8_ BK3.out; obtain ⟨q5_0, q5_1, q5_2, q5_3, q5_4, q5_5⟩ := blk6_ BK5.out) | ((with_reducible refine gs_ (t := 33) (p := 7) rfl ?_); have qf0 := bf_ BK5.out 0; have qf1 := bf_ BK5.out 1; have qf2 := bf_ BK5.out 2; have qf3 := bf_ BK5.out 3; have qf4 := bf_ BK5.out 4; have qf5 := bf_ BK5.out 5; refine se_ (t := 33) (p := 7) (v := ?vo_6) (w1 := (ch6_ w5_ gb5_ (.slice Ao4_0 t1.length co4_0) (.slice Ao4_1 t2.length co4_1) (.slice Ao4_2 t3.length co4_2) (.slice Ao4_3 t4.length co4_3) (.slice Ao4_4 t5.length co4_4) (.slice Ao4_5 t6.length co4_5))) ?hg ?ho ?hn ?hr ?_; (case ho => rfl); (case hg => rfl); (case hn => rfl); (case hr => first | (go_simp; done) | (go_simp; rfl)); intro w6_ hw; clear qf0 qf1 qf2 qf3 qf4 qf5; obtain ⟨hbx, hkp, hbb⟩ := st6_ hw BK5 HB (by have := HS.out; omega); clear hw; replace HV0_4 := aVk HV0_4 hkp HS; replace HV0_5 := aVk HV0_5 hkp HS; replace HO4_0 := aRk HO4_0 hkp HS; replace HO4_1 := aRk HO4_1 hkp HS; replace HO4_2 := aRk HO4_2 hkp HS; replace HO4_3 := aRk HO4_3 hkp HS; replace HO4_4 := aSk HO4_4 hkp HS; replace HO4_5 := aSk HO4_5 hkp HS; replace BK1 := aBk BK1 hkp HS; replace BK2 := aBk BK2 hkp HS; replace BK3 := aBk BK3 hkp HS; replace BK5 := A_.mk hbx; replace HB := A_.mk hbb; replace HS := aHs HS hkp.1; clear hkp hbb hbx q1_0 q1_1 q1_2 q1_3 q1_4 q1_5 q2_0 q2_1 q2_2 q2_3 q2_4 q2_5 q3_0 q3_1 q3_2 q3_3 q3_4 q3_5 q3_6 q3_7 q5_0 q5_1 q5_2 q5_3 q5_4 q5_5; obtain ⟨q1_0, q1_1, q1_2, q1_3, q1_4, q1_5⟩ := blk6_ BK1.out; obtain ⟨q2_0, q2_1, q2_2, q2_3, q2_4, q2_5⟩ := blk6_ BK2.out; obtain ⟨q3_0, q3_1, q3_2, q3_3, q3_4, q3_5, q3_6, q3_7⟩ := blk8_ BK3.out; obtain ⟨q5_0, q5_1, q5_2, q5_3, q5_4, q5_5⟩ := blk6_ BK5.out))
 (with_reducible refine (spec_ChannelOk.calls k _ _ l0_0 _ _ l0_1 _ _ l0_2 _ _ l0_3 (fun k_ => k_ < w.heap.size) _ _ l0_4 (fun k_ => k_ < w.heap.size) _ _ l0_5 t7 _ (Kd.C_below HR0_0.out HB.out) HC0_0.out (Kd.C_below HR0_1.out HB.out) HC0_1.out (Kd.C_below HR0_2.out HB.out) HC0_2.out (Kd.C_below HR0_3.out HB.out) HC0_3.out (V_any HV0_4.out) (V_any HV0_5.out) A7.out).mono ?_)
 rintro e w7_ ⟨rfl, hb⟩
 replace HS := aHs HS hb.size
 replace HV0_4 := aVb HV0_4 hb
 replace HV0_5 := aVb HV0_5 hb
 replace HO4_0 := aRb HO4_0 hb
 replace HO4_1 := aRb HO4_1 hb
 replace HO4_2 := aRb HO4_2 hb
 replace HO4_3 := aRb HO4_3 hb
 replace HO4_4 := aSb HO4_4 hb
 replace HO4_5 := aSb HO4_5 hb
 replace BK1 := aBb BK1 hb
 replace BK2 := aBb BK2 hb
 replace BK3 := aBb BK3 hb
 replace BK5 := aBb BK5 hb
 replace HB := aHB HB hb
 clear hb  q1_0 q1_1 q1_2 q1_3 q1_4 q1_5 q2_0 q2_1 q2_2 q2_3 q2_4 q2_5 q3_0 q3_1 q3_2 q3_3 q3_4 q3_5 q3_6 q3_7 q5_0 q5_1 q5_2 q5_3 q5_4 q5_5
 obtain ⟨q1_0, q1_1, q1_2, q1_3, q1_4, q1_5⟩ := blk6_ BK1.out
 obtain ⟨q2_0, q2_1, q2_2, q2_3, q2_4, q2_5⟩ := blk6_ BK2.out
 obtain ⟨q3_0, q3_1, q3_2, q3_3, q3_4, q3_5, q3_6, q3_7⟩ := blk8_ BK3.out
 obtain ⟨q5_0, q5_1, q5_2, q5_3, q5_4, q5_5⟩ := blk6_ BK5.out
 replace H := H.out
 by_cases hc1_ : t7 = true
 case pos =>
  rw [if_pos hc1_] at H
  subst hc1_
  replace H := ob_ H
  obtain ⟨t8, A8_0, H⟩ := H
  have A8 := A_.mk A8_0
  clear A8_0
  replace H := A_.mk H
  go_wp2_with (fail)
  (with_reducible refine (spec_l01In.calls a1 0 (wrap64 ((l0_4.length : Int) - 1)) t8 _ A8.out).mono ?_)
  rintro e w8_ ⟨rfl, hb⟩
  replace hb := Drawn0.below hb
  replace HS := aHs HS hb.size
  replace HO4_0 := aRb HO4_0 hb
  replace HO4_1 := aRb HO4_1 hb
  replace HO4_2 := aRb HO4_2 hb
  replace HO4_3 := aRb HO4_3 hb
  replace HO4_4 := aSb HO4_4 hb
  replace HO4_5 := aSb HO4_5 hb
  replace BK1 := aBb BK1 hb
  replace BK2 := aBb BK2 hb
  replace BK3 := aBb BK3 hb
  replace BK5 := aBb BK5 hb
  replace HB := aHB HB hb
  clear hb  q1_0 q1_1 q1_2 q1_3 q1_4 q1_5 q2_0 q2_1 q2_2 q2_3 q2_4 q2_5 q3_0 q3_1 q3_2 q3_3 q3_4 q3_5 q3_6 q3_7 q5_0 q5_1 q5_2 q5_3 q5_4 q5_5
  obtain ⟨q1_0, q1_1, q1_2, q1_3, q1_4, q1_5⟩ := blk6_ BK1.out
  obtain ⟨q2_0, q2_1, q2_2, q2_3, q2_4, q2_5⟩ := blk6_ BK2.out
  obtain ⟨q3_0, q3_1, q3_2, q3_3, q3_4, q3_5, q3_6, q3_7⟩ := blk8_ BK3.out
  obtain ⟨q5_0, q5_1, q5_2, q5_3, q5_4, q5_5⟩ := blk6_ BK5.out
  replace H := H.out
  by_cases hc2_ : t8 = true
  case pos =>
   rw [if_pos hc2_] at H
   subst hc2_
   by_cases hp9_ : 0 ≤ a1
   case neg => rw [if_neg hp9_] at H; cases H
   rw [if_pos hp9_] at H
   by_cases hq9_ : a1 < (l0_4.length : Int)
   case neg => rw [if_neg hq9_] at H; cases H
   rw [if_pos hq9_] at H
   have EB9 := A_.mk (And.intro hp9_ hq9_)
   obtain ⟨ad9_, A9_7, c9_7, eA_, hx0_, hx1_, hx2_, hx3_, hx4_, hx5_, hx6_, hx7_, hl7_, hi7_⟩ := at_T38 HW0_4.out a1 hp9_ hq9_
   subst eA_
   have HX9 := A_.mk (And.intro hx0_ (And.intro hx1_ (And.intro hx2_ (And.intro hx3_ (And.intro hx4_ (And.intro hx5_ (And.intro hx6_ hx7_)))))))
   have HE9_7 := A_.mk hi7_
   have HD9_7 := A_.mk hl7_
   clear hx0_ hx1_ hx2_ hx3_ hx4_ hx5_ hx6_ hx7_ hl7_ hi7_
   replace hp9_ := eq_true hp9_
   replace hq9_ := eq_true hq9_
   replace H := ob_ H
   obtain ⟨⟨t9, t10, t11, t12, t13, t14, t15, t16⟩, A10_0, H⟩ := H
   have A10 := A_.mk A10_0
   clear A10_0
   try dsimp only at H
   by_cases hl3_ : (t6.length + 1) * 80 ≤ 140737488355328
   case neg => rw [if_neg hl3_] at H; cases H
   rw [if_pos hl3_] at H
   have LM11 := A_.mk hl3_
   clear hl3_
   obtain ⟨y17, Ny17⟩ : ∃ q_, q_ = (t6 ++ [(⟨t9, t10, t11, t12, t13, t14, t15, t16⟩ : S38)]) := ⟨_, rfl⟩
   rw [← Ny17] at H
   replace Ny17 := A_.mk Ny17
   by_cases hp13_ : 0 ≤ a1
   case neg => rw [if_neg hp13_] at H; cases H
   rw [if_pos hp13_] at H
   by_cases hq13_ : a1 < (t5.length : Int)
   case neg => rw [if_neg hq13_] at H; cases H
   rw [if_pos hq13_] at H
   have EB13 := A_.mk (And.intro hp13_ hq13_)
   clear hp13_ hq13_
   obtain ⟨y18, Ny18⟩ : ∃ q_, q_ = (t5.eraseIdx (a1).toNat) := ⟨_, rfl⟩
   rw [← Ny18] at H
   replace Ny18 := A_.mk Ny18
   replace H := ob_ H
   obtain ⟨⟨t19, t20, t21, t22, t23, t24, t25, t26⟩, A15_0, H⟩ := H
   have A15 := A_.mk A15_0
   clear A15_0
   try dsimp only at H
   simp only [Option.some.injEq, Prod.mk.injEq] at H
   obtain ⟨rfl, rfl, rfl, rfl, rfl, rfl, rfl, rfl, rfl, rfl, rfl, rfl, rfl, rfl, rfl⟩ := H
   go_wp2_with (fail)
   refine start_ (n := 12) (S := fun w' => (w'.cell? ⟨gb1_, 0, none⟩ = some (.slice A0_0 l0_0.length c0_0) ∧ w'.cell? ⟨gb1_, 1, none⟩ = some (.slice A0_1 l0_1.length c0_1) ∧ w'.cell? ⟨gb1_, 2, none⟩ = some (.slice A0_2 l0_2.length c0_2) ∧ w'.cell? ⟨gb1_, 3, none⟩ = some (.slice A0_3 l0_3.length c0_3) ∧ w'.cell? ⟨gb1_, 4, none⟩ = some (.slice (some ad9_) l0_4.length c0_4) ∧ w'.cell? ⟨gb1_, 5, none⟩ = some (.slice A0_5 l0_5.length c0_5)) ∧ (w'.cell? ⟨gb5_, 0, none⟩ = some (.slice Ao4_0 t1.length co4_0) ∧ w'.cell? ⟨gb5_, 1, none⟩ = some (.slice Ao4_1 t2.length co4_1) ∧ w'.cell? ⟨gb5_, 2, none⟩ = some (.slice Ao4_2 t3.length co4_2) ∧ w'.cell? ⟨gb5_, 3, none⟩ = some (.slice Ao4_3 t4.length co4_3) ∧ w'.cell? ⟨gb5_, 4, none⟩ = some (.slice Ao4_4 t5.length co4_4) ∧ w'.cell? ⟨gb5_, 5, none⟩ = some (.slice Ao4_5 t6.length co4_5)) ∧ (w'.cell? (ad9_.add ((a1).toNat * 8)) = some (.int .i64 ((rd_T38 l0_4 a1).f0)) ∧ w'.cell? ⟨(ad9_.add ((a1).toNat * 8)).block, (ad9_.add ((a1).toNat * 8)).off + 1, none⟩ = some (.int .i64 ((rd_T38 l0_4 a1).f1)) ∧ w'.cell? ⟨(ad9_.add ((a1).toNat * 8)).block, (ad9_.add ((a1).toNat * 8)).off + 2, none⟩ = some (.int .i64 ((rd_T38 l0_4 a1).f2)) ∧ w'.cell? ⟨(ad9_.add ((a1).toNat * 8)).block, (ad9_.add ((a1).toNat * 8)).off + 3, none⟩ = some (.int .i64 ((rd_T38 l0_4 a1).f3)) ∧ w'.cell? ⟨(ad9_.add ((a1).toNat * 8)).block, (ad9_.add ((a1).toNat * 8)).off + 4, none⟩ = some (.int .i64 ((rd_T38 l0_4 a1).f4)) ∧ w'.cell? ⟨(ad9_.add ((a1).toNat * 8)).block, (ad9_.add ((a1).toNat * 8)).off + 5, none⟩ = some (.int .i64 ((rd_T38 l0_4 a1).f5)) ∧ w'.cell? ⟨(ad9_.add ((a1).toNat * 8)).block, (ad9_.add ((a1).toNat * 8)).off + 6, none⟩ = some (.int .i64 ((rd_T38 l0_4 a1).f6)) ∧ w'.cell? ⟨(ad9_.add ((a1).toNat * 8)).block, (ad9_.add ((a1).toNat * 8)).off + 7, none⟩ = some (.slice A9_7 ((rd_T38 l0_4 a1).f7).length c9_7))) (ds := [11]) #[F, F, F, F, F, F, F, F, F, F, F, F] (by kernel_rfl) rfl rfl ⟨blk6_ BK1.out, blk6_ BK5.out, el8_ (below_drew HB.out) HX9.out⟩ (fun hHeld => ?_)
   clear q1_0 q1_1 q1_2 q1_3 q1_4 q1_5 q2_0 q2_1 q2_2 q2_3 q2_4 q2_5 q3_0 q3_1 q3_2 q3_3 q3_4 q3_5 q3_6 q3_7 q5_0 q5_1 q5_2 q5_3 q5_4 q5_5
   have hb := below_drew (Below.refl w8_.heap.size w8_)
   replace HS := aHs HS hb.size
   replace HO4_0 := aRb HO4_0 hb
   replace HO4_1 := aRb HO4_1 hb
   replace HO4_2 := aRb HO4_2 hb
   replace HO4_3 := aRb HO4_3 hb
   replace HO4_4 := aSb HO4_4 hb
   replace HO4_5 := aSb HO4_5 hb
   replace BK1 := aBb BK1 hb
   replace BK2 := aBb BK2 hb
   replace BK3 := aBb BK3 hb
   replace BK5 := aBb BK5 hb
   replace HB := aHB HB hb
   clear hb
   generalize w8_.drew = w22d_ at HO4_0 HO4_1 HO4_2 HO4_3 HO4_4 HO4_5 BK1 BK2 BK3 BK5 HB HS hHeld ⊢
   refine pd_ (i := 0) (N := some 24) #[T, F, F, F, F, F, F, F, F, F, F, F] rfl ?_
   refine take_ (i := 1) (N := some 25) (v := ?_) (a' := ?_) #[T, T, F, F, F, F, F, F, F, F, F, F] rfl rfl (by kernel_rfl) (fun _ _ _ h => h) (Or.inl ⟨by rfl, ?_⟩) hHeld ?_ ?_
   rotate_left
   ·rintro w' ⟨⟨s1_0, s1_1, s1_2, s1_3, s1_4, s1_5⟩, ⟨s5_0, s5_1, s5_2, s5_3, s5_4, s5_5⟩, ⟨r9_0, r9_1, r9_2, r9_3, r9_4, r9_5, r9_6, r9_7⟩⟩
    go_simp
    with_reducible rfl
   rotate_left
   ·simp only [pS]
    rfl
   refine pd_ (i := 2) (N := some 26) #[T, T, T, F, F, F, F, F, F, F, F, F] rfl ?_
   refine take_ (i := 3) (N := some 27) (v := ?_) (a' := ?_) #[T, T, T, T, F, F, F, F, F, F, F, F] rfl rfl (by kernel_rfl) (fun _ _ _ h => h) (Or.inl ⟨by rfl, ?_⟩) hHeld ?_ ?_
   rotate_left
   ·rintro w' ⟨⟨s1_0, s1_1, s1_2, s1_3, s1_4, s1_5⟩, ⟨s5_0, s5_1, s5_2, s5_3, s5_4, s5_5⟩, ⟨r9_0, r9_1, r9_2, r9_3, r9_4, r9_5, r9_6, r9_7⟩⟩
    go_simp
    with_reducible rfl
   rotate_left
   ·simp only [pS]
    rfl
   refine pd_ (i := 4) (N := some 28) #[T, T, T, T, T, F, F, F, F, F, F, F] rfl ?_
   refine pd_ (i := 5) (N := some 29) #[T, T, T, T, T, T, F, F, F, F, F, F] rfl ?_
   refine take_ (i := 6) (N := some 30) (v := ?_) (a' := ?_) #[T, T, T, T, T, T, T, F, F, F, F, F] rfl rfl (by kernel_rfl) (fun _ _ _ h => h) (Or.inl ⟨by rfl, ?_⟩) hHeld ?_ ?_
   rotate_left
   ·rintro w' ⟨⟨s1_0, s1_1, s1_2, s1_3, s1_4, s1_5⟩, ⟨s5_0, s5_1, s5_2, s5_3, s5_4, s5_5⟩, ⟨r9_0, r9_1, r9_2, r9_3, r9_4, r9_5, r9_6, r9_7⟩⟩
    go_simp
    with_reducible rfl
   rotate_left
   ·simp only [pS]
    rfl
   refine one_ (i := 7) (N := some 31) #[T, T, T, T, T, T, T, T, F, F, F, F] rfl rfl (by kernel_rfl) (by decide) (fun K hK => ?_)
   refine goes_ Try.func50 (by kernel_rfl) rfl #[.agg #[.int .i64 ((rd_T38 l0_4 a1).f0), .int .i64 ((rd_T38 l0_4 a1).f1), .int .i64 ((rd_T38 l0_4 a1).f2), .int .i64 ((rd_T38 l0_4 a1).f3), .int .i64 ((rd_T38 l0_4 a1).f4), .int .i64 ((rd_T38 l0_4 a1).f5), .int .i64 ((rd_T38 l0_4 a1).f6), .slice A9_7 ((rd_T38 l0_4 a1).f7).length c9_7]] (by rfl) rfl rfl (by (try simp only [List.map_toArray, List.map_cons, List.map_nil]); first | done | rfl) ?_
   with_reducible refine (spec_l04Copy.calls ((rd_T38 l0_4 a1).f0) ((rd_T38 l0_4 a1).f1) ((rd_T38 l0_4 a1).f2) ((rd_T38 l0_4 a1).f3) ((rd_T38 l0_4 a1).f4) ((rd_T38 l0_4 a1).f5) ((rd_T38 l0_4 a1).f6) _ _ ((rd_T38 l0_4 a1).f7) t9 t10 t11 t12 t13 t14 t15 t16 _ (Kd.C_below HE9_7.out HB.out) HD9_7.out A10.out).mono ?_
   rintro e w10_ ⟨v7_, rfl, ho0_, hb⟩
   refine ⟨_, rfl, ?_⟩
   replace HS := aHs HS hb.size
   obtain ⟨Ao10_7, co10_7, ev_⟩ := Kd.R_slice ho0_
   subst ev_
   have HO10_7 := aRm ho0_ HB.out.size
   replace HO4_0 := aRb HO4_0 hb
   replace HO4_1 := aRb HO4_1 hb
   replace HO4_2 := aRb HO4_2 hb
   replace HO4_3 := aRb HO4_3 hb
   replace HO4_4 := aSb HO4_4 hb
   replace HO4_5 := aSb HO4_5 hb
   replace BK1 := aBb BK1 hb
   replace BK2 := aBb BK2 hb
   replace BK3 := aBb BK3 hb
   replace BK5 := aBb BK5 hb
   replace HB := aHB HB hb
   clear hb ho0_
   refine hK.out _ _ ⟨blk6_ BK1.out, blk6_ BK5.out, el8_ HB.out HX9.out⟩ (fun hHeld => ?_)
   clear hK K
   refine norm_ (a' := ?_) ?_ ?_
   rotate_left
   ·show Act.put _ (some 31) _ = _
    simp only [pS]
    rfl
   refine one_ (i := 8) (N := some 32) #[T, T, T, T, T, T, T, T, T, F, F, F] rfl rfl (by kernel_rfl) (by decide) (fun K hK => ?_)
   refine value_ (w1 := ?_) (v := ?_) (by rfl) rfl ?_ ?_
   rotate_left 2
   ·go_simp
    constructor
    ·rfl
    ·rfl
   refine hK.out _ _ ⟨blk6_ (bl_ BK1.out _), blk6_ (bl_ BK5.out _), el8_ (ba_ HB.out _) HX9.out⟩ (fun hHeld => ?_)
   clear hK K
   refine norm_ (a' := ?_) ?_ ?_
   rotate_left
   ·show Act.put _ (some 32) _ = _
    simp only [pS]
    rfl
   refine one_ (i := 9) (N := some 33) #[T, T, T, T, T, T, T, T, T, T, F, F] rfl rfl (by kernel_rfl) (by decide) (fun K hK => ?_)
   refine Kd.S_append_step k38 (w0 := w) w.heap.size (by rfl) (.tmp 25) (.tmp 32) 31 38 ((.agg #[(.int .i64 0), (.int .i64 0), (.int .i64 0), (.int .i64 0), (.int .i64 0), (.int .i64 0), (.int .i64 0), (.slice none 0 0)])) 80 rfl Try.underlying31 info38 rfl (by decide) (by omega) (.slice Ao4_5 t6.length co4_5) t6 (⟨t9, t10, t11, t12, t13, t14, t15, t16⟩ : S38) [.int .i64 t9, .int .i64 t10, .int .i64 t11, .int .i64 t12, .int .i64 t13, .int .i64 t14, .int .i64 t15, .slice Ao10_7 t16.length co10_7] (fun k_ => (((w3_.heap.size ≤ k_ ∧ k_ < w4_.heap.size) ∧ f4_ k_ = 5)) ∨ (((w22d_.heap.size ≤ k_ ∧ k_ < w10_.heap.size))) ∨ w10_.heap.size ≤ k_) (fun k_ => ((w22d_.heap.size ≤ k_ ∧ k_ < w10_.heap.size))) rfl rfl ?aP ?aQ ?aF ?aO HB.out HB.out.size ?aL ?_
   case aP => exact k38_mkM _ _ _ (⟨t9, t10, t11, t12, t13, t14, t15, t16⟩ : S38) HO10_7.out
   case aQ => exact fun k_ hk_ => ⟨.inr (.inl hk_), fun e_ => by have := (Kd.S_R HO4_5.out).1 k_ e_.symm; clear e_; have := HS.out; omega⟩
   case aF => exact fun k_ hk_ => .inr (.inr hk_)
   case aO => exact Kd.S_mono HO4_5.out (fun k_ hk_ => ⟨.inl hk_, fun e_ => by have := HS.out; omega⟩)
   case aL => have := LM11.out; omega
   intro v_ w11_ ho hbb hg hat
   clear hat
   rw [← Ny17.out] at ho
   have hkp : Kept w10_ w11_ (fun k_ => ((w3_.heap.size ≤ k_ ∧ k_ < w4_.heap.size) ∧ f4_ k_ = 5)) := Kept.of_grown hg (Kept.refl _ _) (fun k_ e_ => .inl ((Kd.S_R HO4_5.out).1 k_ e_))
   replace HO4_0 := aRk HO4_0 hkp HS
   replace HO4_1 := aRk HO4_1 hkp HS
   replace HO4_2 := aRk HO4_2 hkp HS
   replace HO4_3 := aRk HO4_3 hkp HS
   replace HO4_4 := aSk HO4_4 hkp HS
   replace BK1 := aBk BK1 hkp HS
   replace BK2 := aBk BK2 hkp HS
   replace BK3 := aBk BK3 hkp HS
   replace BK5 := aBk BK5 hkp HS
   replace HS := aHs HS hkp.1
   obtain ⟨Ao11, co11, ev_⟩ := Kd.S_slice ho
   subst ev_
   have HO11 := A_.mk (Kd.S_mono (ok' := (fun k_ => ((w3_.heap.size ≤ k_ ∧ k_ < w4_.heap.size) ∧ f4_ k_ = 5) ∨ ((w22d_.heap.size ≤ k_ ∧ k_ < w10_.heap.size)) ∨ ((w10_.heap.size ≤ k_ ∧ k_ < w11_.heap.size)))) (Kd.S_bound ho) (fun k_ hk_ => by have := hk_.1; have := hk_.2.2.1; have := hk_.2.1; clear hk_; have := HS.out; omega))
   replace HB := A_.mk hbb
   clear hkp hbb hg ho HO4_5 HO10_7
   refine hK.out _ _ ⟨blk6_ BK1.out, blk6_ BK5.out, el8_ HB.out HX9.out⟩ (fun hHeld => ?_)
   clear hK K
   refine norm_ (a' := ?_) ?_ ?_
   rotate_left
   ·show Act.put _ (some 33) _ = _
    simp only [pS]
    rfl
   refine pd_ (i := 10) (N := some 34) #[T, T, T, T, T, T, T, T, T, T, T, F] rfl ?_
   refine last_ (i := 11) (N := none) #[T, T, T, T, T, T, T, T, T, T, T, T] rfl rfl (by kernel_rfl) (by decide) (fun K hK => ?_)
   obtain ⟨q1_0, q1_1, q1_2, q1_3, q1_4, q1_5⟩ := blk6_ BK1.out
   obtain ⟨q2_0, q2_1, q2_2, q2_3, q2_4, q2_5⟩ := blk6_ BK2.out
   obtain ⟨q3_0, q3_1, q3_2, q3_3, q3_4, q3_5, q3_6, q3_7⟩ := blk8_ BK3.out
   obtain ⟨q5_0, q5_1, q5_2, q5_3, q5_4, q5_5⟩ := blk6_ BK5.out
   have qf0 := bf_ BK5.out 5
   obtain ⟨w12_, hw⟩ : ∃ q_ : World, q_ = (w11_.setCell ⟨gb5_, 5, none⟩ (.slice Ao11 y17.length co11)) := ⟨_, rfl⟩
   refine skip_ (w1 := w12_) (by rfl) rfl ?_ ?_
   ·rw [hw]; go_simp; try rfl
   refine hK.out _ _ ?_
   clear hK K qf0 q1_0 q1_1 q1_2 q1_3 q1_4 q1_5 q2_0 q2_1 q2_2 q2_3 q2_4 q2_5 q3_0 q3_1 q3_2 q3_3 q3_4 q3_5 q3_6 q3_7 q5_0 q5_1 q5_2 q5_3 q5_4 q5_5
   have hge : w.heap.size ≤ gb5_ := (by have := HS.out; omega)
   have hkp : Kept w11_ w12_ (fun k_ => k_ = gb5_) := (by rw [hw]; exact (Kept.of_set (Kept.refl _ _) _ _))
   have hbb : Below w.heap.size w w12_ := (by rw [hw]; exact (bs_ HB.out hge))
   have hbx : w12_.heap[gb5_]? = some (.cells #[.slice Ao4_0 t1.length co4_0, .slice Ao4_1 t2.length co4_1, .slice Ao4_2 t3.length co4_2, .slice Ao4_3 t4.length co4_3, .slice Ao4_4 t5.length co4_4, .slice Ao11 y17.length co11] 33 (0, 0)) := (by rw [hw]; exact (bp_ (cs := #[.slice Ao4_0 t1.length co4_0, .slice Ao4_1 t2.length co4_1, .slice Ao4_2 t3.length co4_2, .slice Ao4_3 t4.length co4_3, .slice Ao4_4 t5.length co4_4, .slice Ao4_5 t6.length co4_5]) BK5.out 5 _ rfl))
   clear hw
   replace HO4_0 := aRk HO4_0 hkp HS
   replace HO4_1 := aRk HO4_1 hkp HS
   replace HO4_2 := aRk HO4_2 hkp HS
   replace HO4_3 := aRk HO4_3 hkp HS
   replace HO4_4 := aSk HO4_4 hkp HS
   replace HO11 := aSk HO11 hkp HS
   replace BK1 := aBk BK1 hkp HS
   replace BK2 := aBk BK2 hkp HS
   replace BK3 := aBk BK3 hkp HS
   replace BK5 := A_.mk hbx
   replace HB := A_.mk hbb
   replace HS := aHs HS hkp.1
   clear hkp hbb hbx hge
   refine done_ (by kernel_rfl) ?_
   obtain ⟨q1_0, q1_1, q1_2, q1_3, q1_4, q1_5⟩ := blk6_ BK1.out
   obtain ⟨q2_0, q2_1, q2_2, q2_3, q2_4, q2_5⟩ := blk6_ BK2.out
   obtain ⟨q3_0, q3_1, q3_2, q3_3, q3_4, q3_5, q3_6, q3_7⟩ := blk8_ BK3.out
   obtain ⟨q5_0, q5_1, q5_2, q5_3, q5_4, q5_5⟩ := blk6_ BK5.out
   go_wp2_with (fail)
   obtain ⟨m13_, hm_⟩ : ∃ m_ : Nat, a1 = (m_ : Int) := ⟨(a1).toNat, by have := EB13.out; omega⟩
   subst hm_
   obtain ⟨gd13_, ed_⟩ := S_at0 HO4_4.out (by have := EB13.out; omega)
   subst ed_
   have hnc_ := (Kd.S_reads' HO4_4.out).2.1
   have hm1_ : m13_ < t5.length := by have := EB13.out.2; omega
   have hz0_ : m13_ + 1 ≤ t5.length := by omega
   have hz1_ : m13_ ≤ co4_4 := by omega
   have hz2_ : m13_ + 1 ≤ co4_4 := by omega
   have hz3_ : m13_ ≤ m13_ + 1 := by omega
   have hz4_ : m13_ ≤ t5.length := by omega
   have hz5_ : (0 : Int) ≤ (m13_ : Int) + 1 := by omega
   have hz6_ : (m13_ : Int) + 1 ≤ ((t5.length : Nat) : Int) := by omega
   have hz7_ : ¬ m13_ = m13_ + 1 := by omega
   have hcm_ := S_cap HO4_4.out
   have hw_ : wrap64 ((m13_ : Int) + 1) = (m13_ : Int) + 1 := by unfold wrap64; omega
   clear hm1_ hnc_ hcm_
   refine start_ (n := 12) (S := fun w' => (w'.cell? ⟨gb5_, 0, none⟩ = some (.slice Ao4_0 t1.length co4_0) ∧ w'.cell? ⟨gb5_, 1, none⟩ = some (.slice Ao4_1 t2.length co4_1) ∧ w'.cell? ⟨gb5_, 2, none⟩ = some (.slice Ao4_2 t3.length co4_2) ∧ w'.cell? ⟨gb5_, 3, none⟩ = some (.slice Ao4_3 t4.length co4_3) ∧ w'.cell? ⟨gb5_, 4, none⟩ = some (.slice (some ⟨gd13_, 0, none⟩) t5.length co4_4) ∧ w'.cell? ⟨gb5_, 5, none⟩ = some (.slice Ao11 y17.length co11))) (ds := [11]) #[F, F, F, F, F, F, F, F, F, F, F, F] (by kernel_rfl) rfl rfl (blk6_ BK5.out) (fun hHeld => ?_)
   clear q1_0 q1_1 q1_2 q1_3 q1_4 q1_5 q2_0 q2_1 q2_2 q2_3 q2_4 q2_5 q3_0 q3_1 q3_2 q3_3 q3_4 q3_5 q3_6 q3_7 q5_0 q5_1 q5_2 q5_3 q5_4 q5_5
   have hb := below_drew (Below.refl w12_.heap.size w12_)
   replace HS := aHs HS hb.size
   replace HO4_0 := aRb HO4_0 hb
   replace HO4_1 := aRb HO4_1 hb
   replace HO4_2 := aRb HO4_2 hb
   replace HO4_3 := aRb HO4_3 hb
   replace HO4_4 := aSb HO4_4 hb
   replace HO11 := aSb HO11 hb
   replace BK1 := aBb BK1 hb
   replace BK2 := aBb BK2 hb
   replace BK3 := aBb BK3 hb
   replace BK5 := aBb BK5 hb
   replace HB := aHB HB hb
   clear hb
   generalize w12_.drew = w23d_ at HO4_0 HO4_1 HO4_2 HO4_3 HO4_4 HO11 BK1 BK2 BK3 BK5 HB HS hHeld ⊢
   refine pd_ (i := 0) (N := some 35) #[T, F, F, F, F, F, F, F, F, F, F, F] rfl ?_
   refine take_ (i := 1) (N := some 36) (v := ?_) (a' := ?_) #[T, T, F, F, F, F, F, F, F, F, F, F] rfl rfl (by kernel_rfl) (fun _ _ _ h => h) (Or.inl ⟨by rfl, ?_⟩) hHeld ?_ ?_
   rotate_left
   ·rintro w' ⟨s5_0, s5_1, s5_2, s5_3, s5_4, s5_5⟩
    go_simp
    with_reducible rfl
   rotate_left
   ·simp only [pS]
    rfl
   refine pd_ (i := 2) (N := some 37) #[T, T, T, F, F, F, F, F, F, F, F, F] rfl ?_
   refine pd_ (i := 3) (N := some 38) #[T, T, T, T, F, F, F, F, F, F, F, F] rfl ?_
   refine pd_ (i := 4) (N := some 39) #[T, T, T, T, T, F, F, F, F, F, F, F] rfl ?_
   refine take_ (i := 5) (N := some 40) (v := ?_) (a' := ?_) #[T, T, T, T, T, T, F, F, F, F, F, F] rfl rfl (by kernel_rfl) (fun _ _ _ h => h) (Or.inl ⟨by rfl, ?_⟩) hHeld ?_ ?_
   rotate_left
   ·rintro w' ⟨s5_0, s5_1, s5_2, s5_3, s5_4, s5_5⟩
    go_simp
    with_reducible rfl
   rotate_left
   ·simp only [pS]
    rfl
   refine pd_ (i := 6) (N := some 41) #[T, T, T, T, T, T, T, F, F, F, F, F] rfl ?_
   refine pd_ (i := 7) (N := some 42) #[T, T, T, T, T, T, T, T, F, F, F, F] rfl ?_
   refine pd_ (i := 8) (N := some 43) #[T, T, T, T, T, T, T, T, T, F, F, F] rfl ?_
   refine one_ (i := 9) (N := some 44) #[T, T, T, T, T, T, T, T, T, T, F, F] rfl rfl (by kernel_rfl) (by decide) (fun K hK => ?_)
   refine Kd.S_delete_step k38 w.heap.size (by rfl) (.tmp 38) (.tmp 43) 31 38 rfl Try.underlying31 (by kernel_rfl) (g := gd13_) (n := t5.length) (c := co4_4) (k := m13_) rfl rfl ?hA ?hm HO4_4.out hz0_ HB.out HB.out.size ?_
   case hA =>
    by_cases hz : co4_4 = m13_ + 1
    ·(try rw [if_pos hz]); rw [if_pos hz]
    (try rw [if_neg hz]); rw [if_neg hz]; show _ = some (Addr.add ⟨gd13_, 0, none⟩ ((m13_ + 1) * 8)); (try rw [add_at, Nat.zero_add])
   case hm => first | rfl | omega
   intro w13_ ho hb2 hg2
   have hkp : Kept w23d_ w13_ (fun k_ => ((w3_.heap.size ≤ k_ ∧ k_ < w4_.heap.size) ∧ f4_ k_ = 4)) := Kept.of_grown hg2 (Kept.refl _ _) (fun k_ e_ => .inl ((Kd.S_R HO4_4.out).1 k_ e_))
   replace ho : Kd.S k38 38 w13_ w.heap.size (fun k_ => ((w3_.heap.size ≤ k_ ∧ k_ < w4_.heap.size) ∧ f4_ k_ = 4)) (.slice (some ⟨gd13_, 0, none⟩) (t5.length - 1) co4_4) y18 := by rw [Ny18.out]; exact ho
   have hl_ := (Kd.S_reads' ho).1
   rw [hl_] at ho ⊢
   clear hl_ hz0_ hz1_ hz2_ hz3_ hz4_ hz5_ hz6_ hz7_ hw_
   replace HO4_0 := aRk HO4_0 hkp HS
   replace HO4_1 := aRk HO4_1 hkp HS
   replace HO4_2 := aRk HO4_2 hkp HS
   replace HO4_3 := aRk HO4_3 hkp HS
   replace HO11 := aSk HO11 hkp HS
   replace BK1 := aBk BK1 hkp HS
   replace BK2 := aBk BK2 hkp HS
   replace BK3 := aBk BK3 hkp HS
   replace BK5 := aBk BK5 hkp HS
   replace HS := aHs HS hkp.1
   have HO13 := A_.mk ho
   replace HB := A_.mk hb2
   clear hkp hb2 hg2 ho HO4_4
   refine hK.out _ _ (blk6_ BK5.out) (fun hHeld => ?_)
   clear hK K
   refine norm_ (a' := ?_) ?_ ?_
   rotate_left
   ·show Act.put _ (some 44) _ = _
    simp only [pS]
    rfl
   refine pd_ (i := 10) (N := some 45) #[T, T, T, T, T, T, T, T, T, T, T, F] rfl ?_
   refine last_ (i := 11) (N := none) #[T, T, T, T, T, T, T, T, T, T, T, T] rfl rfl (by kernel_rfl) (by decide) (fun K hK => ?_)
   obtain ⟨q1_0, q1_1, q1_2, q1_3, q1_4, q1_5⟩ := blk6_ BK1.out
   obtain ⟨q2_0, q2_1, q2_2, q2_3, q2_4, q2_5⟩ := blk6_ BK2.out
   obtain ⟨q3_0, q3_1, q3_2, q3_3, q3_4, q3_5, q3_6, q3_7⟩ := blk8_ BK3.out
   obtain ⟨q5_0, q5_1, q5_2, q5_3, q5_4, q5_5⟩ := blk6_ BK5.out
   have qf0 := bf_ BK5.out 4
   obtain ⟨w14_, hw⟩ : ∃ q_ : World, q_ = (w13_.setCell ⟨gb5_, 4, none⟩ (.slice (some ⟨gd13_, 0, none⟩) y18.length co4_4)) := ⟨_, rfl⟩
   refine skip_ (w1 := w14_) (by rfl) rfl ?_ ?_
   ·rw [hw]; go_simp; try rfl
   refine hK.out _ _ ?_
   clear hK K qf0 q1_0 q1_1 q1_2 q1_3 q1_4 q1_5 q2_0 q2_1 q2_2 q2_3 q2_4 q2_5 q3_0 q3_1 q3_2 q3_3 q3_4 q3_5 q3_6 q3_7 q5_0 q5_1 q5_2 q5_3 q5_4 q5_5
   have hge : w.heap.size ≤ gb5_ := (by have := HS.out; omega)
   have hkp : Kept w13_ w14_ (fun k_ => k_ = gb5_) := (by rw [hw]; exact (Kept.of_set (Kept.refl _ _) _ _))
   have hbb : Below w.heap.size w w14_ := (by rw [hw]; exact (bs_ HB.out hge))
   have hbx : w14_.heap[gb5_]? = some (.cells #[.slice Ao4_0 t1.length co4_0, .slice Ao4_1 t2.length co4_1, .slice Ao4_2 t3.length co4_2, .slice Ao4_3 t4.length co4_3, .slice (some ⟨gd13_, 0, none⟩) y18.length co4_4, .slice Ao11 y17.length co11] 33 (0, 0)) := (by rw [hw]; exact (bp_ (cs := #[.slice Ao4_0 t1.length co4_0, .slice Ao4_1 t2.length co4_1, .slice Ao4_2 t3.length co4_2, .slice Ao4_3 t4.length co4_3, .slice (some ⟨gd13_, 0, none⟩) t5.length co4_4, .slice Ao11 y17.length co11]) BK5.out 4 _ rfl))
   clear hw
   replace HO4_0 := aRk HO4_0 hkp HS
   replace HO4_1 := aRk HO4_1 hkp HS
   replace HO4_2 := aRk HO4_2 hkp HS
   replace HO4_3 := aRk HO4_3 hkp HS
   replace HO11 := aSk HO11 hkp HS
   replace HO13 := aSk HO13 hkp HS
   replace BK1 := aBk BK1 hkp HS
   replace BK2 := aBk BK2 hkp HS
   replace BK3 := aBk BK3 hkp HS
   replace BK5 := A_.mk hbx
   replace HB := A_.mk hbb
   replace HS := aHs HS hkp.1
   clear hkp hbb hbx hge
   refine done_ (by kernel_rfl) ?_
   generalize (if co4_4 = m13_ + 1 then (some ⟨gd13_, 0, none⟩ : Option Addr) else some ⟨gd13_, (m13_ + 1) * 8, none⟩) = ax13_
   obtain ⟨q1_0, q1_1, q1_2, q1_3, q1_4, q1_5⟩ := blk6_ BK1.out
   obtain ⟨q2_0, q2_1, q2_2, q2_3, q2_4, q2_5⟩ := blk6_ BK2.out
   obtain ⟨q3_0, q3_1, q3_2, q3_3, q3_4, q3_5, q3_6, q3_7⟩ := blk8_ BK3.out
   obtain ⟨q5_0, q5_1, q5_2, q5_3, q5_4, q5_5⟩ := blk6_ BK5.out
   go_wp2_with (fail)
   refine start_ (n := 10) (S := fun w' => (w'.cell? ⟨gb1_, 0, none⟩ = some (.slice A0_0 l0_0.length c0_0) ∧ w'.cell? ⟨gb1_, 1, none⟩ = some (.slice A0_1 l0_1.length c0_1) ∧ w'.cell? ⟨gb1_, 2, none⟩ = some (.slice A0_2 l0_2.length c0_2) ∧ w'.cell? ⟨gb1_, 3, none⟩ = some (.slice A0_3 l0_3.length c0_3) ∧ w'.cell? ⟨gb1_, 4, none⟩ = some (.slice (some ad9_) l0_4.length c0_4) ∧ w'.cell? ⟨gb1_, 5, none⟩ = some (.slice A0_5 l0_5.length c0_5)) ∧ (w'.cell? ⟨gb5_, 0, none⟩ = some (.slice Ao4_0 t1.length co4_0) ∧ w'.cell? ⟨gb5_, 1, none⟩ = some (.slice Ao4_1 t2.length co4_1) ∧ w'.cell? ⟨gb5_, 2, none⟩ = some (.slice Ao4_2 t3.length co4_2) ∧ w'.cell? ⟨gb5_, 3, none⟩ = some (.slice Ao4_3 t4.length co4_3) ∧ w'.cell? ⟨gb5_, 4, none⟩ = some (.slice (some ⟨gd13_, 0, none⟩) y18.length co4_4) ∧ w'.cell? ⟨gb5_, 5, none⟩ = some (.slice Ao11 y17.length co11)) ∧ (w'.cell? (ad9_.add (m13_ * 8)) = some (.int .i64 ((rd_T38 l0_4 (m13_ : Int)).f0)) ∧ w'.cell? ⟨(ad9_.add (m13_ * 8)).block, (ad9_.add (m13_ * 8)).off + 1, none⟩ = some (.int .i64 ((rd_T38 l0_4 (m13_ : Int)).f1)) ∧ w'.cell? ⟨(ad9_.add (m13_ * 8)).block, (ad9_.add (m13_ * 8)).off + 2, none⟩ = some (.int .i64 ((rd_T38 l0_4 (m13_ : Int)).f2)) ∧ w'.cell? ⟨(ad9_.add (m13_ * 8)).block, (ad9_.add (m13_ * 8)).off + 3, none⟩ = some (.int .i64 ((rd_T38 l0_4 (m13_ : Int)).f3)) ∧ w'.cell? ⟨(ad9_.add (m13_ * 8)).block, (ad9_.add (m13_ * 8)).off + 4, none⟩ = some (.int .i64 ((rd_T38 l0_4 (m13_ : Int)).f4)) ∧ w'.cell? ⟨(ad9_.add (m13_ * 8)).block, (ad9_.add (m13_ * 8)).off + 5, none⟩ = some (.int .i64 ((rd_T38 l0_4 (m13_ : Int)).f5)) ∧ w'.cell? ⟨(ad9_.add (m13_ * 8)).block, (ad9_.add (m13_ * 8)).off + 6, none⟩ = some (.int .i64 ((rd_T38 l0_4 (m13_ : Int)).f6)) ∧ w'.cell? ⟨(ad9_.add (m13_ * 8)).block, (ad9_.add (m13_ * 8)).off + 7, none⟩ = some (.slice A9_7 ((rd_T38 l0_4 (m13_ : Int)).f7).length c9_7))) (ds := [7, 8]) #[F, F, F, F, F, F, F, F, F, F] (by kernel_rfl) rfl rfl ⟨blk6_ BK1.out, blk6_ BK5.out, el8_ (below_drew HB.out) HX9.out⟩ (fun hHeld => ?_)
   clear q1_0 q1_1 q1_2 q1_3 q1_4 q1_5 q2_0 q2_1 q2_2 q2_3 q2_4 q2_5 q3_0 q3_1 q3_2 q3_3 q3_4 q3_5 q3_6 q3_7 q5_0 q5_1 q5_2 q5_3 q5_4 q5_5
   have hb := below_drew (Below.refl w14_.heap.size w14_)
   replace HS := aHs HS hb.size
   replace HO4_0 := aRb HO4_0 hb
   replace HO4_1 := aRb HO4_1 hb
   replace HO4_2 := aRb HO4_2 hb
   replace HO4_3 := aRb HO4_3 hb
   replace HO11 := aSb HO11 hb
   replace HO13 := aSb HO13 hb
   replace BK1 := aBb BK1 hb
   replace BK2 := aBb BK2 hb
   replace BK3 := aBb BK3 hb
   replace BK5 := aBb BK5 hb
   replace HB := aHB HB hb
   clear hb
   generalize w14_.drew = w24d_ at HO4_0 HO4_1 HO4_2 HO4_3 HO11 HO13 BK1 BK2 BK3 BK5 HB HS hHeld ⊢
   refine take_ (i := 0) (N := some 46) (v := ?_) (a' := ?_) #[T, F, F, F, F, F, F, F, F, F] rfl rfl (by kernel_rfl) (fun _ _ _ h => h) (Or.inl ⟨by rfl, ?_⟩) hHeld ?_ ?_
   rotate_left
   ·rintro w' ⟨⟨s1_0, s1_1, s1_2, s1_3, s1_4, s1_5⟩, ⟨s5_0, s5_1, s5_2, s5_3, s5_4, s5_5⟩, ⟨r9_0, r9_1, r9_2, r9_3, r9_4, r9_5, r9_6, r9_7⟩⟩
    go_simp
    with_reducible rfl
   rotate_left
   ·simp only [pS]
    rfl
   refine pd_ (i := 1) (N := some 47) #[T, T, F, F, F, F, F, F, F, F] rfl ?_
   refine take_ (i := 2) (N := some 48) (v := ?_) (a' := ?_) #[T, T, T, F, F, F, F, F, F, F] rfl rfl (by kernel_rfl) (fun _ _ _ h => h) (Or.inl ⟨by rfl, ?_⟩) hHeld ?_ ?_
   rotate_left
   ·rintro w' ⟨⟨s1_0, s1_1, s1_2, s1_3, s1_4, s1_5⟩, ⟨s5_0, s5_1, s5_2, s5_3, s5_4, s5_5⟩, ⟨r9_0, r9_1, r9_2, r9_3, r9_4, r9_5, r9_6, r9_7⟩⟩
    go_simp
    with_reducible rfl
   rotate_left
   ·simp only [pS]
    rfl
   refine pd_ (i := 3) (N := some 49) #[T, T, T, T, F, F, F, F, F, F] rfl ?_
   refine pd_ (i := 4) (N := some 50) #[T, T, T, T, T, F, F, F, F, F] rfl ?_
   refine take_ (i := 5) (N := some 51) (v := ?_) (a' := ?_) #[T, T, T, T, T, T, F, F, F, F] rfl rfl (by kernel_rfl) (fun _ _ _ h => h) (Or.inl ⟨by rfl, ?_⟩) hHeld ?_ ?_
   rotate_left
   ·rintro w' ⟨⟨s1_0, s1_1, s1_2, s1_3, s1_4, s1_5⟩, ⟨s5_0, s5_1, s5_2, s5_3, s5_4, s5_5⟩, ⟨r9_0, r9_1, r9_2, r9_3, r9_4, r9_5, r9_6, r9_7⟩⟩
    go_simp
    with_reducible rfl
   rotate_left
   ·simp only [pS]
    rfl
   refine one_ (i := 6) (N := some 52) #[T, T, T, T, T, T, T, F, F, F] rfl rfl (by kernel_rfl) (by decide) (fun K hK => ?_)
   refine goes_ Try.func50 (by kernel_rfl) rfl #[.agg #[.int .i64 ((rd_T38 l0_4 (m13_ : Int)).f0), .int .i64 ((rd_T38 l0_4 (m13_ : Int)).f1), .int .i64 ((rd_T38 l0_4 (m13_ : Int)).f2), .int .i64 ((rd_T38 l0_4 (m13_ : Int)).f3), .int .i64 ((rd_T38 l0_4 (m13_ : Int)).f4), .int .i64 ((rd_T38 l0_4 (m13_ : Int)).f5), .int .i64 ((rd_T38 l0_4 (m13_ : Int)).f6), .slice A9_7 ((rd_T38 l0_4 (m13_ : Int)).f7).length c9_7]] (by rfl) rfl rfl (by (try simp only [List.map_toArray, List.map_cons, List.map_nil]); first | done | rfl) ?_
   with_reducible refine (spec_l04Copy.calls ((rd_T38 l0_4 (m13_ : Int)).f0) ((rd_T38 l0_4 (m13_ : Int)).f1) ((rd_T38 l0_4 (m13_ : Int)).f2) ((rd_T38 l0_4 (m13_ : Int)).f3) ((rd_T38 l0_4 (m13_ : Int)).f4) ((rd_T38 l0_4 (m13_ : Int)).f5) ((rd_T38 l0_4 (m13_ : Int)).f6) _ _ ((rd_T38 l0_4 (m13_ : Int)).f7) t19 t20 t21 t22 t23 t24 t25 t26 _ (Kd.C_below HE9_7.out HB.out) HD9_7.out A15.out).mono ?_
   rintro e w15_ ⟨v7_, rfl, ho0_, hb⟩
   refine ⟨_, rfl, ?_⟩
   replace HS := aHs HS hb.size
   obtain ⟨Ao15_7, co15_7, ev_⟩ := Kd.R_slice ho0_
   subst ev_
   have HO15_7 := aRm ho0_ HB.out.size
   replace HO4_0 := aRb HO4_0 hb
   replace HO4_1 := aRb HO4_1 hb
   replace HO4_2 := aRb HO4_2 hb
   replace HO4_3 := aRb HO4_3 hb
   replace HO11 := aSb HO11 hb
   replace HO13 := aSb HO13 hb
   replace BK1 := aBb BK1 hb
   replace BK2 := aBb BK2 hb
   replace BK3 := aBb BK3 hb
   replace BK5 := aBb BK5 hb
   replace HB := aHB HB hb
   clear hb ho0_
   refine hK.out _ _ ⟨blk6_ BK1.out, blk6_ BK5.out, el8_ HB.out HX9.out⟩ (fun hHeld => ?_)
   clear hK K
   refine norm_ (a' := ?_) ?_ ?_
   rotate_left
   ·show Act.put _ (some 52) _ = _
    simp only [pS]
    rfl
   refine last_ (i := 7) (N := none) #[T, T, T, T, T, T, T, T, F, F] rfl rfl (by kernel_rfl) (by decide) (fun K hK => ?_)
   obtain ⟨q1_0, q1_1, q1_2, q1_3, q1_4, q1_5⟩ := blk6_ BK1.out
   obtain ⟨q2_0, q2_1, q2_2, q2_3, q2_4, q2_5⟩ := blk6_ BK2.out
   obtain ⟨q3_0, q3_1, q3_2, q3_3, q3_4, q3_5, q3_6, q3_7⟩ := blk8_ BK3.out
   obtain ⟨q5_0, q5_1, q5_2, q5_3, q5_4, q5_5⟩ := blk6_ BK5.out
   have qf0 := bf_ BK2.out 0; have qf1 := bf_ BK2.out 1; have qf2 := bf_ BK2.out 2; have qf3 := bf_ BK2.out 3; have qf4 := bf_ BK2.out 4; have qf5 := bf_ BK2.out 5
   obtain ⟨w16_, hw⟩ : ∃ q_ : World, q_ = (ch6_ w15_ gb2_ (.slice Ao4_0 t1.length co4_0) (.slice Ao4_1 t2.length co4_1) (.slice Ao4_2 t3.length co4_2) (.slice Ao4_3 t4.length co4_3) (.slice (some ⟨gd13_, 0, none⟩) y18.length co4_4) (.slice Ao11 y17.length co11)) := ⟨_, rfl⟩
   refine skip_ (w1 := w16_) (by rfl) rfl ?_ ?_
   ·rw [hw]; go_simp; try rfl
   refine hK.out _ _ ?_
   clear hK K qf0 qf1 qf2 qf3 qf4 qf5 q1_0 q1_1 q1_2 q1_3 q1_4 q1_5 q2_0 q2_1 q2_2 q2_3 q2_4 q2_5 q3_0 q3_1 q3_2 q3_3 q3_4 q3_5 q3_6 q3_7 q5_0 q5_1 q5_2 q5_3 q5_4 q5_5
   obtain ⟨hbx, hkp, hbb⟩ := st6_ hw BK2 HB (by have := HS.out; omega)
   clear hw
   replace HO4_0 := aRk HO4_0 hkp HS
   replace HO4_1 := aRk HO4_1 hkp HS
   replace HO4_2 := aRk HO4_2 hkp HS
   replace HO4_3 := aRk HO4_3 hkp HS
   replace HO11 := aSk HO11 hkp HS
   replace HO13 := aSk HO13 hkp HS
   replace HO15_7 := aRk HO15_7 hkp HS
   replace BK1 := aBk BK1 hkp HS
   replace BK3 := aBk BK3 hkp HS
   replace BK5 := aBk BK5 hkp HS
   replace BK2 := A_.mk hbx
   replace HB := A_.mk hbb
   replace HS := aHs HS hkp.1
   clear hkp hbb hbx
   refine last_ (i := 8) (N := none) #[T, T, T, T, T, T, T, T, T, F] rfl rfl (by kernel_rfl) (by decide) (fun K hK => ?_)
   obtain ⟨q1_0, q1_1, q1_2, q1_3, q1_4, q1_5⟩ := blk6_ BK1.out
   obtain ⟨q2_0, q2_1, q2_2, q2_3, q2_4, q2_5⟩ := blk6_ BK2.out
   obtain ⟨q3_0, q3_1, q3_2, q3_3, q3_4, q3_5, q3_6, q3_7⟩ := blk8_ BK3.out
   obtain ⟨q5_0, q5_1, q5_2, q5_3, q5_4, q5_5⟩ := blk6_ BK5.out
   have qf0 := bf_ BK3.out 0; have qf1 := bf_ BK3.out 1; have qf2 := bf_ BK3.out 2; have qf3 := bf_ BK3.out 3; have qf4 := bf_ BK3.out 4; have qf5 := bf_ BK3.out 5; have qf6 := bf_ BK3.out 6; have qf7 := bf_ BK3.out 7
   obtain ⟨w17_, hw⟩ : ∃ q_ : World, q_ = (ch8_ w16_ gb3_ (.int .i64 t19) (.int .i64 t20) (.int .i64 t21) (.int .i64 t22) (.int .i64 t23) (.int .i64 t24) (.int .i64 t25) (.slice Ao15_7 t26.length co15_7)) := ⟨_, rfl⟩
   refine skip_ (w1 := w17_) (by rfl) rfl ?_ ?_
   ·rw [hw]; go_simp; try rfl
   refine hK.out _ _ ?_
   clear hK K qf0 qf1 qf2 qf3 qf4 qf5 qf6 qf7 q1_0 q1_1 q1_2 q1_3 q1_4 q1_5 q2_0 q2_1 q2_2 q2_3 q2_4 q2_5 q3_0 q3_1 q3_2 q3_3 q3_4 q3_5 q3_6 q3_7 q5_0 q5_1 q5_2 q5_3 q5_4 q5_5
   obtain ⟨hbx, hkp, hbb⟩ := st8_ hw BK3 HB (by have := HS.out; omega)
   clear hw
   replace HO4_0 := aRk HO4_0 hkp HS
   replace HO4_1 := aRk HO4_1 hkp HS
   replace HO4_2 := aRk HO4_2 hkp HS
   replace HO4_3 := aRk HO4_3 hkp HS
   replace HO11 := aSk HO11 hkp HS
   replace HO13 := aSk HO13 hkp HS
   replace HO15_7 := aRk HO15_7 hkp HS
   replace BK1 := aBk BK1 hkp HS
   replace BK2 := aBk BK2 hkp HS
   replace BK5 := aBk BK5 hkp HS
   replace BK3 := A_.mk hbx
   replace HB := A_.mk hbb
   replace HS := aHs HS hkp.1
   clear hkp hbb hbx
   refine pd_ (i := 9) (N := some 6) #[T, T, T, T, T, T, T, T, T, T] rfl ?_
   refine done_ (by kernel_rfl) ?_
   obtain ⟨q1_0, q1_1, q1_2, q1_3, q1_4, q1_5⟩ := blk6_ BK1.out
   obtain ⟨q2_0, q2_1, q2_2, q2_3, q2_4, q2_5⟩ := blk6_ BK2.out
   obtain ⟨q3_0, q3_1, q3_2, q3_3, q3_4, q3_5, q3_6, q3_7⟩ := blk8_ BK3.out
   obtain ⟨q5_0, q5_1, q5_2, q5_3, q5_4, q5_5⟩ := blk6_ BK5.out
   go_wp2
   refine bodyPost_ret (results_cct rfl _ _ gb2_ 33 #[.slice Ao4_0 t1.length co4_0, .slice Ao4_1 t2.length co4_1, .slice Ao4_2 t3.length co4_2, .slice Ao4_3 t4.length co4_3, .slice (some ⟨gd13_, 0, none⟩) y18.length co4_4, .slice Ao11 y17.length co11] (0, 0) _ rfl BK2.out Try.underlying33 rfl (by kernel_rfl) gb3_ 38 #[.int .i64 t19, .int .i64 t20, .int .i64 t21, .int .i64 t22, .int .i64 t23, .int .i64 t24, .int .i64 t25, .slice Ao15_7 t26.length co15_7] (0, 0) _ rfl BK3.out Try.underlying38 rfl (by kernel_rfl)) rfl ?_
   exact ⟨_, _, _, _, _, _, _, rfl, Kd.V_mono (Kd.R_V HO4_0.out) (fun k_ _ => by show w.heap.size ≤ k_; have := HS.out; omega), Kd.V_mono (Kd.R_V HO4_1.out) (fun k_ _ => by show w.heap.size ≤ k_; have := HS.out; omega), Kd.V_mono (Kd.R_V HO4_2.out) (fun k_ _ => by show w.heap.size ≤ k_; have := HS.out; omega), Kd.V_mono (Kd.R_V HO4_3.out) (fun k_ _ => by show w.heap.size ≤ k_; have := HS.out; omega), Kd.V_mono (Kd.S_V HO13.out) (fun k_ _ => by show w.heap.size ≤ k_; have := HS.out; omega), Kd.V_mono (Kd.S_V HO11.out) (fun k_ _ => by show w.heap.size ≤ k_; have := HS.out; omega), Kd.V_mono (Kd.R_V HO15_7.out) (fun k_ _ => by show w.heap.size ≤ k_; have := HS.out; omega), HB.out⟩
  case neg =>
   rw [if_neg hc2_] at H
   replace hc2_ := eq_false_of_ne_true hc2_
   subst hc2_
   simp only [Option.some.injEq, Prod.mk.injEq] at H
   obtain ⟨rfl, rfl, rfl, rfl, rfl, rfl, rfl, rfl, rfl, rfl, rfl, rfl, rfl, rfl, rfl⟩ := H
   go_wp2_with (first | ((with_reducible refine gs_ (t := 33) (p := 4) rfl ?_); have qf0 := bf_ BK2.out 0; have qf1 := bf_ BK2.out 1; have qf2 := bf_ BK2.out 2; have qf3 := bf_ BK2.out 3; have qf4 := bf_ BK2.out 4; have qf5 := bf_ BK2.out 5; refine se_ (t := 33) (p := 4) (v := ?vo_18) (w1 := (ch6_ w8_ gb2_ (.slice Ao4_0 t1.length co4_0) (.slice Ao4_1 t2.length co4_1) (.slice Ao4_2 t3.length co4_2) (.slice Ao4_3 t4.length co4_3) (.slice Ao4_4 t5.length co4_4) (.slice Ao4_5 t6.length co4_5))) ?hg ?ho ?hn ?hr ?_; (case ho => rfl); (case hg => rfl); (case hn => rfl); (case hr => first | (go_simp; done) | (go_simp; rfl)); intro w18_ hw; clear qf0 qf1 qf2 qf3 qf4 qf5; obtain ⟨hbx, hkp, hbb⟩ := st6_ hw BK2 HB (by have := HS.out; omega); clear hw; replace HO4_0 := aRk HO4_0 hkp HS; replace HO4_1 := aRk HO4_1 hkp HS; replace HO4_2 := aRk HO4_2 hkp HS; replace HO4_3 := aRk HO4_3 hkp HS; replace HO4_4 := aSk HO4_4 hkp HS; replace HO4_5 := aSk HO4_5 hkp HS; replace BK1 := aBk BK1 hkp HS; replace BK3 := aBk BK3 hkp HS; replace BK5 := aBk BK5 hkp HS; replace BK2 := A_.mk hbx; replace HB := A_.mk hbb; replace HS := aHs HS hkp.1; clear hkp hbb hbx q1_0 q1_1 q1_2 q1_3 q1_4 q1_5 q2_0 q2_1 q2_2 q2_3 q2_4 q2_5 q3_0 q3_1 q3_2 q3_3 q3_4 q3_5 q3_6 q3_7 q5_0 q5_1 q5_2 q5_3 q5_4 q5_5; obtain ⟨q1_0, q1_1, q1_2, q1_3, q1_4, q1_5⟩ := blk6_ BK1.out; obtain ⟨q2_0, q2_1, q2_2, q2_3, q2_4, q2_5⟩ := blk6_ BK2.out; obtain ⟨q3_0, q3_1, q3_2, q3_3, q3_4, q3_5, q3_6, q3_7⟩ := blk8_ BK3.out; obtain ⟨q5_0, q5_1, q5_2, q5_3, q5_4, q5_5⟩ := blk6_ BK5.out) | ((with_reducible refine gs_ (t := 38) (p := 5) rfl ?_); have qf0 := bf_ BK3.out 0; have qf1 := bf_ BK3.out 1; have qf2 := bf_ BK3.out 2; have qf3 := bf_ BK3.out 3; have qf4 := bf_ BK3.out 4; have qf5 := bf_ BK3.out 5; have qf6 := bf_ BK3.out 6; have qf7 := bf_ BK3.out 7; refine se_ (t := 38) (p := 5) (v := ?vo_19) (w1 := (ch8_ w18_ gb3_ (.int .i64 0) (.int .i64 0) (.int .i64 0) (.int .i64 0) (.int .i64 0) (.int .i64 0) (.int .i64 0) (.slice none 0 0))) ?hg ?ho ?hn ?hr ?_; (case ho => rfl); (case hg => rfl); (case hn => rfl); (case hr => first | (go_simp; done) | (go_simp; rfl)); intro w19_ hw; clear qf0 qf1 qf2 qf3 qf4 qf5 qf6 qf7; obtain ⟨hbx, hkp, hbb⟩ := st8_ hw BK3 HB (by have := HS.out; omega); clear hw; replace HO4_0 := aRk HO4_0 hkp HS; replace HO4_1 := aRk HO4_1 hkp HS; replace HO4_2 := aRk HO4_2 hkp HS; replace HO4_3 := aRk HO4_3 hkp HS; replace HO4_4 := aSk HO4_4 hkp HS; replace HO4_5 := aSk HO4_5 hkp HS; replace BK1 := aBk BK1 hkp HS; replace BK2 := aBk BK2 hkp HS; replace BK5 := aBk BK5 hkp HS; replace BK3 := A_.mk hbx; replace HB := A_.mk hbb; replace HS := aHs HS hkp.1; clear hkp hbb hbx q1_0 q1_1 q1_2 q1_3 q1_4 q1_5 q2_0 q2_1 q2_2 q2_3 q2_4 q2_5 q3_0 q3_1 q3_2 q3_3 q3_4 q3_5 q3_6 q3_7 q5_0 q5_1 q5_2 q5_3 q5_4 q5_5; obtain ⟨q1_0, q1_1, q1_2, q1_3, q1_4, q1_5⟩ := blk6_ BK1.out; obtain ⟨q2_0, q2_1, q2_2, q2_3, q2_4, q2_5⟩ := blk6_ BK2.out; obtain ⟨q3_0, q3_1, q3_2, q3_3, q3_4, q3_5, q3_6, q3_7⟩ := blk8_ BK3.out; obtain ⟨q5_0, q5_1, q5_2, q5_3, q5_4, q5_5⟩ := blk6_ BK5.out))
   refine bodyPost_ret (results_cct rfl _ _ gb2_ 33 #[.slice Ao4_0 t1.length co4_0, .slice Ao4_1 t2.length co4_1, .slice Ao4_2 t3.length co4_2, .slice Ao4_3 t4.length co4_3, .slice Ao4_4 t5.length co4_4, .slice Ao4_5 t6.length co4_5] (0, 0) _ rfl BK2.out Try.underlying33 rfl (by kernel_rfl) gb3_ 38 #[.int .i64 0, .int .i64 0, .int .i64 0, .int .i64 0, .int .i64 0, .int .i64 0, .int .i64 0, .slice none 0 0] (0, 0) _ rfl BK3.out Try.underlying38 rfl (by kernel_rfl)) rfl ?_
   exact ⟨_, _, _, _, _, _, _, rfl, Kd.V_mono (Kd.R_V HO4_0.out) (fun k_ _ => by show w.heap.size ≤ k_; have := HS.out; omega), Kd.V_mono (Kd.R_V HO4_1.out) (fun k_ _ => by show w.heap.size ≤ k_; have := HS.out; omega), Kd.V_mono (Kd.R_V HO4_2.out) (fun k_ _ => by show w.heap.size ≤ k_; have := HS.out; omega), Kd.V_mono (Kd.R_V HO4_3.out) (fun k_ _ => by show w.heap.size ≤ k_; have := HS.out; omega), Kd.V_mono (Kd.S_V HO4_4.out) (fun k_ _ => by show w.heap.size ≤ k_; have := HS.out; omega), Kd.V_mono (Kd.S_V HO4_5.out) (fun k_ _ => by show w.heap.size ≤ k_; have := HS.out; omega), Kd.V_nil _ _ _ _ _, HB.out⟩
 case neg =>
  rw [if_neg hc1_] at H
  replace hc1_ := eq_false_of_ne_true hc1_
  subst hc1_
  simp only [Option.some.injEq, Prod.mk.injEq] at H
  obtain ⟨rfl, rfl, rfl, rfl, rfl, rfl, rfl, rfl, rfl, rfl, rfl, rfl, rfl, rfl, rfl⟩ := H
  go_wp2_with (first | ((with_reducible refine gs_ (t := 33) (p := 4) rfl ?_); have qf0 := bf_ BK2.out 0; have qf1 := bf_ BK2.out 1; have qf2 := bf_ BK2.out 2; have qf3 := bf_ BK2.out 3; have qf4 := bf_ BK2.out 4; have qf5 := bf_ BK2.out 5; refine se_ (t := 33) (p := 4) (v := ?vo_20) (w1 := (ch6_ w7_ gb2_ (.slice Ao4_0 t1.length co4_0) (.slice Ao4_1 t2.length co4_1) (.slice Ao4_2 t3.length co4_2) (.slice Ao4_3 t4.length co4_3) (.slice Ao4_4 t5.length co4_4) (.slice Ao4_5 t6.length co4_5))) ?hg ?ho ?hn ?hr ?_; (case ho => rfl); (case hg => rfl); (case hn => rfl); (case hr => first | (go_simp; done) | (go_simp; rfl)); intro w20_ hw; clear qf0 qf1 qf2 qf3 qf4 qf5; obtain ⟨hbx, hkp, hbb⟩ := st6_ hw BK2 HB (by have := HS.out; omega); clear hw; replace HO4_0 := aRk HO4_0 hkp HS; replace HO4_1 := aRk HO4_1 hkp HS; replace HO4_2 := aRk HO4_2 hkp HS; replace HO4_3 := aRk HO4_3 hkp HS; replace HO4_4 := aSk HO4_4 hkp HS; replace HO4_5 := aSk HO4_5 hkp HS; replace BK1 := aBk BK1 hkp HS; replace BK3 := aBk BK3 hkp HS; replace BK5 := aBk BK5 hkp HS; replace BK2 := A_.mk hbx; replace HB := A_.mk hbb; replace HS := aHs HS hkp.1; clear hkp hbb hbx q1_0 q1_1 q1_2 q1_3 q1_4 q1_5 q2_0 q2_1 q2_2 q2_3 q2_4 q2_5 q3_0 q3_1 q3_2 q3_3 q3_4 q3_5 q3_6 q3_7 q5_0 q5_1 q5_2 q5_3 q5_4 q5_5; obtain ⟨q1_0, q1_1, q1_2, q1_3, q1_4, q1_5⟩ := blk6_ BK1.out; obtain ⟨q2_0, q2_1, q2_2, q2_3, q2_4, q2_5⟩ := blk6_ BK2.out; obtain ⟨q3_0, q3_1, q3_2, q3_3, q3_4, q3_5, q3_6, q3_7⟩ := blk8_ BK3.out; obtain ⟨q5_0, q5_1, q5_2, q5_3, q5_4, q5_5⟩ := blk6_ BK5.out) | ((with_reducible refine gs_ (t := 38) (p := 5) rfl ?_); have qf0 := bf_ BK3.out 0; have qf1 := bf_ BK3.out 1; have qf2 := bf_ BK3.out 2; have qf3 := bf_ BK3.out 3; have qf4 := bf_ BK3.out 4; have qf5 := bf_ BK3.out 5; have qf6 := bf_ BK3.out 6; have qf7 := bf_ BK3.out 7; refine se_ (t := 38) (p := 5) (v := ?vo_21) (w1 := (ch8_ w20_ gb3_ (.int .i64 0) (.int .i64 0) (.int .i64 0) (.int .i64 0) (.int .i64 0) (.int .i64 0) (.int .i64 0) (.slice none 0 0))) ?hg ?ho ?hn ?hr ?_; (case ho => rfl); (case hg => rfl); (case hn => rfl); (case hr => first | (go_simp; done) | (go_simp; rfl)); intro w21_ hw; clear qf0 qf1 qf2 qf3 qf4 qf5 qf6 qf7; obtain ⟨hbx, hkp, hbb⟩ := st8_ hw BK3 HB (by have := HS.out; omega); clear hw; replace HO4_0 := aRk HO4_0 hkp HS; replace HO4_1 := aRk HO4_1 hkp HS; replace HO4_2 := aRk HO4_2 hkp HS; replace HO4_3 := aRk HO4_3 hkp HS; replace HO4_4 := aSk HO4_4 hkp HS; replace HO4_5 := aSk HO4_5 hkp HS; replace BK1 := aBk BK1 hkp HS; replace BK2 := aBk BK2 hkp HS; replace BK5 := aBk BK5 hkp HS; replace BK3 := A_.mk hbx; replace HB := A_.mk hbb; replace HS := aHs HS hkp.1; clear hkp hbb hbx q1_0 q1_1 q1_2 q1_3 q1_4 q1_5 q2_0 q2_1 q2_2 q2_3 q2_4 q2_5 q3_0 q3_1 q3_2 q3_3 q3_4 q3_5 q3_6 q3_7 q5_0 q5_1 q5_2 q5_3 q5_4 q5_5; obtain ⟨q1_0, q1_1, q1_2, q1_3, q1_4, q1_5⟩ := blk6_ BK1.out; obtain ⟨q2_0, q2_1, q2_2, q2_3, q2_4, q2_5⟩ := blk6_ BK2.out; obtain ⟨q3_0, q3_1, q3_2, q3_3, q3_4, q3_5, q3_6, q3_7⟩ := blk8_ BK3.out; obtain ⟨q5_0, q5_1, q5_2, q5_3, q5_4, q5_5⟩ := blk6_ BK5.out))
  refine bodyPost_ret (results_cct rfl _ _ gb2_ 33 #[.slice Ao4_0 t1.length co4_0, .slice Ao4_1 t2.length co4_1, .slice Ao4_2 t3.length co4_2, .slice Ao4_3 t4.length co4_3, .slice Ao4_4 t5.length co4_4, .slice Ao4_5 t6.length co4_5] (0, 0) _ rfl BK2.out Try.underlying33 rfl (by kernel_rfl) gb3_ 38 #[.int .i64 0, .int .i64 0, .int .i64 0, .int .i64 0, .int .i64 0, .int .i64 0, .int .i64 0, .slice none 0 0] (0, 0) _ rfl BK3.out Try.underlying38 rfl (by kernel_rfl)) rfl ?_
  exact ⟨_, _, _, _, _, _, _, rfl, Kd.V_mono (Kd.R_V HO4_0.out) (fun k_ _ => by show w.heap.size ≤ k_; have := HS.out; omega), Kd.V_mono (Kd.R_V HO4_1.out) (fun k_ _ => by show w.heap.size ≤ k_; have := HS.out; omega), Kd.V_mono (Kd.R_V HO4_2.out) (fun k_ _ => by show w.heap.size ≤ k_; have := HS.out; omega), Kd.V_mono (Kd.R_V HO4_3.out) (fun k_ _ => by show w.heap.size ≤ k_; have := HS.out; omega), Kd.V_mono (Kd.S_V HO4_4.out) (fun k_ _ => by show w.heap.size ≤ k_; have := HS.out; omega), Kd.V_mono (Kd.S_V HO4_5.out) (fun k_ _ => by show w.heap.size ≤ k_; have := HS.out; omega), Kd.V_nil _ _ _ _ _, HB.out⟩
/-! ### slices_Equal_int_int: function 73 -/
def slices_Equal_int_int.l0 : Nat → List Int → List Int → Int → Int → Option (Bool)
 | 0, _, _, _, _ => none
 | k + 1, x0, x1, x12, x13 => if x13 < x12 then (if 0 ≤ x13 then (if x13 < (x0.length : Int) then (if x13 < (x1.length : Int) then (if (rd x0 x13) = (rd x1 x13) then (slices_Equal_int_int.l0 k x0 x1 x12 (wrap64 (x13 + 1))) else (some false)) else (none)) else (none)) else (none)) else (some true)
def slices_Equal_int_int.f (k : Nat) (l0 : List Int) (l1 : List Int) : Option (Bool) := if (l0.length : Int) = (l1.length : Int) then (slices_Equal_int_int.l0 k l0 l1 (l0.length : Int) 0) else (some false)
set_option maxHeartbeats 8000000 in
set_option maxRecDepth 100000 in
theorem slices_Equal_int_int.calls (k : Nat) (A0 : Option Addr) (c0 : Nat) (l0 : List Int) (A1 : Option Addr) (c1 : Nat) (l1 : List Int) (r : Bool) (w : World) (hr0 : Kd.C (Kd.int .i64) w A0 l0.length l0) (hc0 : l0.length ≤ c0) (hr1 : Kd.C (Kd.int .i64) w A1 l1.length l1) (hc1 : l1.length ≤ c1) (h : slices_Equal_int_int.f k l0 l1 = some r) :
  Calls Try.prog 73 #[.slice A0 l0.length c0, .slice A1 l1.length c1] w fun e w' => e = .returned (.bool r) ∧ Drawn0 w w' := by
 have HR0 := A_.mk hr0
 have HC0 := A_.mk hc0
 clear hr0 hc0
 have HR1 := A_.mk hr1
 have HC1 := A_.mk hc1
 clear hr1 hc1
 have H : (if (l0.length : Int) = (l1.length : Int) then (slices_Equal_int_int.l0 k l0 l1 (l0.length : Int) 0) else (some false)) = some r := h
 clear h
 by_cases c3 : (l0.length : Int) = (l1.length : Int)
 rotate_left
 ·rw [if_neg c3] at H
  have c3b0 : ((l0.length : Int) == (l1.length : Int)) = false := beq_eq_false_iff_ne.mpr c3
  have c3b1 : ((l0.length : Int) != (l1.length : Int)) = true := bne_iff_ne.mpr c3
  have c3b2 : (l0.length == l1.length) = false := by first | simpa using c3 | (simp at c3 ⊢; omega)
  obtain rfl := Option.some.inj H
  go_enter Try.func73, Try.ntmps73
  go_wp2
  repeat (go_quiet (fail); try go_wp2)
  go_ret
  exact ⟨by first | rfl | (simp; done) | (simp [*]; done), by repeat (first | exact Drawn0.refl _ | apply Drawn0.step)⟩
 rw [if_pos c3] at H
 have c3b0 : ((l0.length : Int) == (l1.length : Int)) = true := beq_iff_eq.mpr c3
 have c3b1 : ((l0.length : Int) != (l1.length : Int)) = false := bne_eq_false_iff_eq.mpr c3
 have c3b2 : (l0.length == l1.length) = true := by first | simpa using c3 | (simp at c3 ⊢; omega)
 clear c3
 have H' := A_.mk H
 clear H
 go_enter Try.func73, Try.ntmps73
 go_wp2
 repeat (go_quiet (fail); try go_wp2)
 go_loopg [13] k (fun kq v13 w' => ∃ (x13_1 : Int), v13 = .int .i64 x13_1 ∧ A_ (slices_Equal_int_int.l0 kq l0 l1 (l0.length : Int) x13_1 = some r) ∧ A_ (kq ≤ k) ∧ Drawn0 w w')
 case atStart => exact ⟨(0), (by first | rfl | (simp; done) | (simp [*]; done)), H', ⟨Nat.le_refl _⟩, by repeat (first | exact Drawn0.refl _ | apply Drawn0.step)⟩
 case round =>
  clear H'
  obtain ⟨x13_1, rfl, HA, HK1, ⟨m1, rfl⟩⟩ := hrel
  cases gk with
  | zero => exact absurd HA.out (by simp [slices_Equal_int_int.l0])
  | succ k1 =>
   have H := HA.out
   clear HA
   simp only [slices_Equal_int_int.l0] at H
   by_cases c4 : x13_1 < (l0.length : Int)
   rotate_left
   ·rw [if_neg c4] at H
    have c4b0 : decide (x13_1 < (l0.length : Int)) = false := decide_eq_false c4
    clear c4
    obtain rfl := Option.some.inj H
    go_wp2
    repeat (go_quiet (fail); try go_wp2)
    go_ret
    exact ⟨by first | rfl | (simp; done) | (simp [*]; done), by repeat (first | exact Drawn0.refl _ | apply Drawn0.step)⟩
   rw [if_pos c4] at H
   have c4b0 : decide (x13_1 < (l0.length : Int)) = true := decide_eq_true c4
   clear c4
   by_cases c5 : 0 ≤ x13_1
   rotate_left
   ·rw [if_neg c5] at H
    exact absurd H (by simp)
   rw [if_pos c5] at H
   have c5b0 : decide (0 ≤ x13_1) = true := decide_eq_true c5
   clear c5
   by_cases c6 : x13_1 < (l0.length : Int)
   rotate_left
   ·rw [if_neg c6] at H
    exact absurd H (by simp)
   rw [if_pos c6] at H
   have c6b0 : decide (x13_1 < (l0.length : Int)) = true := decide_eq_true c6
   clear c6
   by_cases c7 : x13_1 < (l1.length : Int)
   rotate_left
   ·rw [if_neg c7] at H
    exact absurd H (by simp)
   rw [if_pos c7] at H
   have c7b0 : decide (x13_1 < (l1.length : Int)) = true := decide_eq_true c7
   clear c7
   by_cases c8 : (rd l0 x13_1) = (rd l1 x13_1)
   rotate_left
   ·rw [if_neg c8] at H
    have c8b0 : ((rd l0 x13_1) == (rd l1 x13_1)) = false := beq_eq_false_iff_ne.mpr c8
    have c8b1 : ((rd l0 x13_1) != (rd l1 x13_1)) = true := bne_iff_ne.mpr c8
    obtain rfl := Option.some.inj H
    have p221 : 0 ≤ (x13_1 : Int) := od_
    have q221 : x13_1 < (l0.length : Int) := od_
    obtain ⟨ad221, e221, hx221_0⟩ := Kd.at_int HR0.out x13_1 p221 q221
    cases e221
    replace p221 := eq_true p221
    replace q221 := eq_true q221
    have p222 : 0 ≤ (x13_1 : Int) := od_
    have q222 : x13_1 < (l1.length : Int) := od_
    obtain ⟨ad222, e222, hx222_0⟩ := Kd.at_int HR1.out x13_1 p222 q222
    cases e222
    replace p222 := eq_true p222
    replace q222 := eq_true q222
    go_wp2
    repeat (go_quiet (fail); try go_wp2)
    go_ret
    exact ⟨by first | rfl | (simp; done) | (simp [*]; done), by repeat (first | exact Drawn0.refl _ | apply Drawn0.step)⟩
   rw [if_pos c8] at H
   have c8b0 : ((rd l0 x13_1) == (rd l1 x13_1)) = true := beq_iff_eq.mpr c8
   have c8b1 : ((rd l0 x13_1) != (rd l1 x13_1)) = false := bne_eq_false_iff_eq.mpr c8
   clear c8
   have H' := A_.mk H
   clear H
   have p221 : 0 ≤ (x13_1 : Int) := od_
   have q221 : x13_1 < (l0.length : Int) := od_
   obtain ⟨ad221, e221, hx221_0⟩ := Kd.at_int HR0.out x13_1 p221 q221
   cases e221
   replace p221 := eq_true p221
   replace q221 := eq_true q221
   have p222 : 0 ≤ (x13_1 : Int) := od_
   have q222 : x13_1 < (l1.length : Int) := od_
   obtain ⟨ad222, e222, hx222_0⟩ := Kd.at_int HR1.out x13_1 p222 q222
   cases e222
   replace p222 := eq_true p222
   replace q222 := eq_true q222
   go_wp2
   repeat (go_quiet (fail); try go_wp2)
   go_roundg k1
   case measure => have := HK1.out; omega
   case rel => exact ⟨(wrap64 (x13_1 + 1)), (by first | rfl | (simp; done) | (simp [*]; done)), H', ⟨by have := HK1.out; omega⟩, by repeat (first | exact Drawn0.refl _ | apply Drawn0.step)⟩
end Go.Proofs.Ytlombfmebinjbaa.PFnExactFreePacket
