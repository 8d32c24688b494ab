-- Written by a program of this session (wip/xp): not trusted, Lean checks it.
import Derived.Test.YtbdehpmfemgooaaPFnQueuesx0
import Derived.Test.YtbdehpmfemgooaaPFnQueuesx9
import Derived.Test.YtbdehpmfemgooaaPFnQueuesx12
import Derived.Test.YtbdehpmfemgooaaPFnQueuesx13
namespace Go.Proofs.Ytbdehpmfemgooaa.PFnQueues
open Go.RowKit Go.Proofs.YtbdehpmfemgooaaW.PrintWords Go.Proofs.YtbdehpmfemgooaaW.PrintLast Go.Proofs.YtbdehpmfemgooaaW.PrintMore
attribute [local go_sem] max2_int min2_int max_two min_two max_three min_three max_four min_four   -- for this text's walks alone
set_option linter.unusedVariables false
set_option linter.unusedSimpArgs false

theorem cell_grown_ {w w1 : World} {row : Option Nat} {h : Nat} (hg : w.grownBy w1 row) (hne : some h ≠ row) (i : Nat) {v : Value} (hx : w.cell? ⟨h, i, none⟩ = some v) : w1.cell? ⟨h, i, none⟩ = some v := by
 have hlt := wl_ w _ hx
 rw [← hx]
 simp only [World.cell?, hg.block h hlt hne]
/-! ### a queue in a block of its own -/
def QS (w : World) (base g : Nat) (v0 v1 v2 v3 : Value) (l0 : List S60) (l1 l2 : List Int) (l3 : List S60) : Prop :=
 Kd.N k60 60 w base (fun k_ => (base ≤ k_ ∧ some k_ ≠ v1.ownBlock ∧ some k_ ≠ v2.ownBlock ∧ some k_ ≠ v3.ownBlock) ∧ k_ ≠ g) v0 l0 ∧ Kd.R (Kd.int .i64) 3 w base (fun k_ => (base ≤ k_ ∧ some k_ ≠ v0.ownBlock ∧ some k_ ≠ v2.ownBlock ∧ some k_ ≠ v3.ownBlock) ∧ k_ ≠ g) v1 l1 ∧ Kd.R (Kd.int .i64) 3 w base (fun k_ => (base ≤ k_ ∧ some k_ ≠ v0.ownBlock ∧ some k_ ≠ v1.ownBlock ∧ some k_ ≠ v3.ownBlock) ∧ k_ ≠ g) v2 l2 ∧ Kd.N k60 60 w base (fun k_ => (base ≤ k_ ∧ some k_ ≠ v0.ownBlock ∧ some k_ ≠ v1.ownBlock ∧ some k_ ≠ v2.ownBlock) ∧ k_ ≠ g) v3 l3
theorem QS.n0 {w : World} {base g : Nat} {v0 v1 v2 v3 : Value} {l0 : List S60} {l1 l2 : List Int} {l3 : List S60} (h : QS w base g v0 v1 v2 v3 l0 l1 l2 l3) : Kd.N k60 60 w base (fun k_ => (base ≤ k_ ∧ some k_ ≠ v1.ownBlock ∧ some k_ ≠ v2.ownBlock ∧ some k_ ≠ v3.ownBlock) ∧ k_ ≠ g) v0 l0 := h.1
theorem QS.r1 {w : World} {base g : Nat} {v0 v1 v2 v3 : Value} {l0 : List S60} {l1 l2 : List Int} {l3 : List S60} (h : QS w base g v0 v1 v2 v3 l0 l1 l2 l3) : Kd.R (Kd.int .i64) 3 w base (fun k_ => (base ≤ k_ ∧ some k_ ≠ v0.ownBlock ∧ some k_ ≠ v2.ownBlock ∧ some k_ ≠ v3.ownBlock) ∧ k_ ≠ g) v1 l1 := h.2.1
theorem QS.r2 {w : World} {base g : Nat} {v0 v1 v2 v3 : Value} {l0 : List S60} {l1 l2 : List Int} {l3 : List S60} (h : QS w base g v0 v1 v2 v3 l0 l1 l2 l3) : Kd.R (Kd.int .i64) 3 w base (fun k_ => (base ≤ k_ ∧ some k_ ≠ v0.ownBlock ∧ some k_ ≠ v1.ownBlock ∧ some k_ ≠ v3.ownBlock) ∧ k_ ≠ g) v2 l2 := h.2.2.1
theorem QS.n3 {w : World} {base g : Nat} {v0 v1 v2 v3 : Value} {l0 : List S60} {l1 l2 : List Int} {l3 : List S60} (h : QS w base g v0 v1 v2 v3 l0 l1 l2 l3) : Kd.N k60 60 w base (fun k_ => (base ≤ k_ ∧ some k_ ≠ v0.ownBlock ∧ some k_ ≠ v1.ownBlock ∧ some k_ ≠ v2.ownBlock) ∧ k_ ≠ g) v3 l3 := h.2.2.2
theorem QS_below {w w1 : World} {base g : Nat} {v0 v1 v2 v3 : Value} {l0 : List S60} {l1 l2 : List Int} {l3 : List S60} (h : QS w base g v0 v1 v2 v3 l0 l1 l2 l3) (hb : Below w.heap.size w w1) : QS w1 base g v0 v1 v2 v3 l0 l1 l2 l3 := ⟨Kd.N_below h.1 hb, Kd.R_below h.2.1 hb, Kd.R_below h.2.2.1 hb, Kd.N_below h.2.2.2 hb⟩
theorem QS_far {w : World} {base g : Nat} {v0 v1 v2 v3 : Value} {l0 : List S60} {l1 l2 : List Int} {l3 : List S60} (h : QS w base g v0 v1 v2 v3 l0 l1 l2 l3) (j : Nat) (u : Value) : QS (w.setCell ⟨g, j, none⟩ u) base g v0 v1 v2 v3 l0 l1 l2 l3 :=
 ⟨Kd.N_far h.1 (fun _ hk => hk.2) u, Kd.R_far h.2.1 (fun _ hk => hk.2) u, Kd.R_far h.2.2.1 (fun _ hk => hk.2) u, Kd.N_far h.2.2.2 (fun _ hk => hk.2) u⟩
theorem QS_spend {w w1 : World} {base g : Nat} {v0 v1 v2 v3 : Value} {l0 : List S60} {l1 l2 : List Int} {l3 : List S60} {u1 u2 : Value} {m1 m2 : List Int} (h : QS w base g v0 v1 v2 v3 l0 l1 l2 l3) (hb : Below w.heap.size w w1) (hbase : base ≤ w.heap.size) (hg : g < w.heap.size)
  (h1 : Kd.R (Kd.int .i64) 3 w1 w.heap.size (fun k_ => some k_ ≠ u2.ownBlock) u1 m1) (h2 : Kd.R (Kd.int .i64) 3 w1 w.heap.size (fun k_ => some k_ ≠ u1.ownBlock) u2 m2) : QS w1 base g v0 u1 u2 v3 l0 m1 m2 l3 := by
 have b1 := Kd.R_base h1
 have b2 := Kd.R_base h2
 have n0 := Kd.N_lt h.1
 have n3 := Kd.N_lt h.2.2.2
 refine ⟨Kd.N_mono (Kd.N_below (Kd.N_bound h.1) hb) (fun k hk => ⟨⟨hk.1.1.1, fun e => ?_, fun e => ?_, hk.1.1.2.2.2⟩, hk.1.2⟩), Kd.R_lower (Kd.R_mono (Kd.R_bound h1) (fun k hk => ⟨⟨Nat.le_trans hbase hk.2.1, fun e => ?_, hk.1, fun e => ?_⟩, fun e => ?_⟩)) hbase, Kd.R_lower (Kd.R_mono (Kd.R_bound h2) (fun k hk => ⟨⟨Nat.le_trans hbase hk.2.1, fun e => ?_, hk.1, fun e => ?_⟩, fun e => ?_⟩)) hbase, Kd.N_mono (Kd.N_below (Kd.N_bound h.2.2.2) hb) (fun k hk => ⟨⟨hk.1.1.1, hk.1.1.2.1, fun e => ?_, fun e => ?_⟩, hk.1.2⟩)⟩
 ·have := b1 k e.symm; have := hk.2; omega
 ·have := b2 k e.symm; have := hk.2; omega
 ·have := n0 k e.symm; have := hk.2.1; omega
 ·have := n3 k e.symm; have := hk.2.1; omega
 ·have := hk.2.1; omega
 ·have := n0 k e.symm; have := hk.2.1; omega
 ·have := n3 k e.symm; have := hk.2.1; omega
 ·have := hk.2.1; omega
 ·have := b1 k e.symm; have := hk.2; omega
 ·have := b2 k e.symm; have := hk.2; omega
theorem QS_append {w w1 : World} {base g : Nat} {v0 v1 v2 v3 : Value} {l0 : List S60} {l1 l2 : List Int} {l3 : List S60} {u3 : Value} {m3 : List S60} (h : QS w base g v0 v1 v2 v3 l0 l1 l2 l3) (hg : w.grownBy w1 v3.ownBlock) (hat : u3.ownBlock = v3.ownBlock ∨ ∃ b, u3.ownBlock = some b ∧ w.heap.size ≤ b)
  (ho : Kd.N k60 60 w1 base (fun k_ => (base ≤ k_ ∧ some k_ ≠ v0.ownBlock ∧ some k_ ≠ v1.ownBlock ∧ some k_ ≠ v2.ownBlock) ∧ k_ ≠ g) u3 m3) : QS w1 base g v0 v1 v2 u3 l0 l1 l2 m3 :=
 ⟨Kd.N_mono (Kd.N_after (ok := fun k_ => (base ≤ k_ ∧ some k_ ≠ v1.ownBlock ∧ some k_ ≠ v2.ownBlock) ∧ k_ ≠ g) (Kd.N_mono h.1 (fun _ hk => ⟨⟨⟨hk.1.1, hk.1.2.1, hk.1.2.2.1⟩, hk.2⟩, hk.1.2.2.2⟩)) hg hat) (fun _ hk => ⟨⟨hk.1.1.1, hk.1.1.2.1, hk.1.1.2.2, hk.2⟩, hk.1.2⟩),
  Kd.R_mono (Kd.R_after (ok := fun k_ => (base ≤ k_ ∧ some k_ ≠ v0.ownBlock ∧ some k_ ≠ v2.ownBlock) ∧ k_ ≠ g) (Kd.R_mono h.2.1 (fun _ hk => ⟨⟨⟨hk.1.1, hk.1.2.1, hk.1.2.2.1⟩, hk.2⟩, hk.1.2.2.2⟩)) hg hat) (fun _ hk => ⟨⟨hk.1.1.1, hk.1.1.2.1, hk.1.1.2.2, hk.2⟩, hk.1.2⟩),
  Kd.R_mono (Kd.R_after (ok := fun k_ => (base ≤ k_ ∧ some k_ ≠ v0.ownBlock ∧ some k_ ≠ v1.ownBlock) ∧ k_ ≠ g) (Kd.R_mono h.2.2.1 (fun _ hk => ⟨⟨⟨hk.1.1, hk.1.2.1, hk.1.2.2.1⟩, hk.2⟩, hk.1.2.2.2⟩)) hg hat) (fun _ hk => ⟨⟨hk.1.1.1, hk.1.1.2.1, hk.1.1.2.2, hk.2⟩, hk.1.2⟩), ho⟩
theorem QS_erase {w w1 : World} {base g gw n n' c : Nat} {v1 v2 v3 : Value} {l0 m0 : List S60} {l1 l2 : List Int} {l3 : List S60} (h : QS w base g (.slice (some ⟨gw, 0, none⟩) n c) v1 v2 v3 l0 l1 l2 l3) (hk : Kept w w1 (fun k_ => k_ = gw))
  (ho : Kd.N k60 60 w1 base (fun k_ => (base ≤ k_ ∧ some k_ ≠ v1.ownBlock ∧ some k_ ≠ v2.ownBlock ∧ some k_ ≠ v3.ownBlock) ∧ k_ ≠ g) (.slice (some ⟨gw, 0, none⟩) n' c) m0) : QS w1 base g (.slice (some ⟨gw, 0, none⟩) n' c) v1 v2 v3 m0 l1 l2 l3 :=
 ⟨ho, Kd.R_kept h.2.1 hk (fun _ ha hb => ha.1.2.1 (by rw [hb]; rfl)), Kd.R_kept h.2.2.1 hk (fun _ ha hb => ha.1.2.1 (by rw [hb]; rfl)), Kd.N_kept h.2.2.2 hk (fun _ ha hb => ha.1.2.1 (by rw [hb]; rfl))⟩
theorem blk4_ {W : World} {g t : Nat} {a0 a1 a2 a3 : Value} (h : W.heap[g]? = some (.cells #[a0, a1, a2, a3] t (0, 0))) : W.cell? ⟨g, 0, none⟩ = some a0 ∧ W.cell? ⟨g, 1, none⟩ = some a1 ∧ W.cell? ⟨g, 2, none⟩ = some a2 ∧ W.cell? ⟨g, 3, none⟩ = some a3 :=
 ⟨(bc_ h 0).trans rfl, (bc_ h 1).trans rfl, (bc_ h 2).trans rfl, (bc_ h 3).trans rfl⟩
/-! ### impl_Queue_forward: function 61, told by hand -/
def impl_Queue_forward.f (k : Nat) (l0 : List S60) (l1 : List Int) (l2 : List Int) (l3 : List S60) : Option (List S60 × List Int × List Int × List S60 × Bool) :=
 (impl_Queue_next.f k l0 l1 l2 l3).bind fun t1 => (if t1 < 0 then (some (l0, l1, l2, l3, false)) else (if (l3.length : Int) = 1000 then (some (l0, l1, l2, l3, false)) else (if t1 < (l0.length : Int) then ((impl_SpendCredits.f k l1 l2 (rd_T60 l0 t1).f0 (rd_T60 l0 t1).f1 (rd_T60 l0 t1).f2 (rd_T60 l0 t1).f3 (rd_T60 l0 t1).f4 (rd_T60 l0 t1).f5 (rd_T60 l0 t1).f6 (rd_T60 l0 t1).f7).bind fun bt => (if (l3.length + 1) * 80 ≤ 140737488355328 then (some (l0.eraseIdx t1.toNat, bt.1, bt.2.1, l3 ++ [(rd_T60 l0 t1)], true)) else none)) else none)))
set_option maxHeartbeats 8000000 in
set_option maxRecDepth 100000 in
theorem impl_Queue_forward.calls (k : Nat) (g : Nat) (u0 u1 u2 u3 : Value) (l0 : List S60) (l1 : List Int) (l2 : List Int) (l3 : List S60) (r0 : List S60) (r1 r2 : List Int) (r3 : List S60) (r : Bool) (w0 w : World) (hB : Below w0.heap.size w0 w) (hg : w0.heap.size ≤ g) (hbk : w.heap[g]? = some (.cells #[u0, u1, u2, u3] 53 (0, 0))) (hq : QS w w0.heap.size g u0 u1 u2 u3 l0 l1 l2 l3) (h : impl_Queue_forward.f k l0 l1 l2 l3 = some (r0, r1, r2, r3, r)) :
  Calls Try.prog 61 #[.pointer (some ⟨g, 0, none⟩)] w fun e w' => ∃ x0 x1 x2 x3 : Value, e = .returned (.bool r) ∧ w'.heap[g]? = some (.cells #[x0, x1, x2, x3] 53 (0, 0)) ∧ QS w' w0.heap.size g x0 x1 x2 x3 r0 r1 r2 r3 ∧ Below w0.heap.size w0 w' ∧ Kept w w' (fun k_ => k_ = g ∨ some k_ = u0.ownBlock ∨ some k_ = u3.ownBlock) := by
 have hu53 := Try.underlying53
 have hbase := A_.mk hB.size
 have HB := A_.mk hB
 have HG := A_.mk hg
 have HQ := A_.mk hq
 have BK := A_.mk hbk
 have HK := A_.mk (Kept.refl w (fun k_ => k_ = g ∨ some k_ = u0.ownBlock ∨ some k_ = u3.ownBlock))
 unfold impl_Queue_forward.f at h
 obtain ⟨t1, A1_0, H⟩ := ob_ h
 have AN := A_.mk A1_0
 clear A1_0 h hB hg
 obtain ⟨A0, c0, e0⟩ := Kd.N_slice hq.n0
 obtain ⟨A1, c1, e1⟩ := Kd.R_slice hq.r1
 obtain ⟨A2, c2, e2⟩ := Kd.R_slice hq.r2
 obtain ⟨A3, c3, e3⟩ := Kd.N_slice hq.n3
 subst e0 e1 e2 e3
 clear hq hbk
 go_enter Try.func61, Try.ntmps61
 obtain ⟨q0, q1, q2, q3⟩ := blk4_ BK.out
 go_wp2_with fail
 (with_reducible refine (impl_Queue_next.calls k _ _ l0 _ _ l1 _ _ l2 _ _ l3 t1 _ (Kd.N_reads' HQ.out.n0).2.2 (Kd.N_reads' HQ.out.n0).2.1 (Kd.R_reads' HQ.out.r1).2.2 (Kd.R_reads' HQ.out.r1).2.1 (Kd.R_reads' HQ.out.r2).2.2 (Kd.R_reads' HQ.out.r2).2.1 (Kd.N_reads' HQ.out.n3).2.2 (Kd.N_reads' HQ.out.n3).2.1 AN.out).mono ?_)
 rintro e w1 ⟨rfl, hb⟩
 replace HQ := A_.mk (QS_below HQ.out hb)
 replace BK := A_.mk (bb_ BK.out hb)
 replace HK := A_.mk (HK.out.below hb)
 replace HB := A_.mk (below_then HB.out HB.out.size hb)
 replace hbase := A_.mk HB.out.size
 clear hb q0 q1 q2 q3
 obtain ⟨q0, q1, q2, q3⟩ := blk4_ BK.out
 by_cases h1 : t1 < 0
 case pos =>
  rw [if_pos h1] at H
  have h1b : decide (t1 < 0) = true := decide_eq_true h1
  simp only [Option.some.injEq, Prod.mk.injEq] at H
  obtain ⟨rfl, rfl, rfl, rfl, rfl⟩ := H
  go_wp2
  go_ret
  exact ⟨_, _, _, _, rfl, BK.out, HQ.out, HB.out, HK.out⟩
 rw [if_neg h1] at H
 have h1b : decide (t1 < 0) = false := decide_eq_false h1
 by_cases h2 : (l3.length : Int) = 1000
 case pos =>
  rw [if_pos h2] at H
  have h2b : ((l3.length : Int) == 1000) = true := beq_iff_eq.mpr h2
  clear h2
  simp only [Option.some.injEq, Prod.mk.injEq] at H
  obtain ⟨rfl, rfl, rfl, rfl, rfl⟩ := H
  go_wp2
  go_ret
  exact ⟨_, _, _, _, rfl, BK.out, HQ.out, HB.out, HK.out⟩
 rw [if_neg h2] at H
 have h2b : ((l3.length : Int) == 1000) = false := beq_eq_false_iff_ne.mpr h2
 by_cases h3 : t1 < (l0.length : Int)
 case neg => rw [if_neg h3] at H; cases H
 rw [if_pos h3] at H
 obtain ⟨⟨t2, t3, t4⟩, A2_0, H⟩ := ob_ H
 have AS := A_.mk A2_0
 clear A2_0
 try dsimp only at H
 by_cases h4 : (l3.length + 1) * 80 ≤ 140737488355328
 case neg => rw [if_neg h4] at H; cases H
 rw [if_pos h4] at H
 have HL := A_.mk h4
 clear h4
 simp only [Option.some.injEq, Prod.mk.injEq] at H
 obtain ⟨rfl, rfl, rfl, rfl, rfl⟩ := H
 have p1 : 0 ≤ t1 := by omega
 have q1_ := h3
 clear h1 h2 h3
 obtain ⟨gw, cw, ew, _, gl0, _⟩ := Kd.N_form HQ.out.n0 (by omega)
 cases ew
 obtain ⟨cc, hcl, hfk, hcc, _⟩ := Kd.N_elem HQ.out.n0 z60 t1 p1 q1_
 replace hfk : Kd.FK k60 w1 _ (rd_T60 l0 t1) cc := hfk
 obtain ⟨A7, c7, rfl, l7, g7⟩ := k60_open (Kd.FK_now hfk)
 have x0 : w1.cell? ⟨gw, t1.toNat * 8, none⟩ = some (.int .i64 (rd_T60 l0 t1).f0) := hcc 0 _ rfl
 have x1 : w1.cell? ⟨gw, t1.toNat * 8 + 1, none⟩ = some (.int .i64 (rd_T60 l0 t1).f1) := hcc 1 _ rfl
 have x2 : w1.cell? ⟨gw, t1.toNat * 8 + 2, none⟩ = some (.int .i64 (rd_T60 l0 t1).f2) := hcc 2 _ rfl
 have x3 : w1.cell? ⟨gw, t1.toNat * 8 + 3, none⟩ = some (.int .i64 (rd_T60 l0 t1).f3) := hcc 3 _ rfl
 have x4 : w1.cell? ⟨gw, t1.toNat * 8 + 4, none⟩ = some (.int .i64 (rd_T60 l0 t1).f4) := hcc 4 _ rfl
 have x5 : w1.cell? ⟨gw, t1.toNat * 8 + 5, none⟩ = some (.int .i64 (rd_T60 l0 t1).f5) := hcc 5 _ rfl
 have x6 : w1.cell? ⟨gw, t1.toNat * 8 + 6, none⟩ = some (.int .i64 (rd_T60 l0 t1).f6) := hcc 6 _ rfl
 have x7 : w1.cell? ⟨gw, t1.toNat * 8 + 7, none⟩ = some (.slice A7 (rd_T60 l0 t1).f7.length c7) := hcc 7 _ rfl
 have HF := A_.mk hfk
 have HD := A_.mk g7
 have HLD := A_.mk l7
 clear hcc hcl hfk g7 l7 gl0
 have PP := A_.mk p1
 have QQ := A_.mk q1_
 replace p1 := eq_true p1
 replace q1_ := eq_true q1_
 go_wp2_with fail
 refine start_ (n := 19) (S := fun w' => w'.cell? ⟨g, 0, none⟩ = some (.slice (some ⟨gw, 0, none⟩) l0.length c0) ∧ w'.cell? ⟨g, 1, none⟩ = some (.slice A1 l1.length c1) ∧ w'.cell? ⟨g, 2, none⟩ = some (.slice A2 l2.length c2) ∧ w'.cell? ⟨g, 3, none⟩ = some (.slice A3 l3.length c3) ∧ w'.cell? ⟨gw, t1.toNat * 8, none⟩ = some (.int .i64 (rd_T60 l0 t1).f0) ∧ w'.cell? ⟨gw, t1.toNat * 8 + 1, none⟩ = some (.int .i64 (rd_T60 l0 t1).f1) ∧ w'.cell? ⟨gw, t1.toNat * 8 + 2, none⟩ = some (.int .i64 (rd_T60 l0 t1).f2) ∧ w'.cell? ⟨gw, t1.toNat * 8 + 3, none⟩ = some (.int .i64 (rd_T60 l0 t1).f3) ∧ w'.cell? ⟨gw, t1.toNat * 8 + 4, none⟩ = some (.int .i64 (rd_T60 l0 t1).f4) ∧ w'.cell? ⟨gw, t1.toNat * 8 + 5, none⟩ = some (.int .i64 (rd_T60 l0 t1).f5) ∧ w'.cell? ⟨gw, t1.toNat * 8 + 6, none⟩ = some (.int .i64 (rd_T60 l0 t1).f6) ∧ w'.cell? ⟨gw, t1.toNat * 8 + 7, none⟩ = some (.slice A7 (rd_T60 l0 t1).f7.length c7)) (ds := [18]) #[F, F, F, F, F, F, F, F, F, F, F, F, F, F, F, F, F, F, F] (by kernel_rfl) rfl rfl ⟨q0, q1, q2, q3, x0, x1, x2, x3, x4, x5, x6, x7⟩ (fun hHeld => ?_)
 have hb := below_drew (Below.refl w1.heap.size w1)
 replace HF := A_.mk (Kd.FK_below HF.out hb)
 replace HD := A_.mk (Kd.C_below HD.out hb)
 replace x0 := (hb.cell (wl_ _ _ x0)).trans x0
 replace x1 := (hb.cell (wl_ _ _ x1)).trans x1
 replace x2 := (hb.cell (wl_ _ _ x2)).trans x2
 replace x3 := (hb.cell (wl_ _ _ x3)).trans x3
 replace x4 := (hb.cell (wl_ _ _ x4)).trans x4
 replace x5 := (hb.cell (wl_ _ _ x5)).trans x5
 replace x6 := (hb.cell (wl_ _ _ x6)).trans x6
 replace x7 := (hb.cell (wl_ _ _ x7)).trans x7
 replace HQ := A_.mk (QS_below HQ.out hb)
 replace BK := A_.mk (bb_ BK.out hb)
 replace HK := A_.mk (HK.out.below hb)
 replace HB := A_.mk (below_then HB.out HB.out.size hb)
 replace hbase := A_.mk HB.out.size
 clear hb q0 q1 q2 q3
 obtain ⟨q0, q1, q2, q3⟩ := blk4_ BK.out
 generalize w1.drew = w2 at HQ BK HK HB hbase HF HD q0 q1 q2 q3 x0 x1 x2 x3 x4 x5 x6 x7 hHeld ⊢
 refine pd_ (i := 0) (N := some 19) #[T, F, F, F, F, F, F, F, F, F, F, F, F, F, F, F, F, F, F] rfl ?_
 refine pd_ (i := 1) (N := some 20) #[T, T, F, F, F, F, F, F, F, F, F, F, F, F, F, F, F, F, F] rfl ?_
 refine pd_ (i := 2) (N := some 21) #[T, T, T, F, F, F, F, F, F, F, F, F, F, F, F, F, F, F, F] rfl ?_
 refine pd_ (i := 3) (N := some 22) #[T, T, T, T, F, F, F, F, F, F, F, F, F, F, F, F, F, F, F] rfl ?_
 refine take_ (i := 4) (N := some 23) (v := ?_) (a' := ?_) #[T, T, T, T, T, F, F, F, F, F, F, F, F, F, F, F, F, F, F] rfl rfl (by kernel_rfl) (fun _ _ _ h => h) (Or.inl ⟨by rfl, ?_⟩) hHeld ?_ ?_
 rotate_left
 ·rintro w' ⟨s0, s1, s2, s3, s4, s5, s6, s7, s8, s9, s10, s11⟩
  go_simp
  with_reducible rfl
 rotate_left
 ·simp only [pS]
  rfl
 refine pd_ (i := 5) (N := some 24) #[T, T, T, T, T, T, F, F, F, F, F, F, F, F, F, F, F, F, F] rfl ?_
 refine pd_ (i := 6) (N := some 25) #[T, T, T, T, T, T, T, F, F, F, F, F, F, F, F, F, F, F, F] rfl ?_
 refine pd_ (i := 7) (N := some 26) #[T, T, T, T, T, T, T, T, F, F, F, F, F, F, F, F, F, F, F] rfl ?_
 refine take_ (i := 8) (N := some 27) (v := ?_) (a' := ?_) #[T, T, T, T, T, T, T, T, T, F, F, F, F, F, F, F, F, F, F] rfl rfl (by kernel_rfl) (fun _ _ _ h => h) (Or.inl ⟨by rfl, ?_⟩) hHeld ?_ ?_
 rotate_left
 ·rintro w' ⟨s0, s1, s2, s3, s4, s5, s6, s7, s8, s9, s10, s11⟩
  go_simp
  with_reducible rfl
 rotate_left
 ·simp only [pS]
  rfl
 refine pd_ (i := 9) (N := some 28) #[T, T, T, T, T, T, T, T, T, T, F, F, F, F, F, F, F, F, F] rfl ?_
 refine pd_ (i := 10) (N := some 29) #[T, T, T, T, T, T, T, T, T, T, T, F, F, F, F, F, F, F, F] rfl ?_
 refine take_ (i := 11) (N := some 30) (v := ?_) (a' := ?_) #[T, T, T, T, T, T, T, T, T, T, T, T, F, F, F, F, F, F, F] rfl rfl (by kernel_rfl) (fun _ _ _ h => h) (Or.inl ⟨by rfl, ?_⟩) hHeld ?_ ?_
 rotate_left
 ·rintro w' ⟨s0, s1, s2, s3, s4, s5, s6, s7, s8, s9, s10, s11⟩
  go_simp
  with_reducible rfl
 rotate_left
 ·simp only [pS]
  rfl
 refine one_ (i := 12) (N := some 31) #[T, T, T, T, T, T, T, T, T, T, T, T, T, F, F, F, F, F, F] rfl rfl (by kernel_rfl) (by decide) (fun K hK => ?_)
 refine goes_ Try.func82 (by kernel_rfl) rfl #[.agg #[.slice A1 l1.length c1, .slice A2 l2.length c2], .agg #[.int .i64 (rd_T60 l0 t1).f0, .int .i64 (rd_T60 l0 t1).f1, .int .i64 (rd_T60 l0 t1).f2, .int .i64 (rd_T60 l0 t1).f3, .int .i64 (rd_T60 l0 t1).f4, .int .i64 (rd_T60 l0 t1).f5, .int .i64 (rd_T60 l0 t1).f6, .slice A7 (rd_T60 l0 t1).f7.length c7]] (by rfl) rfl rfl (by (try simp only [List.map_toArray, List.map_cons, List.map_nil]); first | done | rfl) ?_
 with_reducible refine (impl_SpendCredits.calls k _ _ l1 _ _ l2 (rd_T60 l0 t1).f0 (rd_T60 l0 t1).f1 (rd_T60 l0 t1).f2 (rd_T60 l0 t1).f3 (rd_T60 l0 t1).f4 (rd_T60 l0 t1).f5 (rd_T60 l0 t1).f6 _ _ (rd_T60 l0 t1).f7 t2 t3 t4 _ (Kd.R_reads' HQ.out.r1).2.2 (Kd.R_reads' HQ.out.r1).2.1 (Kd.R_reads' HQ.out.r2).2.2 (Kd.R_reads' HQ.out.r2).2.1 HD.out HLD.out AS.out).mono ?_
 rintro e w3 ⟨v1_, v2_, rfl, ho0_, ho1_, hb⟩
 refine ⟨_, rfl, ?_⟩
 obtain ⟨B1, d1, ev_⟩ := Kd.R_slice ho0_
 subst ev_
 obtain ⟨B2, d2, ev_⟩ := Kd.R_slice ho1_
 subst ev_
 replace HF := A_.mk (Kd.FK_below HF.out hb)
 replace HD := A_.mk (Kd.C_below HD.out hb)
 replace x0 := (hb.cell (wl_ _ _ x0)).trans x0
 replace x1 := (hb.cell (wl_ _ _ x1)).trans x1
 replace x2 := (hb.cell (wl_ _ _ x2)).trans x2
 replace x3 := (hb.cell (wl_ _ _ x3)).trans x3
 replace x4 := (hb.cell (wl_ _ _ x4)).trans x4
 replace x5 := (hb.cell (wl_ _ _ x5)).trans x5
 replace x6 := (hb.cell (wl_ _ _ x6)).trans x6
 replace x7 := (hb.cell (wl_ _ _ x7)).trans x7
 have hgl := blk_lt BK.out
 replace HQ := A_.mk (QS_spend HQ.out hb HB.out.size hgl ho0_ ho1_)
 replace BK := A_.mk (bb_ BK.out hb)
 replace HK := A_.mk (HK.out.below hb)
 replace HB := A_.mk (below_then HB.out HB.out.size hb)
 replace hbase := A_.mk HB.out.size
 clear hb hgl ho0_ ho1_ q0 q1 q2 q3
 obtain ⟨q0, q1, q2, q3⟩ := blk4_ BK.out
 refine hK.out _ _ ⟨q0, q1, q2, q3, x0, x1, x2, x3, x4, x5, x6, x7⟩ (fun hHeld => ?_)
 clear hK K
 refine norm_ (a' := ?_) ?_ ?_
 rotate_left
 ·show Act.put _ (some 31) _ = _
  simp only [pS]
  rfl
 refine pd_ (i := 13) (N := some 18) #[T, T, T, T, T, T, T, T, T, T, T, T, T, T, F, F, F, F, F] rfl ?_
 refine pd_ (i := 14) (N := some 32) #[T, T, T, T, T, T, T, T, T, T, T, T, T, T, T, F, F, F, F] rfl ?_
 refine pd_ (i := 15) (N := some 33) #[T, T, T, T, T, T, T, T, T, T, T, T, T, T, T, T, F, F, F] rfl ?_
 refine pd_ (i := 16) (N := some 34) #[T, T, T, T, T, T, T, T, T, T, T, T, T, T, T, T, T, F, F] rfl ?_
 refine pd_ (i := 17) (N := some 35) #[T, T, T, T, T, T, T, T, T, T, T, T, T, T, T, T, T, T, F] rfl ?_
 have f1_ := bf_ BK.out 1
 have f2_ := bf_ BK.out 2
 obtain ⟨w4, hw⟩ : ∃ q_ : World, q_ = ((w3.setCell ⟨g, 1, none⟩ (.slice B1 t2.length d1)).setCell ⟨g, 2, none⟩ (.slice B2 t3.length d2)) := ⟨_, rfl⟩
 refine last_ (i := 18) (N := none) #[T, T, T, T, T, T, T, T, T, T, T, T, T, T, T, T, T, T, T] rfl rfl (by kernel_rfl) (by decide) (fun K hK => ?_)
 refine skip_ (w1 := w4) (by rfl) rfl ?_ ?_
 ·rw [hw]; go_simp; try rfl
 refine hK.out _ _ ?_
 clear hK K f1_ f2_
 replace HB := A_.mk (show Below w0.heap.size w0 w4 by rw [hw]; exact (bs_ (bs_ HB.out HG.out) HG.out))
 replace HK := A_.mk (show Kept w w4 (fun k_ => k_ = g ∨ some k_ = (.slice (some ⟨gw, 0, none⟩) l0.length c0 : Value).ownBlock ∨ some k_ = (.slice A3 l3.length c3 : Value).ownBlock) by rw [hw]; exact (Kept.setCell (Kept.setCell HK.out (p := ⟨g, 1, none⟩) (.inl (.inl rfl)) _) (p := ⟨g, 2, none⟩) (.inl (.inl rfl)) _))
 replace HQ := A_.mk (show QS w4 w0.heap.size g (.slice (some ⟨gw, 0, none⟩) l0.length c0) (.slice B1 t2.length d1) (.slice B2 t3.length d2) (.slice A3 l3.length c3) l0 t2 t3 l3 by rw [hw]; exact (QS_far (QS_far HQ.out _ _) _ _))
 replace BK := A_.mk (show w4.heap[g]? = some (.cells #[.slice (some ⟨gw, 0, none⟩) l0.length c0, .slice B1 t2.length d1, .slice B2 t3.length d2, .slice A3 l3.length c3] 53 (0, 0)) by rw [hw]; exact (bp_ (cs := #[.slice (some ⟨gw, 0, none⟩) l0.length c0, .slice B1 t2.length d1, .slice A2 l2.length c2, .slice A3 l3.length c3]) (bp_ (cs := #[.slice (some ⟨gw, 0, none⟩) l0.length c0, .slice A1 l1.length c1, .slice A2 l2.length c2, .slice A3 l3.length c3]) BK.out 1 _ rfl) 2 _ rfl))
 clear hw HF HD HLD x0 x1 x2 x3 x4 x5 x6 x7 q0 q1 q2 q3
 obtain ⟨cc, hcl, hfk, hcc, _⟩ := Kd.N_elem HQ.out.n0 z60 t1 PP.out QQ.out
 replace hfk : Kd.FK k60 w4 _ (rd_T60 l0 t1) cc := hfk
 obtain ⟨A7, c7, rfl, l7, g7⟩ := k60_open (Kd.FK_now hfk)
 have x0 : w4.cell? ⟨gw, t1.toNat * 8, none⟩ = some (.int .i64 (rd_T60 l0 t1).f0) := hcc 0 _ rfl
 have x1 : w4.cell? ⟨gw, t1.toNat * 8 + 1, none⟩ = some (.int .i64 (rd_T60 l0 t1).f1) := hcc 1 _ rfl
 have x2 : w4.cell? ⟨gw, t1.toNat * 8 + 2, none⟩ = some (.int .i64 (rd_T60 l0 t1).f2) := hcc 2 _ rfl
 have x3 : w4.cell? ⟨gw, t1.toNat * 8 + 3, none⟩ = some (.int .i64 (rd_T60 l0 t1).f3) := hcc 3 _ rfl
 have x4 : w4.cell? ⟨gw, t1.toNat * 8 + 4, none⟩ = some (.int .i64 (rd_T60 l0 t1).f4) := hcc 4 _ rfl
 have x5 : w4.cell? ⟨gw, t1.toNat * 8 + 5, none⟩ = some (.int .i64 (rd_T60 l0 t1).f5) := hcc 5 _ rfl
 have x6 : w4.cell? ⟨gw, t1.toNat * 8 + 6, none⟩ = some (.int .i64 (rd_T60 l0 t1).f6) := hcc 6 _ rfl
 have x7 : w4.cell? ⟨gw, t1.toNat * 8 + 7, none⟩ = some (.slice A7 (rd_T60 l0 t1).f7.length c7) := hcc 7 _ rfl
 have HF := A_.mk hfk
 have HD := A_.mk g7
 have HLD := A_.mk l7
 clear hcc hcl hfk g7 l7
 refine done_ (by kernel_rfl) ?_
 obtain ⟨q0, q1, q2, q3⟩ := blk4_ BK.out
 replace hbase := A_.mk HB.out.size
 go_wp2_with fail
 refine start_ (n := 17) (S := fun w' => w'.cell? ⟨g, 0, none⟩ = some (.slice (some ⟨gw, 0, none⟩) l0.length c0) ∧ w'.cell? ⟨g, 1, none⟩ = some (.slice B1 t2.length d1) ∧ w'.cell? ⟨g, 2, none⟩ = some (.slice B2 t3.length d2) ∧ w'.cell? ⟨g, 3, none⟩ = some (.slice A3 l3.length c3) ∧ w'.cell? ⟨gw, t1.toNat * 8, none⟩ = some (.int .i64 (rd_T60 l0 t1).f0) ∧ w'.cell? ⟨gw, t1.toNat * 8 + 1, none⟩ = some (.int .i64 (rd_T60 l0 t1).f1) ∧ w'.cell? ⟨gw, t1.toNat * 8 + 2, none⟩ = some (.int .i64 (rd_T60 l0 t1).f2) ∧ w'.cell? ⟨gw, t1.toNat * 8 + 3, none⟩ = some (.int .i64 (rd_T60 l0 t1).f3) ∧ w'.cell? ⟨gw, t1.toNat * 8 + 4, none⟩ = some (.int .i64 (rd_T60 l0 t1).f4) ∧ w'.cell? ⟨gw, t1.toNat * 8 + 5, none⟩ = some (.int .i64 (rd_T60 l0 t1).f5) ∧ w'.cell? ⟨gw, t1.toNat * 8 + 6, none⟩ = some (.int .i64 (rd_T60 l0 t1).f6) ∧ w'.cell? ⟨gw, t1.toNat * 8 + 7, none⟩ = some (.slice A7 (rd_T60 l0 t1).f7.length c7)) (ds := [16]) #[F, F, F, F, F, F, F, F, F, F, F, F, F, F, F, F, F] (by kernel_rfl) rfl rfl ⟨q0, q1, q2, q3, x0, x1, x2, x3, x4, x5, x6, x7⟩ (fun hHeld => ?_)
 have hb := below_drew (Below.refl w4.heap.size w4)
 replace HF := A_.mk (Kd.FK_below HF.out hb)
 replace HD := A_.mk (Kd.C_below HD.out hb)
 replace x0 := (hb.cell (wl_ _ _ x0)).trans x0
 replace x1 := (hb.cell (wl_ _ _ x1)).trans x1
 replace x2 := (hb.cell (wl_ _ _ x2)).trans x2
 replace x3 := (hb.cell (wl_ _ _ x3)).trans x3
 replace x4 := (hb.cell (wl_ _ _ x4)).trans x4
 replace x5 := (hb.cell (wl_ _ _ x5)).trans x5
 replace x6 := (hb.cell (wl_ _ _ x6)).trans x6
 replace x7 := (hb.cell (wl_ _ _ x7)).trans x7
 replace HQ := A_.mk (QS_below HQ.out hb)
 replace BK := A_.mk (bb_ BK.out hb)
 replace HK := A_.mk (HK.out.below hb)
 replace HB := A_.mk (below_then HB.out HB.out.size hb)
 replace hbase := A_.mk HB.out.size
 clear hb q0 q1 q2 q3
 obtain ⟨q0, q1, q2, q3⟩ := blk4_ BK.out
 generalize w4.drew = w5 at HQ BK HK HB hbase HF HD q0 q1 q2 q3 x0 x1 x2 x3 x4 x5 x6 x7 hHeld ⊢
 refine pd_ (i := 0) (N := some 36) #[T, F, F, F, F, F, F, F, F, F, F, F, F, F, F, F, F] rfl ?_
 refine pd_ (i := 1) (N := some 37) #[T, T, F, F, F, F, F, F, F, F, F, F, F, F, F, F, F] rfl ?_
 refine pd_ (i := 2) (N := some 38) #[T, T, T, F, F, F, F, F, F, F, F, F, F, F, F, F, F] rfl ?_
 refine pd_ (i := 3) (N := some 39) #[T, T, T, T, F, F, F, F, F, F, F, F, F, F, F, F, F] rfl ?_
 refine take_ (i := 4) (N := some 40) (v := ?_) (a' := ?_) #[T, T, T, T, T, F, F, F, F, F, F, F, F, F, F, F, F] rfl rfl (by kernel_rfl) (fun _ _ _ h => h) (Or.inl ⟨by rfl, ?_⟩) hHeld ?_ ?_
 rotate_left
 ·rintro w' ⟨s0, s1, s2, s3, s4, s5, s6, s7, s8, s9, s10, s11⟩
  go_simp
  with_reducible rfl
 rotate_left
 ·simp only [pS]
  rfl
 refine pd_ (i := 5) (N := some 41) #[T, T, T, T, T, T, F, F, F, F, F, F, F, F, F, F, F] rfl ?_
 refine pd_ (i := 6) (N := some 42) #[T, T, T, T, T, T, T, F, F, F, F, F, F, F, F, F, F] rfl ?_
 refine pd_ (i := 7) (N := some 43) #[T, T, T, T, T, T, T, T, F, F, F, F, F, F, F, F, F] rfl ?_
 refine take_ (i := 8) (N := some 44) (v := ?_) (a' := ?_) #[T, T, T, T, T, T, T, T, T, F, F, F, F, F, F, F, F] rfl rfl (by kernel_rfl) (fun _ _ _ h => h) (Or.inl ⟨by rfl, ?_⟩) hHeld ?_ ?_
 rotate_left
 ·rintro w' ⟨s0, s1, s2, s3, s4, s5, s6, s7, s8, s9, s10, s11⟩
  go_simp
  with_reducible rfl
 rotate_left
 ·simp only [pS]
  rfl
 refine pd_ (i := 9) (N := some 45) #[T, T, T, T, T, T, T, T, T, T, F, F, F, F, F, F, F] rfl ?_
 refine pd_ (i := 10) (N := some 46) #[T, T, T, T, T, T, T, T, T, T, T, F, F, F, F, F, F] rfl ?_
 refine take_ (i := 11) (N := some 47) (v := ?_) (a' := ?_) #[T, T, T, T, T, T, T, T, T, T, T, T, F, F, F, F, F] rfl rfl (by kernel_rfl) (fun _ _ _ h => h) (Or.inl ⟨by rfl, ?_⟩) hHeld ?_ ?_
 rotate_left
 ·rintro w' ⟨s0, s1, s2, s3, s4, s5, s6, s7, s8, s9, s10, s11⟩
  go_simp
  with_reducible rfl
 rotate_left
 ·simp only [pS]
  rfl
 refine one_ (i := 12) (N := some 48) #[T, T, T, T, T, T, T, T, T, T, T, T, T, F, F, F, F] rfl rfl (by kernel_rfl) (by decide) (fun K hK => ?_)
 refine value_ (w1 := ?_) (v := ?_) (by rfl) rfl ?_ ?_
 rotate_left 2
 ·go_simp
  constructor
  ·rfl
  ·rfl
 refine hK.out _ _ ⟨(bc_ (bl_ BK.out _) 0).trans rfl, (bc_ (bl_ BK.out _) 1).trans rfl, (bc_ (bl_ BK.out _) 2).trans rfl, (bc_ (bl_ BK.out _) 3).trans rfl, ((ba_ (Below.refl _ _) _).cell (wl_ _ _ x0)).trans x0, ((ba_ (Below.refl _ _) _).cell (wl_ _ _ x1)).trans x1, ((ba_ (Below.refl _ _) _).cell (wl_ _ _ x2)).trans x2, ((ba_ (Below.refl _ _) _).cell (wl_ _ _ x3)).trans x3, ((ba_ (Below.refl _ _) _).cell (wl_ _ _ x4)).trans x4, ((ba_ (Below.refl _ _) _).cell (wl_ _ _ x5)).trans x5, ((ba_ (Below.refl _ _) _).cell (wl_ _ _ x6)).trans x6, ((ba_ (Below.refl _ _) _).cell (wl_ _ _ x7)).trans x7⟩ (fun hHeld => ?_)
 clear hK K
 refine norm_ (a' := ?_) ?_ ?_
 rotate_left
 ·show Act.put _ (some 48) _ = _
  simp only [pS]
  rfl
 have hgl := blk_lt BK.out
 refine one_ (i := 13) (N := some 49) #[T, T, T, T, T, T, T, T, T, T, T, T, T, T, F, F, F] rfl rfl (by kernel_rfl) (by decide) (fun K hK => ?_)
 refine Kd.N_append_step k60 (w0 := w0) w0.heap.size (by rfl) (.tmp 40) (.tmp 48) 27 60 (.agg #[(.int .i64 0), (.int .i64 0), (.int .i64 0), (.int .i64 0), (.int .i64 0), (.int .i64 0), (.int .i64 0), (.slice none 0 0)]) 80 rfl Try.underlying27 info60 rfl (by decide) (by omega) (.slice A3 l3.length c3) l3 (rd_T60 l0 t1) [.int .i64 (rd_T60 l0 t1).f0, .int .i64 (rd_T60 l0 t1).f1, .int .i64 (rd_T60 l0 t1).f2, .int .i64 (rd_T60 l0 t1).f3, .int .i64 (rd_T60 l0 t1).f4, .int .i64 (rd_T60 l0 t1).f5, .int .i64 (rd_T60 l0 t1).f6, .slice A7 (rd_T60 l0 t1).f7.length c7] (fun k_ => (w0.heap.size ≤ k_ ∧ some k_ ≠ (.slice (some ⟨gw, 0, none⟩) l0.length c0 : Value).ownBlock ∧ some k_ ≠ (.slice B1 t2.length d1 : Value).ownBlock ∧ some k_ ≠ (.slice B2 t3.length d2 : Value).ownBlock) ∧ k_ ≠ g) (fun k_ => (fun k_ => (w0.heap.size ≤ k_ ∧ some k_ ≠ (.slice B1 t2.length d1 : Value).ownBlock ∧ some k_ ≠ (.slice B2 t3.length d2 : Value).ownBlock ∧ some k_ ≠ (.slice A3 l3.length c3 : Value).ownBlock) ∧ k_ ≠ g) k_ ∧ k_ ≠ gw) rfl rfl HF.out ?aQ ?aF HQ.out.n3 HB.out hbase.out HL.out ?_
 case aQ => exact fun k_ hk_ => ⟨⟨⟨hk_.1.1.1, fun e_ => hk_.2 (by simpa [Value.ownBlock] using e_), hk_.1.1.2.1, hk_.1.1.2.2.1⟩, hk_.1.2⟩, hk_.1.1.2.2.2⟩
 case aF => exact fun k_ hk_ => ⟨⟨Nat.le_trans hbase.out hk_, Kd.fresh' (Kd.N_lt HQ.out.n0) k_ hk_, Kd.fresh' (Kd.R_lt HQ.out.r1) k_ hk_, Kd.fresh' (Kd.R_lt HQ.out.r2) k_ hk_⟩, fun e_ => by omega⟩
 intro v_ w6 ho hbb hgr hat
 obtain ⟨A4, c4, ev_⟩ := Kd.N_slice ho
 subst ev_
 have n3_ := HQ.out.n3.1
 replace HK := A_.mk (Kept.of_grown hgr HK.out (fun k_ e_ => .inl (.inr (.inr e_.symm))))
 replace BK := A_.mk (blk_grown BK.out hgr (fun e_ => (n3_ g e_.symm).2 rfl))
 replace x0 := (cell_grown_ hgr (fun e_ => (n3_ gw e_.symm).1.2.1 rfl) _ x0)
 replace x1 := (cell_grown_ hgr (fun e_ => (n3_ gw e_.symm).1.2.1 rfl) _ x1)
 replace x2 := (cell_grown_ hgr (fun e_ => (n3_ gw e_.symm).1.2.1 rfl) _ x2)
 replace x3 := (cell_grown_ hgr (fun e_ => (n3_ gw e_.symm).1.2.1 rfl) _ x3)
 replace x4 := (cell_grown_ hgr (fun e_ => (n3_ gw e_.symm).1.2.1 rfl) _ x4)
 replace x5 := (cell_grown_ hgr (fun e_ => (n3_ gw e_.symm).1.2.1 rfl) _ x5)
 replace x6 := (cell_grown_ hgr (fun e_ => (n3_ gw e_.symm).1.2.1 rfl) _ x6)
 replace x7 := (cell_grown_ hgr (fun e_ => (n3_ gw e_.symm).1.2.1 rfl) _ x7)
 replace HQ := A_.mk (QS_append HQ.out hgr hat ho)
 replace HB := A_.mk hbb
 replace hbase := A_.mk HB.out.size
 clear hgl n3_ ho hbb hgr hat HF HD q0 q1 q2 q3
 obtain ⟨q0, q1, q2, q3⟩ := blk4_ BK.out
 refine hK.out _ _ ⟨q0, q1, q2, q3, x0, x1, x2, x3, x4, x5, x6, x7⟩ (fun hHeld => ?_)
 clear hK K
 refine norm_ (a' := ?_) ?_ ?_
 rotate_left
 ·show Act.put _ (some 49) _ = _
  simp only [pS]
  rfl
 refine pd_ (i := 14) (N := some 50) #[T, T, T, T, T, T, T, T, T, T, T, T, T, T, T, F, F] rfl ?_
 refine pd_ (i := 15) (N := some 51) #[T, T, T, T, T, T, T, T, T, T, T, T, T, T, T, T, F] rfl ?_
 have f3_ := bf_ BK.out 3
 obtain ⟨w7, hw⟩ : ∃ q_ : World, q_ = (w6.setCell ⟨g, 3, none⟩ (.slice A4 (l3 ++ [(rd_T60 l0 t1)]).length c4)) := ⟨_, rfl⟩
 refine last_ (i := 16) (N := none) #[T, T, T, T, T, T, T, T, T, T, T, T, T, T, T, T, T] rfl rfl (by kernel_rfl) (by decide) (fun K hK => ?_)
 refine skip_ (w1 := w7) (by rfl) rfl ?_ ?_
 ·rw [hw]; go_simp; try rfl
 refine hK.out _ _ ?_
 clear hK K f3_
 replace HB := A_.mk (show Below w0.heap.size w0 w7 by rw [hw]; exact (bs_ HB.out HG.out))
 replace HK := A_.mk (show Kept w w7 (fun k_ => k_ = g ∨ some k_ = (.slice (some ⟨gw, 0, none⟩) l0.length c0 : Value).ownBlock ∨ some k_ = (.slice A3 l3.length c3 : Value).ownBlock) by rw [hw]; exact (Kept.setCell HK.out (p := ⟨g, 3, none⟩) (.inl (.inl rfl)) _))
 replace HQ := A_.mk (show QS w7 w0.heap.size g (.slice (some ⟨gw, 0, none⟩) l0.length c0) (.slice B1 t2.length d1) (.slice B2 t3.length d2) (.slice A4 (l3 ++ [(rd_T60 l0 t1)]).length c4) l0 t2 t3 _ by rw [hw]; exact (QS_far HQ.out _ _))
 replace BK := A_.mk (show w7.heap[g]? = some (.cells #[.slice (some ⟨gw, 0, none⟩) l0.length c0, .slice B1 t2.length d1, .slice B2 t3.length d2, .slice A4 (l3 ++ [(rd_T60 l0 t1)]).length c4] 53 (0, 0)) by rw [hw]; exact (bp_ (cs := #[.slice (some ⟨gw, 0, none⟩) l0.length c0, .slice B1 t2.length d1, .slice B2 t3.length d2, .slice A3 l3.length c3]) BK.out 3 _ rfl))
 clear hw x0 x1 x2 x3 x4 x5 x6 x7 q0 q1 q2 q3
 refine done_ (by kernel_rfl) ?_
 obtain ⟨q0, q1, q2, q3⟩ := blk4_ BK.out
 replace hbase := A_.mk HB.out.size
 clear p1 q1_
 go_wp2_with (first | ((with_reducible refine gc_ (f := 83) rfl ?_); refine gl_ (some 60) Try.func83 #[.slice (some ⟨gw, 0, none⟩) l0.length c0, .int .i64 t1, .int .i64 (wrap64 (t1 + 1))] ?_; (with_reducible refine (slices_Delete_60.calls _ gw l0.length c0 l0 t1 w0 _ HB.out HQ.out.n0 PP.out QQ.out).mono ?_); rintro e w8 ⟨rfl, ho, hbb, hk⟩; refine ⟨_, rfl, ?_⟩; have n0_ := (HQ.out.n0.1 gw rfl).2; replace BK := A_.mk ((hk.2 g (blk_lt BK.out) (fun e_ => n0_ e_.symm)).trans BK.out); replace HQ := A_.mk (QS_erase HQ.out hk ho); replace HK := A_.mk (HK.out.then_ hk (fun k_ e_ => .inl (.inr (.inl (by rw [e_]; rfl))))); replace HB := A_.mk hbb; clear ho hbb hk n0_ q0 q1 q2 q3; obtain ⟨q0, q1, q2, q3⟩ := blk4_ BK.out) | ((with_reducible refine gs_ (t := 27) (p := 62) rfl ?_); have f0_ := bf_ BK.out 0; refine se_ (t := 27) (p := 62) (v := ?vo_8) (w1 := (w8.setCell ⟨g, 0, none⟩ (.slice (some ⟨gw, 0, none⟩) (l0.length - 1) c0))) ?hg ?ho ?hn ?hr ?_; (case ho => rfl); (case hg => rfl); (case hn => rfl); (case hr => first | (go_simp; done) | (go_simp; rfl)); intro w9 hw; clear f0_; replace HB := A_.mk (show Below w0.heap.size w0 w9 from (by rw [hw]; exact (bs_ HB.out HG.out))); replace HK := A_.mk (show Kept w w9 (fun k_ => k_ = g ∨ some k_ = (.slice (some ⟨gw, 0, none⟩) l0.length c0 : Value).ownBlock ∨ some k_ = (.slice A3 l3.length c3 : Value).ownBlock) from (by rw [hw]; exact (Kept.setCell HK.out (p := ⟨g, 0, none⟩) (.inl (.inl rfl)) _))); replace HQ := A_.mk (show QS w9 w0.heap.size g (.slice (some ⟨gw, 0, none⟩) (l0.length - 1) c0) (.slice B1 t2.length d1) (.slice B2 t3.length d2) (.slice A4 (l3 ++ [(rd_T60 l0 t1)]).length c4) _ t2 t3 _ from (by rw [hw]; exact (QS_far HQ.out _ _))); replace BK := A_.mk (show w9.heap[g]? = some (.cells #[.slice (some ⟨gw, 0, none⟩) (l0.length - 1) c0, .slice B1 t2.length d1, .slice B2 t3.length d2, .slice A4 (l3 ++ [(rd_T60 l0 t1)]).length c4] 53 (0, 0)) from (by rw [hw]; exact (bp_ (cs := #[.slice (some ⟨gw, 0, none⟩) l0.length c0, .slice B1 t2.length d1, .slice B2 t3.length d2, .slice A4 (l3 ++ [(rd_T60 l0 t1)]).length c4]) BK.out 0 _ rfl))); clear hw q0 q1 q2 q3; obtain ⟨q0, q1, q2, q3⟩ := blk4_ BK.out))
 go_ret
 exact ⟨_, _, _, _, rfl, BK.out, HQ.out, HB.out, HK.out⟩
theorem QS_mk {w : World} {base g : Nat} {v0 v1 v2 v3 : Value} {l0 : List S60} {l1 l2 : List Int} {l3 : List S60} (h0 : Kd.S k60 60 w base (fun k_ => some k_ ≠ (v1 : Value).ownBlock ∧ some k_ ≠ (v2 : Value).ownBlock ∧ some k_ ≠ (v3 : Value).ownBlock) v0 l0) (h1 : Kd.R (Kd.int .i64) 3 w base (fun k_ => some k_ ≠ (v2 : Value).ownBlock) v1 l1) (h2 : Kd.R (Kd.int .i64) 3 w base (fun k_ => some k_ ≠ (v1 : Value).ownBlock) v2 l2) (h3 : Kd.S k60 60 w base (fun k_ => some k_ ≠ (v0 : Value).ownBlock ∧ some k_ ≠ (v1 : Value).ownBlock ∧ some k_ ≠ (v2 : Value).ownBlock) v3 l3) (hg : w.heap.size ≤ g) : QS w base g v0 v1 v2 v3 l0 l1 l2 l3 :=
 ⟨Kd.S_N (Kd.S_mono (Kd.S_bound h0) (fun k hk => ⟨⟨hk.2.1, hk.1⟩, fun e => by have := hk.2.2.1; omega⟩)),
  Kd.R_mono (Kd.R_bound (Kd.R_tight rfl h1)) (fun k hk => ⟨⟨hk.2.1, fun e => ((Kd.S_R h0).1 k e.symm).1 hk.1, h1.1 k hk.1.symm, fun e => ((Kd.S_R h3).1 k e.symm).2.1 hk.1⟩, fun e => by have := hk.2.2.1; omega⟩),
  Kd.R_mono (Kd.R_bound (Kd.R_tight rfl h2)) (fun k hk => ⟨⟨hk.2.1, fun e => ((Kd.S_R h0).1 k e.symm).2.1 hk.1, h2.1 k hk.1.symm, fun e => ((Kd.S_R h3).1 k e.symm).2.2 hk.1⟩, fun e => by have := hk.2.2.1; omega⟩),
  Kd.S_N (Kd.S_mono (Kd.S_bound h3) (fun k hk => ⟨⟨hk.2.1, hk.1⟩, fun e => by have := hk.2.2.1; omega⟩))⟩
theorem QS_low {w : World} {base g b : Nat} {v0 v1 v2 v3 : Value} {l0 : List S60} {l1 l2 : List Int} {l3 : List S60} (h : QS w base g v0 v1 v2 v3 l0 l1 l2 l3) (hb : b < base) (j : Nat) (u : Value) : QS (w.setCell ⟨b, j, none⟩ u) base g v0 v1 v2 v3 l0 l1 l2 l3 :=
 ⟨Kd.N_far h.1 (fun k hk e => by have := hk.1.1; have : k = b := e; omega) u, Kd.R_far h.2.1 (fun k hk e => by have := hk.1.1; have : k = b := e; omega) u, Kd.R_far h.2.2.1 (fun k hk e => by have := hk.1.1; have : k = b := e; omega) u, Kd.N_far h.2.2.2 (fun k hk e => by have := hk.1.1; have : k = b := e; omega) u⟩
/-! ### impl_ForwardNext: function 32, told by hand -/
def impl_ForwardNext.f (k : Nat) (l0_0 : List (S60)) (l0_1 : List Int) (l0_2 : List Int) (l0_3 : List (S60)) : Option (List (S60) × List Int × List Int × (List (S60)) × Bool) := (impl_copyQueue.f k l0_0 l0_1 l0_2 l0_3).bind fun bt => ((impl_QueueOk.f k l0_0 l0_1 l0_2 l0_3).bind fun t => (if t = true then (impl_Queue_forward.f k bt.1 bt.2.1 bt.2.2.1 bt.2.2.2) else (some (bt.1, bt.2.1, bt.2.2.1, bt.2.2.2, false))))
set_option maxHeartbeats 8000000 in
set_option maxRecDepth 100000 in
theorem impl_ForwardNext.calls (k : Nat) (A0_0 : Option Addr) (c0_0 : Nat) (l0_0 : List (S60)) (A0_1 : Option Addr) (c0_1 : Nat) (l0_1 : List Int) (A0_2 : Option Addr) (c0_2 : Nat) (l0_2 : List Int) (A0_3 : Option Addr) (c0_3 : Nat) (l0_3 : List (S60)) (r1 : List (S60)) (r2 : List Int) (r3 : List Int) (r4 : List (S60)) (r5 : Bool) (w : World) (hr0_0 : Kd.C k60 w A0_0 l0_0.length l0_0) (hc0_0 : l0_0.length ≤ c0_0) (hr0_1 : Kd.C (Kd.int .i64) w A0_1 l0_1.length l0_1) (hc0_1 : l0_1.length ≤ c0_1) (hr0_2 : Kd.C (Kd.int .i64) w A0_2 l0_2.length l0_2) (hc0_2 : l0_2.length ≤ c0_2) (hr0_3 : Kd.C k60 w A0_3 l0_3.length l0_3) (hc0_3 : l0_3.length ≤ c0_3) (h : impl_ForwardNext.f k l0_0 l0_1 l0_2 l0_3 = some (r1, r2, r3, r4, r5)) :
  Calls Try.prog 32 #[.agg #[.slice A0_0 l0_0.length c0_0, .slice A0_1 l0_1.length c0_1, .slice A0_2 l0_2.length c0_2, .slice A0_3 l0_3.length c0_3]] w fun e w' => ∃ v0_ v1_ v2_ v3_ : Value, e = .returned (.tuple #[.agg #[v0_, v1_, v2_, v3_], .bool r5]) ∧ Kd.N k60 60 w' w.heap.size (fun k_ => (some k_ ≠ (v1_ : Value).ownBlock ∧ some k_ ≠ (v2_ : Value).ownBlock ∧ some k_ ≠ (v3_ : Value).ownBlock) ∧ w.heap.size ≤ k_ ∧ True) v0_ r1 ∧ Kd.R (Kd.int .i64) 3 w' w.heap.size (fun k_ => some k_ ≠ (v2_ : Value).ownBlock) v1_ r2 ∧ Kd.R (Kd.int .i64) 3 w' w.heap.size (fun k_ => some k_ ≠ (v1_ : Value).ownBlock) v2_ r3 ∧ Kd.N k60 60 w' w.heap.size (fun k_ => (some k_ ≠ (v0_ : Value).ownBlock ∧ some k_ ≠ (v1_ : Value).ownBlock ∧ some k_ ≠ (v2_ : Value).ownBlock) ∧ w.heap.size ≤ k_ ∧ True) v3_ r4 ∧ Below w.heap.size w w' := by
 unfold impl_ForwardNext.f at h
 obtain ⟨⟨t0, t1, t2, t3⟩, A0_, H⟩ := ob_ h
 have AC := A_.mk A0_
 clear A0_ h
 try dsimp only at H
 obtain ⟨tb, A1_, H⟩ := ob_ H
 have AQ := A_.mk A1_
 clear A1_
 have hu53 := Try.underlying53
 have HR0 := A_.mk hr0_0
 have HC0 := A_.mk hc0_0
 clear hr0_0 hc0_0
 have HR1 := A_.mk hr0_1
 have HC1 := A_.mk hc0_1
 clear hr0_1 hc0_1
 have HR2 := A_.mk hr0_2
 have HC2 := A_.mk hc0_2
 clear hr0_2 hc0_2
 have HR3 := A_.mk hr0_3
 have HC3 := A_.mk hc0_3
 clear hr0_3 hc0_3
 go_enter Try.func32, Try.ntmps32
 go_wp2_with (first | ((with_reducible refine gd_ (N := 1) rfl ?_); refine by_ 1 (cs := #[.slice A0_0 l0_0.length c0_0, .slice A0_1 l0_1.length c0_1, .slice A0_2 l0_2.length c0_2, .slice A0_3 l0_3.length c0_3]) (t := 53) ?_; intro gb1 hg w1_ hbox hb; have BK1 := A_.mk hbox; have HB2 := A_.mk hb; clear hbox hb hg) | ((with_reducible refine gd_ (N := 2) rfl ?_); refine by_ 2 (cs := #[.slice none 0 0, .slice none 0 0, .slice none 0 0, .slice none 0 0]) (t := 53) ?_; intro gb2 hg w2_ hbox hb; have G1 := A_.mk (Nat.lt_of_lt_of_le (blk_lt BK1.out) hb.size); replace BK1 := A_.mk (bb_ BK1.out hb); have BK2 := A_.mk hbox; have G2 := A_.mk (blk_lt hbox); have GE2 := A_.mk (show w.heap.size ≤ gb2 from by rw [hg]; exact HB2.out.size); replace HB2 := A_.mk (below_then HB2.out HB2.out.size hb); have HBB := A_.mk (Below.refl w2_.heap.size w2_); clear hbox hb hg; obtain ⟨q0, q1, q2, q3⟩ := blk4_ ((HBB.out.block gb1 G1.out).trans BK1.out)) | ((with_reducible refine gc_ (f := 60) rfl ?_); refine gl_ (some 7) Try.func60 #[.agg #[.slice A0_0 l0_0.length c0_0, .slice A0_1 l0_1.length c0_1, .slice A0_2 l0_2.length c0_2, .slice A0_3 l0_3.length c0_3]] ?_; (with_reducible refine (impl_copyQueue.calls k _ _ l0_0 _ _ l0_1 _ _ l0_2 _ _ l0_3 t0 t1 t2 t3 _ (Kd.C_below HR0.out HB2.out) HC0.out (Kd.C_below HR1.out HB2.out) HC1.out (Kd.C_below HR2.out HB2.out) HC2.out (Kd.C_below HR3.out HB2.out) HC3.out AC.out).mono ?_); rintro e w3_ ⟨u0, u1, u2, u3, rfl, h0, h1, h2, h3, hb⟩; refine ⟨_, rfl, ?_⟩; obtain ⟨B0, d0, e_⟩ := Kd.S_slice h0; subst e_; obtain ⟨B1, d1, e_⟩ := Kd.R_slice h1; subst e_; obtain ⟨B2, d2, e_⟩ := Kd.R_slice h2; subst e_; obtain ⟨B3, d3, e_⟩ := Kd.S_slice h3; subst e_; have H0 := A_.mk h0; have H1 := A_.mk h1; have H2 := A_.mk h2; have H3 := A_.mk h3; replace HBB := A_.mk hb; clear h0 h1 h2 h3 hb q0 q1 q2 q3; obtain ⟨q0, q1, q2, q3⟩ := blk4_ ((HBB.out.block gb1 G1.out).trans BK1.out)) | ((with_reducible refine gd_ (N := 4) rfl ?_); refine by_ 4 (cs := #[.slice none 0 0, .slice none 0 0, .slice none 0 0, .slice none 0 0]) (t := 53) ?_; intro gb4 hg w4_ hbox hb; have HQ := A_.mk (QS_below (QS_mk H0.out H1.out H2.out H3.out (Nat.le_of_eq hg.symm)) hb); have G4 := A_.mk (show w2_.heap.size ≤ gb4 from by rw [hg]; exact HBB.out.size); have BK4 := A_.mk hbox; replace HBB := A_.mk (below_then HBB.out HBB.out.size hb); clear H0 H1 H2 H3 hbox hb hg q0 q1 q2 q3; obtain ⟨q0, q1, q2, q3⟩ := blk4_ ((HBB.out.block gb1 G1.out).trans BK1.out); obtain ⟨p0, p1, p2, p3⟩ := blk4_ BK4.out) | ((with_reducible refine gs_ (t := 53) (p := 4) rfl ?_); have f0_ := bf_ BK4.out 0; have f1_ := bf_ BK4.out 1; have f2_ := bf_ BK4.out 2; have f3_ := bf_ BK4.out 3; refine se_ (t := 53) (p := 4) (v := ?vo_5) (w1 := ((((w4_.setCell ⟨gb4, 0, none⟩ (.slice B0 t0.length d0)).setCell ⟨gb4, 1, none⟩ (.slice B1 t1.length d1)).setCell ⟨gb4, 2, none⟩ (.slice B2 t2.length d2)).setCell ⟨gb4, 3, none⟩ (.slice B3 t3.length d3))) ?hg ?ho ?hn ?hr ?_; (case ho => rfl); (case hg => rfl); (case hn => rfl); (case hr => first | (go_simp; done) | (go_simp; rfl)); intro w5_ hw; clear f0_ f1_ f2_ f3_; replace HQ := A_.mk (show QS w5_ w2_.heap.size gb4 (.slice B0 t0.length d0) (.slice B1 t1.length d1) (.slice B2 t2.length d2) (.slice B3 t3.length d3) t0 t1 t2 t3 from (by rw [hw]; exact (QS_far (QS_far (QS_far (QS_far HQ.out _ _) _ _) _ _) _ _))); replace HBB := A_.mk (show Below w2_.heap.size w2_ w5_ from (by rw [hw]; exact (bs_ (bs_ (bs_ (bs_ HBB.out G4.out) G4.out) G4.out) G4.out))); replace BK4 := A_.mk (show w5_.heap[gb4]? = some (.cells #[.slice B0 t0.length d0, .slice B1 t1.length d1, .slice B2 t2.length d2, .slice B3 t3.length d3] 53 (0, 0)) from (by rw [hw]; exact (bp_ (cs := #[.slice B0 t0.length d0, .slice B1 t1.length d1, .slice B2 t2.length d2, .slice none 0 0]) (bp_ (cs := #[.slice B0 t0.length d0, .slice B1 t1.length d1, .slice none 0 0, .slice none 0 0]) (bp_ (cs := #[.slice B0 t0.length d0, .slice none 0 0, .slice none 0 0, .slice none 0 0]) (bp_ (cs := #[.slice none 0 0, .slice none 0 0, .slice none 0 0, .slice none 0 0]) BK4.out 0 _ rfl) 1 _ rfl) 2 _ rfl) 3 _ rfl))); clear hw q0 q1 q2 q3 p0 p1 p2 p3; obtain ⟨q0, q1, q2, q3⟩ := blk4_ ((HBB.out.block gb1 G1.out).trans BK1.out); obtain ⟨p0, p1, p2, p3⟩ := blk4_ BK4.out))
 (with_reducible refine (impl_QueueOk.calls k _ _ l0_0 _ _ l0_1 _ _ l0_2 _ _ l0_3 tb _ (Kd.C_below HR0.out (below_then HB2.out HB2.out.size HBB.out)) HC0.out (Kd.C_below HR1.out (below_then HB2.out HB2.out.size HBB.out)) HC1.out (Kd.C_below HR2.out (below_then HB2.out HB2.out.size HBB.out)) HC2.out (Kd.C_below HR3.out (below_then HB2.out HB2.out.size HBB.out)) HC3.out AQ.out).mono ?_)
 rintro e w6_ ⟨rfl, hb⟩
 replace HQ := A_.mk (QS_below HQ.out hb)
 replace BK4 := A_.mk (bb_ BK4.out hb)
 replace HBB := A_.mk (below_then HBB.out HBB.out.size hb)
 clear hb q0 q1 q2 q3 p0 p1 p2 p3
 obtain ⟨q0, q1, q2, q3⟩ := blk4_ ((HBB.out.block gb1 G1.out).trans BK1.out)
 obtain ⟨p0, p1, p2, p3⟩ := blk4_ BK4.out
 by_cases hT : tb = true
 case neg =>
  rw [if_neg hT] at H
  replace hT := eq_false_of_ne_true hT
  subst hT
  simp only [Option.some.injEq, Prod.mk.injEq] at H
  obtain ⟨rfl, rfl, rfl, rfl, rfl⟩ := H
  obtain ⟨s0, s1, s2, s3⟩ := blk4_ ((HBB.out.block gb2 G2.out).trans BK2.out)
  go_wp2_with (first | ((with_reducible refine gs_ (t := 53) (p := 2) rfl ?_); have f0_ := bf_ ((HBB.out.block gb2 G2.out).trans BK2.out) 0; have f1_ := bf_ ((HBB.out.block gb2 G2.out).trans BK2.out) 1; have f2_ := bf_ ((HBB.out.block gb2 G2.out).trans BK2.out) 2; have f3_ := bf_ ((HBB.out.block gb2 G2.out).trans BK2.out) 3; refine se_ (t := 53) (p := 2) (v := ?vo_7) (w1 := ((((w6_.setCell ⟨gb2, 0, none⟩ (.slice B0 t0.length d0)).setCell ⟨gb2, 1, none⟩ (.slice B1 t1.length d1)).setCell ⟨gb2, 2, none⟩ (.slice B2 t2.length d2)).setCell ⟨gb2, 3, none⟩ (.slice B3 t3.length d3))) ?hg ?ho ?hn ?hr ?_; (case ho => rfl); (case hg => rfl); (case hn => rfl); (case hr => first | (go_simp; done) | (go_simp; rfl)); intro wz_ hw; clear f0_ f1_ f2_ f3_; replace HQ := A_.mk (show QS wz_ w2_.heap.size gb4 (.slice B0 t0.length d0) (.slice B1 t1.length d1) (.slice B2 t2.length d2) (.slice B3 t3.length d3) t0 t1 t2 t3 from (by rw [hw]; exact (QS_low (QS_low (QS_low (QS_low HQ.out G2.out _ _) G2.out _ _) G2.out _ _) G2.out _ _))); have HZ := A_.mk (show Below w.heap.size w wz_ from (by rw [hw]; exact (bs_ (bs_ (bs_ (bs_ (below_then HB2.out HB2.out.size HBB.out) GE2.out) GE2.out) GE2.out) GE2.out))); have BKZ := A_.mk (show wz_.heap[gb2]? = some (.cells #[.slice B0 t0.length d0, .slice B1 t1.length d1, .slice B2 t2.length d2, .slice B3 t3.length d3] 53 (0, 0)) from (by rw [hw]; exact (bp_ (cs := #[.slice B0 t0.length d0, .slice B1 t1.length d1, .slice B2 t2.length d2, .slice none 0 0]) (bp_ (cs := #[.slice B0 t0.length d0, .slice B1 t1.length d1, .slice none 0 0, .slice none 0 0]) (bp_ (cs := #[.slice B0 t0.length d0, .slice none 0 0, .slice none 0 0, .slice none 0 0]) (bp_ (cs := #[.slice none 0 0, .slice none 0 0, .slice none 0 0, .slice none 0 0]) ((HBB.out.block gb2 G2.out).trans BK2.out) 0 _ rfl) 1 _ rfl) 2 _ rfl) 3 _ rfl))); clear hw s0 s1 s2 s3))
  refine bodyPost_ret (results_ct rfl _ _ gb2 53 #[.slice B0 t0.length d0, .slice B1 t1.length d1, .slice B2 t2.length d2, .slice B3 t3.length d3] (0, 0) _ rfl BKZ.out Try.underlying53 rfl (by kernel_rfl)) rfl ?_
  exact ⟨_, _, _, _, rfl, Kd.N_lower (Kd.N_mono HQ.out.n0 (fun _ hk => ⟨hk.1.2, Nat.le_trans HB2.out.size hk.1.1, trivial⟩)) HB2.out.size, Kd.R_lower (Kd.R_mono HQ.out.r1 (fun _ hk => hk.1.2.2.1)) HB2.out.size, Kd.R_lower (Kd.R_mono HQ.out.r2 (fun _ hk => hk.1.2.2.1)) HB2.out.size, Kd.N_lower (Kd.N_mono HQ.out.n3 (fun _ hk => ⟨hk.1.2, Nat.le_trans HB2.out.size hk.1.1, trivial⟩)) HB2.out.size, HZ.out⟩
 rw [if_pos hT] at H
 subst hT
 have AF := A_.mk H
 clear H
 go_wp2_with fail
 (with_reducible refine (impl_Queue_forward.calls k gb4 _ _ _ _ t0 t1 t2 t3 r1 r2 r3 r4 r5 w2_ _ HBB.out G4.out BK4.out HQ.out AF.out).mono ?_)
 rintro e w8_ ⟨x0, x1, x2, x3, rfl, hbk, hq, hbb, _⟩
 obtain ⟨E0, f0, e_⟩ := Kd.N_slice hq.n0
 subst e_
 obtain ⟨E1, f1, e_⟩ := Kd.R_slice hq.r1
 subst e_
 obtain ⟨E2, f2, e_⟩ := Kd.R_slice hq.r2
 subst e_
 obtain ⟨E3, f3, e_⟩ := Kd.N_slice hq.n3
 subst e_
 replace BK4 := A_.mk hbk
 replace HQ := A_.mk hq
 replace HBB := A_.mk hbb
 clear hbk hq hbb q0 q1 q2 q3 p0 p1 p2 p3
 obtain ⟨p0, p1, p2, p3⟩ := blk4_ BK4.out
 obtain ⟨s0, s1, s2, s3⟩ := blk4_ ((HBB.out.block gb2 G2.out).trans BK2.out)
 go_wp2_with (first | ((with_reducible refine gs_ (t := 53) (p := 2) rfl ?_); have f0_ := bf_ ((HBB.out.block gb2 G2.out).trans BK2.out) 0; have f1_ := bf_ ((HBB.out.block gb2 G2.out).trans BK2.out) 1; have f2_ := bf_ ((HBB.out.block gb2 G2.out).trans BK2.out) 2; have f3_ := bf_ ((HBB.out.block gb2 G2.out).trans BK2.out) 3; refine se_ (t := 53) (p := 2) (v := ?vo_9) (w1 := ((((w8_.setCell ⟨gb2, 0, none⟩ (.slice E0 r1.length f0)).setCell ⟨gb2, 1, none⟩ (.slice E1 r2.length f1)).setCell ⟨gb2, 2, none⟩ (.slice E2 r3.length f2)).setCell ⟨gb2, 3, none⟩ (.slice E3 r4.length f3))) ?hg ?ho ?hn ?hr ?_; (case ho => rfl); (case hg => rfl); (case hn => rfl); (case hr => first | (go_simp; done) | (go_simp; rfl)); intro wz_ hw; clear f0_ f1_ f2_ f3_; replace HQ := A_.mk (show QS wz_ w2_.heap.size gb4 (.slice E0 r1.length f0) (.slice E1 r2.length f1) (.slice E2 r3.length f2) (.slice E3 r4.length f3) r1 r2 r3 r4 from (by rw [hw]; exact (QS_low (QS_low (QS_low (QS_low HQ.out G2.out _ _) G2.out _ _) G2.out _ _) G2.out _ _))); have HZ := A_.mk (show Below w.heap.size w wz_ from (by rw [hw]; exact (bs_ (bs_ (bs_ (bs_ (below_then HB2.out HB2.out.size HBB.out) GE2.out) GE2.out) GE2.out) GE2.out))); have BKZ := A_.mk (show wz_.heap[gb2]? = some (.cells #[.slice E0 r1.length f0, .slice E1 r2.length f1, .slice E2 r3.length f2, .slice E3 r4.length f3] 53 (0, 0)) from (by rw [hw]; exact (bp_ (cs := #[.slice E0 r1.length f0, .slice E1 r2.length f1, .slice E2 r3.length f2, .slice none 0 0]) (bp_ (cs := #[.slice E0 r1.length f0, .slice E1 r2.length f1, .slice none 0 0, .slice none 0 0]) (bp_ (cs := #[.slice E0 r1.length f0, .slice none 0 0, .slice none 0 0, .slice none 0 0]) (bp_ (cs := #[.slice none 0 0, .slice none 0 0, .slice none 0 0, .slice none 0 0]) ((HBB.out.block gb2 G2.out).trans BK2.out) 0 _ rfl) 1 _ rfl) 2 _ rfl) 3 _ rfl))); clear hw s0 s1 s2 s3))
 refine bodyPost_ret (results_ct rfl _ _ gb2 53 #[.slice E0 r1.length f0, .slice E1 r2.length f1, .slice E2 r3.length f2, .slice E3 r4.length f3] (0, 0) _ rfl BKZ.out Try.underlying53 rfl (by kernel_rfl)) rfl ?_
 exact ⟨_, _, _, _, rfl, Kd.N_lower (Kd.N_mono HQ.out.n0 (fun _ hk => ⟨hk.1.2, Nat.le_trans HB2.out.size hk.1.1, trivial⟩)) HB2.out.size, Kd.R_lower (Kd.R_mono HQ.out.r1 (fun _ hk => hk.1.2.2.1)) HB2.out.size, Kd.R_lower (Kd.R_mono HQ.out.r2 (fun _ hk => hk.1.2.2.1)) HB2.out.size, Kd.N_lower (Kd.N_mono HQ.out.n3 (fun _ hk => ⟨hk.1.2, Nat.le_trans HB2.out.size hk.1.1, trivial⟩)) HB2.out.size, HZ.out⟩
/-! ### slices_Equal_int_int: function 62 -/
def slices_Equal_int_int.l0 : Nat → List Int → List Int → Int → Int → Option (Bool)
 | 0, _, _, _, _ => none
 | k + 1, x0, x1, x12, x13 => if x13 < x12 then (if 0 ≤ x13 then (if x13 < (x0.length : Int) then (if x13 < (x1.length : Int) then (if (rd x0 x13) = (rd x1 x13) then (slices_Equal_int_int.l0 k x0 x1 x12 (wrap64 (x13 + 1))) else (some false)) else (none)) else (none)) else (none)) else (some true)
def slices_Equal_int_int.f (k : Nat) (l0 : List Int) (l1 : List Int) : Option (Bool) := if (l0.length : Int) = (l1.length : Int) then (slices_Equal_int_int.l0 k l0 l1 (l0.length : Int) 0) else (some false)
set_option maxHeartbeats 8000000 in
set_option maxRecDepth 100000 in
theorem slices_Equal_int_int.calls (k : Nat) (A0 : Option Addr) (c0 : Nat) (l0 : List Int) (A1 : Option Addr) (c1 : Nat) (l1 : List Int) (r : Bool) (w : World) (hr0 : Kd.C (Kd.int .i64) w A0 l0.length l0) (hc0 : l0.length ≤ c0) (hr1 : Kd.C (Kd.int .i64) w A1 l1.length l1) (hc1 : l1.length ≤ c1) (h : slices_Equal_int_int.f k l0 l1 = some r) :
  Calls Try.prog 62 #[.slice A0 l0.length c0, .slice A1 l1.length c1] w fun e w' => e = .returned (.bool r) ∧ Drawn0 w w' := by
 have HR0 := A_.mk hr0
 have HC0 := A_.mk hc0
 clear hr0 hc0
 have HR1 := A_.mk hr1
 have HC1 := A_.mk hc1
 clear hr1 hc1
 have H : (if (l0.length : Int) = (l1.length : Int) then (slices_Equal_int_int.l0 k l0 l1 (l0.length : Int) 0) else (some false)) = some r := h
 clear h
 by_cases c3 : (l0.length : Int) = (l1.length : Int)
 rotate_left
 ·rw [if_neg c3] at H
  have c3b0 : ((l0.length : Int) == (l1.length : Int)) = false := beq_eq_false_iff_ne.mpr c3
  have c3b1 : ((l0.length : Int) != (l1.length : Int)) = true := bne_iff_ne.mpr c3
  have c3b2 : (l0.length == l1.length) = false := by first | simpa using c3 | (simp at c3 ⊢; omega)
  obtain rfl := Option.some.inj H
  go_enter Try.func62, Try.ntmps62
  go_wp2
  repeat (go_quiet (fail); try go_wp2)
  go_ret
  exact ⟨by first | rfl | (simp; done) | (simp [*]; done), by repeat (first | exact Drawn0.refl _ | apply Drawn0.step)⟩
 rw [if_pos c3] at H
 have c3b0 : ((l0.length : Int) == (l1.length : Int)) = true := beq_iff_eq.mpr c3
 have c3b1 : ((l0.length : Int) != (l1.length : Int)) = false := bne_eq_false_iff_eq.mpr c3
 have c3b2 : (l0.length == l1.length) = true := by first | simpa using c3 | (simp at c3 ⊢; omega)
 clear c3
 have H' := A_.mk H
 clear H
 go_enter Try.func62, Try.ntmps62
 go_wp2
 repeat (go_quiet (fail); try go_wp2)
 go_loopg [13] k (fun kq v13 w' => ∃ (x13_1 : Int), v13 = .int .i64 x13_1 ∧ A_ (slices_Equal_int_int.l0 kq l0 l1 (l0.length : Int) x13_1 = some r) ∧ A_ (kq ≤ k) ∧ Drawn0 w w')
 case atStart => exact ⟨(0), (by first | rfl | (simp; done) | (simp [*]; done)), H', ⟨Nat.le_refl _⟩, by repeat (first | exact Drawn0.refl _ | apply Drawn0.step)⟩
 case round =>
  clear H'
  obtain ⟨x13_1, rfl, HA, HK1, ⟨m1, rfl⟩⟩ := hrel
  cases gk with
  | zero => exact absurd HA.out (by simp [slices_Equal_int_int.l0])
  | succ k1 =>
   have H := HA.out
   clear HA
   simp only [slices_Equal_int_int.l0] at H
   by_cases c4 : x13_1 < (l0.length : Int)
   rotate_left
   ·rw [if_neg c4] at H
    have c4b0 : decide (x13_1 < (l0.length : Int)) = false := decide_eq_false c4
    clear c4
    obtain rfl := Option.some.inj H
    go_wp2
    repeat (go_quiet (fail); try go_wp2)
    go_ret
    exact ⟨by first | rfl | (simp; done) | (simp [*]; done), by repeat (first | exact Drawn0.refl _ | apply Drawn0.step)⟩
   rw [if_pos c4] at H
   have c4b0 : decide (x13_1 < (l0.length : Int)) = true := decide_eq_true c4
   clear c4
   by_cases c5 : 0 ≤ x13_1
   rotate_left
   ·rw [if_neg c5] at H
    exact absurd H (by simp)
   rw [if_pos c5] at H
   have c5b0 : decide (0 ≤ x13_1) = true := decide_eq_true c5
   clear c5
   by_cases c6 : x13_1 < (l0.length : Int)
   rotate_left
   ·rw [if_neg c6] at H
    exact absurd H (by simp)
   rw [if_pos c6] at H
   have c6b0 : decide (x13_1 < (l0.length : Int)) = true := decide_eq_true c6
   clear c6
   by_cases c7 : x13_1 < (l1.length : Int)
   rotate_left
   ·rw [if_neg c7] at H
    exact absurd H (by simp)
   rw [if_pos c7] at H
   have c7b0 : decide (x13_1 < (l1.length : Int)) = true := decide_eq_true c7
   clear c7
   by_cases c8 : (rd l0 x13_1) = (rd l1 x13_1)
   rotate_left
   ·rw [if_neg c8] at H
    have c8b0 : ((rd l0 x13_1) == (rd l1 x13_1)) = false := beq_eq_false_iff_ne.mpr c8
    have c8b1 : ((rd l0 x13_1) != (rd l1 x13_1)) = true := bne_iff_ne.mpr c8
    obtain rfl := Option.some.inj H
    have p472 : 0 ≤ (x13_1 : Int) := od_
    have q472 : x13_1 < (l0.length : Int) := od_
    obtain ⟨ad472, e472, hx472_0⟩ := Kd.at_int HR0.out x13_1 p472 q472
    cases e472
    replace p472 := eq_true p472
    replace q472 := eq_true q472
    have p473 : 0 ≤ (x13_1 : Int) := od_
    have q473 : x13_1 < (l1.length : Int) := od_
    obtain ⟨ad473, e473, hx473_0⟩ := Kd.at_int HR1.out x13_1 p473 q473
    cases e473
    replace p473 := eq_true p473
    replace q473 := eq_true q473
    go_wp2
    repeat (go_quiet (fail); try go_wp2)
    go_ret
    exact ⟨by first | rfl | (simp; done) | (simp [*]; done), by repeat (first | exact Drawn0.refl _ | apply Drawn0.step)⟩
   rw [if_pos c8] at H
   have c8b0 : ((rd l0 x13_1) == (rd l1 x13_1)) = true := beq_iff_eq.mpr c8
   have c8b1 : ((rd l0 x13_1) != (rd l1 x13_1)) = false := bne_eq_false_iff_eq.mpr c8
   clear c8
   have H' := A_.mk H
   clear H
   have p472 : 0 ≤ (x13_1 : Int) := od_
   have q472 : x13_1 < (l0.length : Int) := od_
   obtain ⟨ad472, e472, hx472_0⟩ := Kd.at_int HR0.out x13_1 p472 q472
   cases e472
   replace p472 := eq_true p472
   replace q472 := eq_true q472
   have p473 : 0 ≤ (x13_1 : Int) := od_
   have q473 : x13_1 < (l1.length : Int) := od_
   obtain ⟨ad473, e473, hx473_0⟩ := Kd.at_int HR1.out x13_1 p473 q473
   cases e473
   replace p473 := eq_true p473
   replace q473 := eq_true q473
   go_wp2
   repeat (go_quiet (fail); try go_wp2)
   go_roundg k1
   case measure => have := HK1.out; omega
   case rel => exact ⟨(wrap64 (x13_1 + 1)), (by first | rfl | (simp; done) | (simp [*]; done)), H', ⟨by have := HK1.out; omega⟩, by repeat (first | exact Drawn0.refl _ | apply Drawn0.step)⟩
end Go.Proofs.Ytbdehpmfemgooaa.PFnQueues
