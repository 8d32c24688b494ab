-- Written by a program of this session (wip/xp): not trusted, Lean checks it.
import Derived.Test.YtlombfmebinjbaaPFnExactTellCreditsx0
import Derived.Test.YtlombfmebinjbaaPFnExactTellCreditsx1
import Derived.Test.YtlombfmebinjbaaPFnExactTellCreditsx3
namespace Go.Proofs.Ytlombfmebinjbaa.PFnExactTellCredits
open Go.RowKit Go.Proofs.YtlombfmebinjbaaW.PrintWords Go.Proofs.YtlombfmebinjbaaW.PrintLast Go.Proofs.YtlombfmebinjbaaW.PrintMore
attribute [local go_sem] max2_int min2_int max_two min_two max_three min_three max_four min_four   -- for this text's walks alone
set_option linter.unusedVariables false
set_option linter.unusedSimpArgs false

/-! ### laws_markPacketS: function 57, told by hand: every packet of a row is marked -/
theorem put38_ {W : World} {base g n cap : Nat} {ok : Nat → Prop} {xs : List S38} {i : Int} {y : S38} (h : Kd.S k38 38 W base ok (.slice (some ⟨g, 0, none⟩) n cap) (xs.set i.toNat y)) (h0 : 0 ≤ i) (h1 : i < (n : Int)) (j : Nat) (k q : Int) (y' : S38) (hj : j + 1 ≤ 8)
  (hq : ∀ v : Value, ([.int .i64 y.f0, .int .i64 y.f1, .int .i64 y.f2, .int .i64 y.f3, .int .i64 y.f4, .int .i64 y.f5, .int .i64 y.f6, v] : List Value)[j]? = some (.int .i64 q)) (hy : ∀ v : Value, ([.int .i64 y.f0, .int .i64 y.f1, .int .i64 y.f2, .int .i64 y.f3, .int .i64 y.f4, .int .i64 y.f5, .int .i64 y.f6, v] : List Value).take j ++ [.int .i64 k] ++ ([.int .i64 y.f0, .int .i64 y.f1, .int .i64 y.f2, .int .i64 y.f3, .int .i64 y.f4, .int .i64 y.f5, .int .i64 y.f6, v] : List Value).drop (j + 1) = [.int .i64 y'.f0, .int .i64 y'.f1, .int .i64 y'.f2, .int .i64 y'.f3, .int .i64 y'.f4, .int .i64 y'.f5, .int .i64 y'.f6, v]) (h7 : y'.f7 = y.f7) :
  Kd.S k38 38 (W.setCell ⟨g, i.toNat * 8 + j, none⟩ (.int .i64 k)) base ok (.slice (some ⟨g, 0, none⟩) n cap) (xs.set i.toNat y') ∧ W.grownBy (W.setCell ⟨g, i.toNat * 8 + j, none⟩ (.int .i64 k)) (some g) ∧ W.cell? ⟨g, i.toNat * 8 + j, none⟩ = some (.int .i64 q) ∧ W.frozen? ⟨g, i.toNat * 8 + j, none⟩ = false ∧ base ≤ g ∧ ok g := by
 have hn : i.toNat < xs.length := by have hn := (Kd.S_reads' h).1; rw [List.length_set] at hn; omega
 obtain ⟨go, co, eo, gb, gl, _⟩ := Kd.S_form h (by rw [List.length_set]; omega)
 cases eo
 obtain ⟨oki, c, hcl, hM, hcc, hfr, hoki, hH⟩ := Kd.S_elem h z38 i h0 h1
 have hg : (xs.set i.toNat y).getD i.toNat z38 = y := by
  rw [List.getD_eq_getElem?_getD, List.getElem?_set_self (by omega)]
  rfl
 rw [hg] at hM
 obtain ⟨v7, rfl, hR⟩ := k38_openM hM
 have hP := Kd.S_seg0 hH h0 h1 (seg := [.int .i64 k]) (j := j) hj (x' := y') (okp := oki) (by
  have e := hy v7
  rw [show j + ([.int .i64 k] : List Value).length = j + 1 from rfl, e]
  refine k38_mkM _ _ _ y' ?_
  rw [h7]
  exact hR) (fun _ hk => hk)
 rw [List.set_set] at hP
 refine ⟨hP.1, hP.2, hcc j _ (hq v7), hfr j, gb, (Kd.S_R h).1 g rfl⟩
theorem lend38_0 {W : World} {base g n cap : Nat} {ok : Nat → Prop} {xs : List S38} {i : Int} {y : S38} (h : Kd.S k38 38 W base ok (.slice (some ⟨g, 0, none⟩) n cap) (xs.set i.toNat y)) (h0 : 0 ≤ i) (h1 : i < (n : Int)) :
  ∃ (oki : Nat → Prop) (A : Option Addr) (c : Nat), W.cell? ⟨g, i.toNat * 8 + 7, none⟩ = some (.slice A y.f7.length c) ∧ (Kd.int .i64).R 3 W base oki (.slice A y.f7.length c) y.f7 ∧ Kd.H k38 38 W base ok (.slice (some ⟨g, 0, none⟩) n cap) (xs.set i.toNat y) i oki [.int .i64 y.f0, .int .i64 y.f1, .int .i64 y.f2, .int .i64 y.f3, .int .i64 y.f4, .int .i64 y.f5, .int .i64 y.f6, (.slice A y.f7.length c)] := by
 have hn : i.toNat < xs.length := by have hn := (Kd.S_reads' h).1; rw [List.length_set] at hn; omega
 obtain ⟨oki, c, hcl, hM, hcc, hoki, hH⟩ := Kd.S_lend h z38 i h0 h1
 have hg : (xs.set i.toNat y).getD i.toNat z38 = y := by
  rw [List.getD_eq_getElem?_getD, List.getElem?_set_self (by omega)]
  rfl
 rw [hg] at hM
 obtain ⟨v7, rfl, hR⟩ := k38_openM hM
 obtain ⟨A, cc, rfl⟩ := Kd.R_slice hR
 exact ⟨oki, A, cc, hcc 7 _ rfl, hR, hH⟩
theorem lend38_ {W : World} {base g n cap : Nat} {ok : Nat → Prop} {xs : List S38} {i : Int} {a0 a1 a2 a3 a4 a5 a6 : Int} {a7 : List Int} (h : Kd.S k38 38 W base ok (.slice (some ⟨g, 0, none⟩) n cap) (xs.set i.toNat (⟨a0, a1, a2, a3, a4, a5, a6, a7⟩ : S38))) (h0 : 0 ≤ i) (h1 : i < (n : Int)) :
  ∃ (oki : Nat → Prop) (A : Option Addr) (c : Nat), W.cell? ⟨g, i.toNat * 8 + 7, none⟩ = some (.slice A a7.length c) ∧ (Kd.int .i64).R 3 W base oki (.slice A a7.length c) a7 ∧ Kd.H k38 38 W base ok (.slice (some ⟨g, 0, none⟩) n cap) (xs.set i.toNat (⟨a0, a1, a2, a3, a4, a5, a6, a7⟩ : S38)) i oki [.int .i64 a0, .int .i64 a1, .int .i64 a2, .int .i64 a3, .int .i64 a4, .int .i64 a5, .int .i64 a6, .slice A a7.length c] := lend38_0 h h0 h1
theorem back38_ {W w8 : World} {base g n cap : Nat} {ok oki okp : Nat → Prop} {xs : List S38} {i : Int} {a0 a1 a2 a3 a4 a5 a6 : Int} {a7 r7 : List Int} {v : Value} (hR : (Kd.int .i64).R 3 W base oki v a7) (hH : Kd.H k38 38 W base ok (.slice (some ⟨g, 0, none⟩) n cap) (xs.set i.toNat (⟨a0, a1, a2, a3, a4, a5, a6, a7⟩ : S38)) i oki [.int .i64 a0, .int .i64 a1, .int .i64 a2, .int .i64 a3, .int .i64 a4, .int .i64 a5, .int .i64 a6, v])
  (hy : (Kd.int .i64).R 3 w8 base okp v r7) (hk : Kept W w8 (fun k_ => some k_ = v.ownBlock)) : Kd.S k38 38 w8 base ok (.slice (some ⟨g, 0, none⟩) n cap) (xs.set i.toNat (⟨a0, a1, a2, a3, a4, a5, a6, r7⟩ : S38)) ∧ (∀ k_, some k_ = v.ownBlock → ok k_) := by
 have h := Kd.H_back (Kd.H_step hH (fun k_ _ hn hlt => hk.2 k_ hlt (fun hs => hn (hR.1 k_ hs.symm)))) (k38_mkM w8 base oki (⟨a0, a1, a2, a3, a4, a5, a6, r7⟩ : S38) (Kd.R_reok rfl hy (fun k_ e_ => hR.1 k_ e_))) (fun _ hk => hk)
 rw [List.set_set] at h
 exact ⟨h, fun k_ hs => hH.1 k_ (hR.1 k_ hs.symm)⟩
theorem put38_0 {W : World} {base g n cap : Nat} {ok : Nat → Prop} {xs : List S38} {i : Int} {a0 a1 a2 a3 a4 a5 a6 : Int} {a7 : List Int} (k : Int) (h : Kd.S k38 38 W base ok (.slice (some ⟨g, 0, none⟩) n cap) (xs.set i.toNat (⟨a0, a1, a2, a3, a4, a5, a6, a7⟩ : S38))) (h0 : 0 ≤ i) (h1 : i < (n : Int)) :
  Kd.S k38 38 (W.setCell ⟨g, i.toNat * 8, none⟩ (.int .i64 k)) base ok (.slice (some ⟨g, 0, none⟩) n cap) (xs.set i.toNat (⟨k, a1, a2, a3, a4, a5, a6, a7⟩ : S38)) ∧ W.grownBy (W.setCell ⟨g, i.toNat * 8, none⟩ (.int .i64 k)) (some g) ∧ W.cell? ⟨g, i.toNat * 8, none⟩ = some (.int .i64 a0) ∧ W.frozen? ⟨g, i.toNat * 8, none⟩ = false ∧ base ≤ g ∧ ok g :=
 put38_ h h0 h1 0 k a0 (⟨k, a1, a2, a3, a4, a5, a6, a7⟩ : S38) (by decide) (fun _ => rfl) (fun _ => rfl) rfl
theorem put38_1 {W : World} {base g n cap : Nat} {ok : Nat → Prop} {xs : List S38} {i : Int} {a0 a1 a2 a3 a4 a5 a6 : Int} {a7 : List Int} (k : Int) (h : Kd.S k38 38 W base ok (.slice (some ⟨g, 0, none⟩) n cap) (xs.set i.toNat (⟨a0, a1, a2, a3, a4, a5, a6, a7⟩ : S38))) (h0 : 0 ≤ i) (h1 : i < (n : Int)) :
  Kd.S k38 38 (W.setCell ⟨g, i.toNat * 8 + 1, none⟩ (.int .i64 k)) base ok (.slice (some ⟨g, 0, none⟩) n cap) (xs.set i.toNat (⟨a0, k, a2, a3, a4, a5, a6, a7⟩ : S38)) ∧ W.grownBy (W.setCell ⟨g, i.toNat * 8 + 1, none⟩ (.int .i64 k)) (some g) ∧ W.cell? ⟨g, i.toNat * 8 + 1, none⟩ = some (.int .i64 a1) ∧ W.frozen? ⟨g, i.toNat * 8 + 1, none⟩ = false ∧ base ≤ g ∧ ok g :=
 put38_ h h0 h1 1 k a1 (⟨a0, k, a2, a3, a4, a5, a6, a7⟩ : S38) (by decide) (fun _ => rfl) (fun _ => rfl) rfl
theorem put38_2 {W : World} {base g n cap : Nat} {ok : Nat → Prop} {xs : List S38} {i : Int} {a0 a1 a2 a3 a4 a5 a6 : Int} {a7 : List Int} (k : Int) (h : Kd.S k38 38 W base ok (.slice (some ⟨g, 0, none⟩) n cap) (xs.set i.toNat (⟨a0, a1, a2, a3, a4, a5, a6, a7⟩ : S38))) (h0 : 0 ≤ i) (h1 : i < (n : Int)) :
  Kd.S k38 38 (W.setCell ⟨g, i.toNat * 8 + 2, none⟩ (.int .i64 k)) base ok (.slice (some ⟨g, 0, none⟩) n cap) (xs.set i.toNat (⟨a0, a1, k, a3, a4, a5, a6, a7⟩ : S38)) ∧ W.grownBy (W.setCell ⟨g, i.toNat * 8 + 2, none⟩ (.int .i64 k)) (some g) ∧ W.cell? ⟨g, i.toNat * 8 + 2, none⟩ = some (.int .i64 a2) ∧ W.frozen? ⟨g, i.toNat * 8 + 2, none⟩ = false ∧ base ≤ g ∧ ok g :=
 put38_ h h0 h1 2 k a2 (⟨a0, a1, k, a3, a4, a5, a6, a7⟩ : S38) (by decide) (fun _ => rfl) (fun _ => rfl) rfl
theorem put38_3 {W : World} {base g n cap : Nat} {ok : Nat → Prop} {xs : List S38} {i : Int} {a0 a1 a2 a3 a4 a5 a6 : Int} {a7 : List Int} (k : Int) (h : Kd.S k38 38 W base ok (.slice (some ⟨g, 0, none⟩) n cap) (xs.set i.toNat (⟨a0, a1, a2, a3, a4, a5, a6, a7⟩ : S38))) (h0 : 0 ≤ i) (h1 : i < (n : Int)) :
  Kd.S k38 38 (W.setCell ⟨g, i.toNat * 8 + 3, none⟩ (.int .i64 k)) base ok (.slice (some ⟨g, 0, none⟩) n cap) (xs.set i.toNat (⟨a0, a1, a2, k, a4, a5, a6, a7⟩ : S38)) ∧ W.grownBy (W.setCell ⟨g, i.toNat * 8 + 3, none⟩ (.int .i64 k)) (some g) ∧ W.cell? ⟨g, i.toNat * 8 + 3, none⟩ = some (.int .i64 a3) ∧ W.frozen? ⟨g, i.toNat * 8 + 3, none⟩ = false ∧ base ≤ g ∧ ok g :=
 put38_ h h0 h1 3 k a3 (⟨a0, a1, a2, k, a4, a5, a6, a7⟩ : S38) (by decide) (fun _ => rfl) (fun _ => rfl) rfl
theorem put38_4 {W : World} {base g n cap : Nat} {ok : Nat → Prop} {xs : List S38} {i : Int} {a0 a1 a2 a3 a4 a5 a6 : Int} {a7 : List Int} (k : Int) (h : Kd.S k38 38 W base ok (.slice (some ⟨g, 0, none⟩) n cap) (xs.set i.toNat (⟨a0, a1, a2, a3, a4, a5, a6, a7⟩ : S38))) (h0 : 0 ≤ i) (h1 : i < (n : Int)) :
  Kd.S k38 38 (W.setCell ⟨g, i.toNat * 8 + 4, none⟩ (.int .i64 k)) base ok (.slice (some ⟨g, 0, none⟩) n cap) (xs.set i.toNat (⟨a0, a1, a2, a3, k, a5, a6, a7⟩ : S38)) ∧ W.grownBy (W.setCell ⟨g, i.toNat * 8 + 4, none⟩ (.int .i64 k)) (some g) ∧ W.cell? ⟨g, i.toNat * 8 + 4, none⟩ = some (.int .i64 a4) ∧ W.frozen? ⟨g, i.toNat * 8 + 4, none⟩ = false ∧ base ≤ g ∧ ok g :=
 put38_ h h0 h1 4 k a4 (⟨a0, a1, a2, a3, k, a5, a6, a7⟩ : S38) (by decide) (fun _ => rfl) (fun _ => rfl) rfl
theorem put38_5 {W : World} {base g n cap : Nat} {ok : Nat → Prop} {xs : List S38} {i : Int} {a0 a1 a2 a3 a4 a5 a6 : Int} {a7 : List Int} (k : Int) (h : Kd.S k38 38 W base ok (.slice (some ⟨g, 0, none⟩) n cap) (xs.set i.toNat (⟨a0, a1, a2, a3, a4, a5, a6, a7⟩ : S38))) (h0 : 0 ≤ i) (h1 : i < (n : Int)) :
  Kd.S k38 38 (W.setCell ⟨g, i.toNat * 8 + 5, none⟩ (.int .i64 k)) base ok (.slice (some ⟨g, 0, none⟩) n cap) (xs.set i.toNat (⟨a0, a1, a2, a3, a4, k, a6, a7⟩ : S38)) ∧ W.grownBy (W.setCell ⟨g, i.toNat * 8 + 5, none⟩ (.int .i64 k)) (some g) ∧ W.cell? ⟨g, i.toNat * 8 + 5, none⟩ = some (.int .i64 a5) ∧ W.frozen? ⟨g, i.toNat * 8 + 5, none⟩ = false ∧ base ≤ g ∧ ok g :=
 put38_ h h0 h1 5 k a5 (⟨a0, a1, a2, a3, a4, k, a6, a7⟩ : S38) (by decide) (fun _ => rfl) (fun _ => rfl) rfl
theorem put38_6 {W : World} {base g n cap : Nat} {ok : Nat → Prop} {xs : List S38} {i : Int} {a0 a1 a2 a3 a4 a5 a6 : Int} {a7 : List Int} (k : Int) (h : Kd.S k38 38 W base ok (.slice (some ⟨g, 0, none⟩) n cap) (xs.set i.toNat (⟨a0, a1, a2, a3, a4, a5, a6, a7⟩ : S38))) (h0 : 0 ≤ i) (h1 : i < (n : Int)) :
  Kd.S k38 38 (W.setCell ⟨g, i.toNat * 8 + 6, none⟩ (.int .i64 k)) base ok (.slice (some ⟨g, 0, none⟩) n cap) (xs.set i.toNat (⟨a0, a1, a2, a3, a4, a5, k, a7⟩ : S38)) ∧ W.grownBy (W.setCell ⟨g, i.toNat * 8 + 6, none⟩ (.int .i64 k)) (some g) ∧ W.cell? ⟨g, i.toNat * 8 + 6, none⟩ = some (.int .i64 a6) ∧ W.frozen? ⟨g, i.toNat * 8 + 6, none⟩ = false ∧ base ≤ g ∧ ok g :=
 put38_ h h0 h1 6 k a6 (⟨a0, a1, a2, a3, a4, a5, k, a7⟩ : S38) (by decide) (fun _ => rfl) (fun _ => rfl) rfl
theorem store_ev2 {P : Program} {ops : Array Oper} {rest : List Oper} {o : Oper} {a : Act} {Q : Exit → Act → World → Prop} {W : World} {t : TypeId} {p : Tmp} {v : Operand} (pa : Addr) (u : Value) (hgd : o.guard = none) (ho : o.op = .store t (.tmp p) v) (hN : o.dst = none)
  (hrun : (execOp a.eval o).run P W = .ok .skip (W.setCell pa u)) (h : ∀ w', w' = W.setCell pa u → wpList P ops Q rest a w') : wpList P ops Q (o :: rest) a W := se_ hgd ho hN hrun h
theorem set_rd38 (xs : List S38) (i : Int) (h0 : 0 ≤ i) (h1 : i < (xs.length : Int)) : xs.set i.toNat (⟨(rd_T38 xs i).f0, (rd_T38 xs i).f1, (rd_T38 xs i).f2, (rd_T38 xs i).f3, (rd_T38 xs i).f4, (rd_T38 xs i).f5, (rd_T38 xs i).f6, (rd_T38 xs i).f7⟩ : S38) = xs := by
 have h2 : i.toNat < xs.length := by omega
 refine (congrArg (xs.set i.toNat) (show (⟨(rd_T38 xs i).f0, (rd_T38 xs i).f1, (rd_T38 xs i).f2, (rd_T38 xs i).f3, (rd_T38 xs i).f4, (rd_T38 xs i).f5, (rd_T38 xs i).f6, (rd_T38 xs i).f7⟩ : S38) = xs[i.toNat] from ?_)).trans (List.set_getElem_self h2)
 have : rd_T38 xs i = xs[i.toNat] := by unfold rd_T38; rw [List.getD_eq_getElem?_getD, List.getElem?_eq_getElem h2]; rfl
 rw [this]
def laws_markPacketS.l0 : Nat → List S38 → Int → Int → Option (Int × (List S38))
 | 0, _, _, _ => none
 | k + 1, x0_1, x1_1, x5_1 => if x5_1 < (x0_1.length : Int) then (if 0 ≤ x5_1 then ((laws_markIntS.f k (rd_T38 x0_1 x5_1).f7 (wrap64 ((wrap64 ((wrap64 ((wrap64 ((wrap64 ((wrap64 ((wrap64 (x1_1 + 1)) + 1)) + 1)) + 1)) + 1)) + 1)) + 1))).bind fun bt => (laws_markPacketS.l0 k (x0_1.set x5_1.toNat (⟨x1_1, (wrap64 (x1_1 + 1)), (wrap64 ((wrap64 (x1_1 + 1)) + 1)), (wrap64 ((wrap64 ((wrap64 (x1_1 + 1)) + 1)) + 1)), (wrap64 ((wrap64 ((wrap64 ((wrap64 (x1_1 + 1)) + 1)) + 1)) + 1)), (wrap64 ((wrap64 ((wrap64 ((wrap64 ((wrap64 (x1_1 + 1)) + 1)) + 1)) + 1)) + 1)), (wrap64 ((wrap64 ((wrap64 ((wrap64 ((wrap64 ((wrap64 (x1_1 + 1)) + 1)) + 1)) + 1)) + 1)) + 1)), bt.2⟩ : S38)) bt.1 (wrap64 (x5_1 + 1)))) else (none)) else (some (x1_1, x0_1))
def laws_markPacketS.f (k : Nat) (l0 : List S38) (a1 : Int) : Option (Int × (List S38)) := laws_markPacketS.l0 k l0 a1 0
set_option maxHeartbeats 8000000 in
set_option maxRecDepth 100000 in
theorem laws_markPacketS.calls (k : Nat) (P0_ : Nat → Prop) (u9000_ : Value) (l0 : List S38) (a1 : Int) (r1 : Int) (r2 : List S38) (w0 w : World) (hB : Below w0.heap.size w0 w) (ho0 : Kd.S k38 38 w w0.heap.size P0_ u9000_ l0) (h : laws_markPacketS.f k l0 a1 = some (r1, r2)) :
  Calls Try.prog 57 #[u9000_, .int .i64 a1] w fun e w' => e = .returned (.int .i64 r1) ∧ Kd.S k38 38 w' w0.heap.size P0_ u9000_ r2 ∧ Below w0.heap.size w0 w' ∧ Kept w w' P0_ := by
 have HO0 := A_.mk ho0
 have HK := A_.mk (Kept.refl w P0_)
 have HB := A_.mk hB
 clear ho0 hB
 have H : (laws_markPacketS.l0 k l0 a1 0) = some (r1, r2) := h
 clear h
 have H' := A_.mk H
 clear H
 go_enter Try.func57, Try.ntmps57
 go_wp2
 go_loopg [1, 5] k (fun kq v1 v5 w' => ∃ (x0_1 : List S38) (x1_1 : Int) (x5_1 : Int), v1 = .int .i64 x1_1 ∧ v5 = .int .i64 x5_1 ∧ A_ (laws_markPacketS.l0 kq x0_1 x1_1 x5_1 = some (r1, r2)) ∧ A_ (kq ≤ k) ∧ A_ (Kd.S k38 38 w' w0.heap.size P0_ u9000_ x0_1) ∧ A_ (Kept w w' P0_) ∧ A_ (Below w0.heap.size w0 w'))
 case atStart => exact ⟨(l0), (a1), (0), (by first | rfl | (simp; done) | (simp [*]; done)), (by first | rfl | (simp; done) | (simp [*]; done)), H', ⟨Nat.le_refl _⟩, ⟨by (with_reducible repeat (first | apply Kd.S_alloc | apply Kd.S_drewN | apply Kd.S_drew)); exact HO0.out⟩, ⟨by repeat (first | (with_reducible first | exact HK.out | apply Kept.alloc | apply Kept.drewN | apply Kept.drew) | exact HK.out)⟩, ⟨beY HB.out⟩⟩
 case round =>
  clear H' HO0 HK HB
  obtain ⟨x0_1, x1_1, x5_1, rfl, rfl, HA, HK1, HO_0, HK, HB⟩ := hrel
  cases gk with
  | zero => exact absurd HA.out (by simp [laws_markPacketS.l0])
  | succ k1 =>
   have H := HA.out
   clear HA
   simp only [laws_markPacketS.l0] at H
   by_cases c3 : x5_1 < (x0_1.length : Int)
   rotate_left
   ·rw [if_neg c3] at H
    have c3b0 : decide (x5_1 < (x0_1.length : Int)) = false := decide_eq_false c3
    clear c3
    simp only [Option.some.injEq, Prod.mk.injEq] at H
    obtain ⟨rfl, rfl⟩ := H
    obtain ⟨Ao9, co9, eo9⟩ := Kd.S_slice HO_0.out
    subst eo9
    go_wp2
    go_ret
    exact ⟨rfl, HO_0.out, HB.out, HK.out⟩
   rw [if_pos c3] at H
   have c3b0 : decide (x5_1 < (x0_1.length : Int)) = true := decide_eq_true c3
   by_cases c4 : 0 ≤ x5_1
   rotate_left
   ·rw [if_neg c4] at H
    exact absurd H (by simp)
   rw [if_pos c4] at H
   have c4b0 : decide (0 ≤ x5_1) = true := decide_eq_true c4
   obtain ⟨⟨t1, t2⟩, A50, H⟩ := ob_ H
   have A5 := A_.mk A50
   clear A50
   have H' := A_.mk H
   clear H
   obtain ⟨go5, co5, eo5, gb5, gl5, HG5⟩ := Kd.S_form HO_0.out (by omega)
   cases eo5
   clear gb5 gl5 HG5
   have n_ := A_.mk (show Kd.S k38 38 _ w0.heap.size P0_ (.slice (some ⟨go5, 0, none⟩) x0_1.length co5) (x0_1.set x5_1.toNat (⟨(rd_T38 x0_1 x5_1).f0, (rd_T38 x0_1 x5_1).f1, (rd_T38 x0_1 x5_1).f2, (rd_T38 x0_1 x5_1).f3, (rd_T38 x0_1 x5_1).f4, (rd_T38 x0_1 x5_1).f5, (rd_T38 x0_1 x5_1).f6, (rd_T38 x0_1 x5_1).f7⟩ : S38)) from by rw [set_rd38 x0_1 x5_1 c4 c3]; exact HO_0.out)
   clear HO_0
   have HO_0 := n_
   clear n_
   have p5 := eq_true c4
   have q5 := eq_true c3
   clear c3 c4
   go_wp2_with (first | ((with_reducible refine gs_ (t := 3) (p := 16) rfl ?_); have HP := put38_0 x1_1 HO_0.out (of_eq_true p5) (of_eq_true q5); have hx_ := HP.2.2.1; have hf_ := HP.2.2.2.1; refine store_ev2 (t := 3) (p := 16) (v := ?vo_16) ⟨go5, x5_1.toNat * 8, none⟩ (.int .i64 x1_1) ?hg ?ho ?hn ?hr ?_; (case ho => rfl); (case hg => rfl); (case hn => rfl); (case hr => first | (go_simp; done) | (go_simp; rfl)); intro w' hw; have n0_ := A_.mk (show Kd.S k38 38 w' w0.heap.size P0_ _ _ from (by rw [hw]; exact HP.1)); have n1_ := A_.mk (show Below w0.heap.size w0 w' from (by rw [hw]; exact bs_ HB.out HP.2.2.2.2.1)); have n2_ := A_.mk (show Kept _ w' P0_ from (by rw [hw]; exact HK.out.setCell (.inl HP.2.2.2.2.2) _)); clear HO_0 HB HK hw HP hx_ hf_; have HO_0 := n0_; have HB := n1_; have HK := n2_; clear n0_ n1_ n2_) | ((with_reducible refine gs_ (t := 3) (p := 23) rfl ?_); have HP := put38_1 (wrap64 (x1_1 + 1)) HO_0.out (of_eq_true p5) (of_eq_true q5); have hx_ := HP.2.2.1; have hf_ := HP.2.2.2.1; refine store_ev2 (t := 3) (p := 23) (v := ?vo_23) ⟨go5, x5_1.toNat * 8 + 1, none⟩ (.int .i64 (wrap64 (x1_1 + 1))) ?hg ?ho ?hn ?hr ?_; (case ho => rfl); (case hg => rfl); (case hn => rfl); (case hr => first | (go_simp; done) | (go_simp; rfl)); intro w' hw; have n0_ := A_.mk (show Kd.S k38 38 w' w0.heap.size P0_ _ _ from (by rw [hw]; exact HP.1)); have n1_ := A_.mk (show Below w0.heap.size w0 w' from (by rw [hw]; exact bs_ HB.out HP.2.2.2.2.1)); have n2_ := A_.mk (show Kept _ w' P0_ from (by rw [hw]; exact HK.out.setCell (.inl HP.2.2.2.2.2) _)); clear HO_0 HB HK hw HP hx_ hf_; have HO_0 := n0_; have HB := n1_; have HK := n2_; clear n0_ n1_ n2_) | ((with_reducible refine gs_ (t := 3) (p := 30) rfl ?_); have HP := put38_2 (wrap64 ((wrap64 (x1_1 + 1)) + 1)) HO_0.out (of_eq_true p5) (of_eq_true q5); have hx_ := HP.2.2.1; have hf_ := HP.2.2.2.1; refine store_ev2 (t := 3) (p := 30) (v := ?vo_30) ⟨go5, x5_1.toNat * 8 + 2, none⟩ (.int .i64 (wrap64 ((wrap64 (x1_1 + 1)) + 1))) ?hg ?ho ?hn ?hr ?_; (case ho => rfl); (case hg => rfl); (case hn => rfl); (case hr => first | (go_simp; done) | (go_simp; rfl)); intro w' hw; have n0_ := A_.mk (show Kd.S k38 38 w' w0.heap.size P0_ _ _ from (by rw [hw]; exact HP.1)); have n1_ := A_.mk (show Below w0.heap.size w0 w' from (by rw [hw]; exact bs_ HB.out HP.2.2.2.2.1)); have n2_ := A_.mk (show Kept _ w' P0_ from (by rw [hw]; exact HK.out.setCell (.inl HP.2.2.2.2.2) _)); clear HO_0 HB HK hw HP hx_ hf_; have HO_0 := n0_; have HB := n1_; have HK := n2_; clear n0_ n1_ n2_) | ((with_reducible refine gs_ (t := 3) (p := 37) rfl ?_); have HP := put38_3 (wrap64 ((wrap64 ((wrap64 (x1_1 + 1)) + 1)) + 1)) HO_0.out (of_eq_true p5) (of_eq_true q5); have hx_ := HP.2.2.1; have hf_ := HP.2.2.2.1; refine store_ev2 (t := 3) (p := 37) (v := ?vo_37) ⟨go5, x5_1.toNat * 8 + 3, none⟩ (.int .i64 (wrap64 ((wrap64 ((wrap64 (x1_1 + 1)) + 1)) + 1))) ?hg ?ho ?hn ?hr ?_; (case ho => rfl); (case hg => rfl); (case hn => rfl); (case hr => first | (go_simp; done) | (go_simp; rfl)); intro w' hw; have n0_ := A_.mk (show Kd.S k38 38 w' w0.heap.size P0_ _ _ from (by rw [hw]; exact HP.1)); have n1_ := A_.mk (show Below w0.heap.size w0 w' from (by rw [hw]; exact bs_ HB.out HP.2.2.2.2.1)); have n2_ := A_.mk (show Kept _ w' P0_ from (by rw [hw]; exact HK.out.setCell (.inl HP.2.2.2.2.2) _)); clear HO_0 HB HK hw HP hx_ hf_; have HO_0 := n0_; have HB := n1_; have HK := n2_; clear n0_ n1_ n2_) | ((with_reducible refine gs_ (t := 3) (p := 44) rfl ?_); have HP := put38_4 (wrap64 ((wrap64 ((wrap64 ((wrap64 (x1_1 + 1)) + 1)) + 1)) + 1)) HO_0.out (of_eq_true p5) (of_eq_true q5); have hx_ := HP.2.2.1; have hf_ := HP.2.2.2.1; refine store_ev2 (t := 3) (p := 44) (v := ?vo_44) ⟨go5, x5_1.toNat * 8 + 4, none⟩ (.int .i64 (wrap64 ((wrap64 ((wrap64 ((wrap64 (x1_1 + 1)) + 1)) + 1)) + 1))) ?hg ?ho ?hn ?hr ?_; (case ho => rfl); (case hg => rfl); (case hn => rfl); (case hr => first | (go_simp; done) | (go_simp; rfl)); intro w' hw; have n0_ := A_.mk (show Kd.S k38 38 w' w0.heap.size P0_ _ _ from (by rw [hw]; exact HP.1)); have n1_ := A_.mk (show Below w0.heap.size w0 w' from (by rw [hw]; exact bs_ HB.out HP.2.2.2.2.1)); have n2_ := A_.mk (show Kept _ w' P0_ from (by rw [hw]; exact HK.out.setCell (.inl HP.2.2.2.2.2) _)); clear HO_0 HB HK hw HP hx_ hf_; have HO_0 := n0_; have HB := n1_; have HK := n2_; clear n0_ n1_ n2_) | ((with_reducible refine gs_ (t := 3) (p := 51) rfl ?_); have HP := put38_5 (wrap64 ((wrap64 ((wrap64 ((wrap64 ((wrap64 (x1_1 + 1)) + 1)) + 1)) + 1)) + 1)) HO_0.out (of_eq_true p5) (of_eq_true q5); have hx_ := HP.2.2.1; have hf_ := HP.2.2.2.1; refine store_ev2 (t := 3) (p := 51) (v := ?vo_51) ⟨go5, x5_1.toNat * 8 + 5, none⟩ (.int .i64 (wrap64 ((wrap64 ((wrap64 ((wrap64 ((wrap64 (x1_1 + 1)) + 1)) + 1)) + 1)) + 1))) ?hg ?ho ?hn ?hr ?_; (case ho => rfl); (case hg => rfl); (case hn => rfl); (case hr => first | (go_simp; done) | (go_simp; rfl)); intro w' hw; have n0_ := A_.mk (show Kd.S k38 38 w' w0.heap.size P0_ _ _ from (by rw [hw]; exact HP.1)); have n1_ := A_.mk (show Below w0.heap.size w0 w' from (by rw [hw]; exact bs_ HB.out HP.2.2.2.2.1)); have n2_ := A_.mk (show Kept _ w' P0_ from (by rw [hw]; exact HK.out.setCell (.inl HP.2.2.2.2.2) _)); clear HO_0 HB HK hw HP hx_ hf_; have HO_0 := n0_; have HB := n1_; have HK := n2_; clear n0_ n1_ n2_) | ((with_reducible refine gs_ (t := 3) (p := 58) rfl ?_); have HP := put38_6 (wrap64 ((wrap64 ((wrap64 ((wrap64 ((wrap64 ((wrap64 (x1_1 + 1)) + 1)) + 1)) + 1)) + 1)) + 1)) HO_0.out (of_eq_true p5) (of_eq_true q5); have hx_ := HP.2.2.1; have hf_ := HP.2.2.2.1; refine store_ev2 (t := 3) (p := 58) (v := ?vo_58) ⟨go5, x5_1.toNat * 8 + 6, none⟩ (.int .i64 (wrap64 ((wrap64 ((wrap64 ((wrap64 ((wrap64 ((wrap64 (x1_1 + 1)) + 1)) + 1)) + 1)) + 1)) + 1))) ?hg ?ho ?hn ?hr ?_; (case ho => rfl); (case hg => rfl); (case hn => rfl); (case hr => first | (go_simp; done) | (go_simp; rfl)); intro w' hw; have n0_ := A_.mk (show Kd.S k38 38 w' w0.heap.size P0_ _ _ from (by rw [hw]; exact HP.1)); have n1_ := A_.mk (show Below w0.heap.size w0 w' from (by rw [hw]; exact bs_ HB.out HP.2.2.2.2.1)); have n2_ := A_.mk (show Kept _ w' P0_ from (by rw [hw]; exact HK.out.setCell (.inl HP.2.2.2.2.2) _)); clear HO_0 HB HK hw HP hx_ hf_; have HO_0 := n0_; have HB := n1_; have HK := n2_; clear n0_ n1_ n2_; obtain ⟨oki, A15, c15, hc15, hR, hH⟩ := lend38_ HO_0.out (of_eq_true p5) (of_eq_true q5); have HR := A_.mk hR; have HH := A_.mk hH; clear hR hH HO_0))
   (with_reducible refine (laws_markIntS.calls k1 (fun k_ => some k_ = (.slice A15 (rd_T38 x0_1 x5_1).f7.length c15 : Value).ownBlock) (.slice A15 (rd_T38 x0_1 x5_1).f7.length c15) (rd_T38 x0_1 x5_1).f7 (wrap64 ((wrap64 ((wrap64 ((wrap64 ((wrap64 ((wrap64 ((wrap64 (x1_1 + 1)) + 1)) + 1)) + 1)) + 1)) + 1)) + 1)) t1 t2 w0 _ HB.out (Kd.R_tight rfl HR.out) A5.out).mono ?_)
   rintro e w8 ⟨rfl, hy0, hb, hkp⟩
   obtain ⟨HO_1, hok_⟩ := back38_ HR.out HH.out hy0 hkp
   have HO_0 := A_.mk HO_1
   have HB' := A_.mk hb
   have HK' := A_.mk (HK.out.then_ hkp (fun k_ hs => .inl (hok_ k_ hs)))
   clear HB HK HR HH hy0 hb hkp hc15 HO_1 hok_
   have HB := HB'
   have HK := HK'
   clear HB' HK'
   go_wp2
   go_roundg k1
   case measure => have := HK1.out; omega
   case rel => exact ⟨_, (t1), (wrap64 (x5_1 + 1)), (by first | rfl | (simp; done) | (simp [*]; done)), (by first | rfl | (simp; done) | (simp [*]; done)), H', ⟨by have := HK1.out; omega⟩, HO_0, HK, HB⟩
/-! ### laws_markChannel: function 16, told by hand -/
def laws_markChannel.f (k : Nat) (l0_0 : List Int) (l0_1 : List Int) (l0_2 : List Int) (l0_3 : List Int) (l0_4 : List (S38)) (l0_5 : List (S38)) (a1 : Int) : Option ((Int) × (List Int) × (List Int) × (List Int) × (List Int) × (List (S38)) × (List (S38))) := ((laws_markCredits.f k l0_0 l0_1 a1).bind fun ⟨t1, t2, t3⟩ => ((laws_markCredits.f k l0_2 l0_3 t1).bind fun ⟨t4, t5, t6⟩ => ((laws_markPacketS.f k l0_4 t4).bind fun ⟨t7, t8⟩ => ((laws_markPacketS.f k l0_5 t7).bind fun ⟨t9, t10⟩ => some (t9, t2, t3, t5, t6, t8, t10)))))
set_option maxHeartbeats 8000000 in
set_option maxRecDepth 100000 in
theorem laws_markChannel.calls (k : Nat) (P0_ : Nat → Prop) (f_ : Nat → Nat) (u9000_ : Value) (l0_0 : List Int) (u9001_ : Value) (l0_1 : List Int) (u9002_ : Value) (l0_2 : List Int) (u9003_ : Value) (l0_3 : List Int) (u9004_ : Value) (l0_4 : List (S38)) (u9005_ : Value) (l0_5 : List (S38)) (a1 : Int) (r1 : Int) (r2 : List Int) (r3 : List Int) (r4 : List Int) (r5 : List Int) (r6 : List (S38)) (r7 : List (S38)) (w0 w : World) (hB : Below w0.heap.size w0 w) (ho0_0 : Kd.R (Kd.int .i64) 3 w w0.heap.size (fun k_ => P0_ k_ ∧ f_ k_ = 0) u9000_ l0_0) (ho0_1 : Kd.R (Kd.int .i64) 3 w w0.heap.size (fun k_ => P0_ k_ ∧ f_ k_ = 1) u9001_ l0_1) (ho0_2 : Kd.R (Kd.int .i64) 3 w w0.heap.size (fun k_ => P0_ k_ ∧ f_ k_ = 2) u9002_ l0_2) (ho0_3 : Kd.R (Kd.int .i64) 3 w w0.heap.size (fun k_ => P0_ k_ ∧ f_ k_ = 3) u9003_ l0_3) (ho0_4 : Kd.S k38 38 w w0.heap.size (fun k_ => P0_ k_ ∧ f_ k_ = 4) u9004_ l0_4) (ho0_5 : Kd.S k38 38 w w0.heap.size (fun k_ => P0_ k_ ∧ f_ k_ = 5) u9005_ l0_5) (h : laws_markChannel.f k l0_0 l0_1 l0_2 l0_3 l0_4 l0_5 a1 = some (r1, r2, r3, r4, r5, r6, r7)) :
  Calls Try.prog 16 #[.agg #[u9000_, u9001_, u9002_, u9003_, u9004_, u9005_], .int .i64 a1] w fun e w' => e = .returned (.int .i64 r1) ∧ Kd.R (Kd.int .i64) 3 w' w0.heap.size (fun k_ => P0_ k_ ∧ f_ k_ = 0) u9000_ r2 ∧ Kd.R (Kd.int .i64) 3 w' w0.heap.size (fun k_ => P0_ k_ ∧ f_ k_ = 1) u9001_ r3 ∧ Kd.R (Kd.int .i64) 3 w' w0.heap.size (fun k_ => P0_ k_ ∧ f_ k_ = 2) u9002_ r4 ∧ Kd.R (Kd.int .i64) 3 w' w0.heap.size (fun k_ => P0_ k_ ∧ f_ k_ = 3) u9003_ r5 ∧ Kd.S k38 38 w' w0.heap.size (fun k_ => P0_ k_ ∧ f_ k_ = 4) u9004_ r6 ∧ Kd.S k38 38 w' w0.heap.size (fun k_ => P0_ k_ ∧ f_ k_ = 5) u9005_ r7 ∧ Below w0.heap.size w0 w' ∧ Kept w w' P0_ := by
 have hu33 := Try.underlying33
 have HB := A_.mk hB
 have H : ((laws_markCredits.f k l0_0 l0_1 a1).bind fun ⟨t1, t2, t3⟩ => ((laws_markCredits.f k l0_2 l0_3 t1).bind fun ⟨t4, t5, t6⟩ => ((laws_markPacketS.f k l0_4 t4).bind fun ⟨t7, t8⟩ => ((laws_markPacketS.f k l0_5 t7).bind fun ⟨t9, t10⟩ => some (t9, t2, t3, t5, t6, t8, t10))))) = some (r1, r2, r3, r4, r5, r6, r7) := h
 clear h hB
 replace H := oa_ H
 obtain ⟨⟨t1, t2, t3⟩, A0, H⟩ := H
 replace H := oa_ H
 obtain ⟨⟨t4, t5, t6⟩, A1, H⟩ := H
 replace H := oa_ H
 obtain ⟨⟨t7, t8⟩, A2, H⟩ := H
 replace H := oa_ H
 obtain ⟨⟨t9, t10⟩, A3, H⟩ := H
 simp only [Option.some.injEq, Prod.mk.injEq] at H
 obtain ⟨rfl, rfl, rfl, rfl, rfl, rfl, rfl⟩ := H
 have HO0 := A_.mk (Kd.R_mono (ok' := (fun k_ => (P0_ k_ ∧ k_ < w.heap.size) ∧ f_ k_ = 0)) (Kd.R_bound ho0_0) (fun _ hk_ => ⟨⟨hk_.1.1, hk_.2.2.1⟩, hk_.1.2⟩))
 obtain ⟨Ao0, co0, eo_⟩ := Kd.R_slice ho0_0
 subst eo_
 clear ho0_0
 have HO1 := A_.mk (Kd.R_mono (ok' := (fun k_ => (P0_ k_ ∧ k_ < w.heap.size) ∧ f_ k_ = 1)) (Kd.R_bound ho0_1) (fun _ hk_ => ⟨⟨hk_.1.1, hk_.2.2.1⟩, hk_.1.2⟩))
 obtain ⟨Ao1, co1, eo_⟩ := Kd.R_slice ho0_1
 subst eo_
 clear ho0_1
 have HO2 := A_.mk (Kd.R_mono (ok' := (fun k_ => (P0_ k_ ∧ k_ < w.heap.size) ∧ f_ k_ = 2)) (Kd.R_bound ho0_2) (fun _ hk_ => ⟨⟨hk_.1.1, hk_.2.2.1⟩, hk_.1.2⟩))
 obtain ⟨Ao2, co2, eo_⟩ := Kd.R_slice ho0_2
 subst eo_
 clear ho0_2
 have HO3 := A_.mk (Kd.R_mono (ok' := (fun k_ => (P0_ k_ ∧ k_ < w.heap.size) ∧ f_ k_ = 3)) (Kd.R_bound ho0_3) (fun _ hk_ => ⟨⟨hk_.1.1, hk_.2.2.1⟩, hk_.1.2⟩))
 obtain ⟨Ao3, co3, eo_⟩ := Kd.R_slice ho0_3
 subst eo_
 clear ho0_3
 have HO4 := A_.mk (Kd.S_mono (ok' := (fun k_ => (P0_ k_ ∧ k_ < w.heap.size) ∧ f_ k_ = 4)) (Kd.S_bound ho0_4) (fun _ hk_ => ⟨⟨hk_.1.1, hk_.2.2.1⟩, hk_.1.2⟩))
 obtain ⟨Ao4, co4, eo_⟩ := Kd.S_slice ho0_4
 subst eo_
 clear ho0_4
 have HO5 := A_.mk (Kd.S_mono (ok' := (fun k_ => (P0_ k_ ∧ k_ < w.heap.size) ∧ f_ k_ = 5)) (Kd.S_bound ho0_5) (fun _ hk_ => ⟨⟨hk_.1.1, hk_.2.2.1⟩, hk_.1.2⟩))
 obtain ⟨Ao5, co5, eo_⟩ := Kd.S_slice ho0_5
 subst eo_
 clear ho0_5
 go_enter Try.func16, Try.ntmps16
 go_wp2_with ((with_reducible refine gd_ (N := 2) rfl ?_); refine by_ 2 (cs := #[.slice Ao0 l0_0.length co0, .slice Ao1 l0_1.length co1, .slice Ao2 l0_2.length co2, .slice Ao3 l0_3.length co3, .slice Ao4 l0_4.length co4, .slice Ao5 l0_5.length co5]) (t := 33) ?_; intro gb hg w1 hbox hb; replace HO0 := A_.mk (Kd.R_below HO0.out hb); replace HO1 := A_.mk (Kd.R_below HO1.out hb); replace HO2 := A_.mk (Kd.R_below HO2.out hb); replace HO3 := A_.mk (Kd.R_below HO3.out hb); replace HO4 := A_.mk (Kd.S_below HO4.out hb); replace HO5 := A_.mk (Kd.S_below HO5.out hb); have BK := A_.mk hbox; have GE := A_.mk hg; have HK := A_.mk (Kept.of_below hb (fun k_ => (P0_ k_ ∧ k_ < w.heap.size))); replace HB := A_.mk (bt_ HB.out hb); clear hbox hb hg; have hc0 : w1.cell? ⟨gb, 0, none⟩ = some (.slice Ao0 l0_0.length co0) := (bc_ BK.out 0).trans rfl; have hc1 : w1.cell? ⟨gb, 1, none⟩ = some (.slice Ao1 l0_1.length co1) := (bc_ BK.out 1).trans rfl; have hc2 : w1.cell? ⟨gb, 2, none⟩ = some (.slice Ao2 l0_2.length co2) := (bc_ BK.out 2).trans rfl; have hc3 : w1.cell? ⟨gb, 3, none⟩ = some (.slice Ao3 l0_3.length co3) := (bc_ BK.out 3).trans rfl; have hc4 : w1.cell? ⟨gb, 4, none⟩ = some (.slice Ao4 l0_4.length co4) := (bc_ BK.out 4).trans rfl; have hc5 : w1.cell? ⟨gb, 5, none⟩ = some (.slice Ao5 l0_5.length co5) := (bc_ BK.out 5).trans rfl)
 refine (laws_markCredits.calls k (fun k_ => (P0_ k_ ∧ k_ < w.heap.size) ∧ f_ k_ = 0) _ l0_0 (fun k_ => (P0_ k_ ∧ k_ < w.heap.size) ∧ f_ k_ = 1) _ l0_1 a1 t1 t2 t3 w0 _ HB.out HO0.out (fun k_ a_ b_ => by have := a_.2; have := b_.2; omega) HO1.out (fun k_ a_ b_ => by have := a_.2; have := b_.2; omega) A0.out).mono ?_
 rintro e w2 ⟨rfl, n0_, n1_, hb_, hk_⟩
 replace hk_ := hk_.mono (S' := fun k_ => (P0_ k_ ∧ k_ < w.heap.size) ∧ (f_ k_ = 0 ∨ f_ k_ = 1)) (fun k_ z_ => by cases z_ with | inl z_ => exact ⟨z_.1, .inl z_.2⟩ | inr z_ => exact ⟨z_.1, .inr z_.2⟩)
 replace HO0 := A_.mk (Kd.R_reok rfl n0_ (fun k_ e_ => HO0.out.1 k_ e_))
 replace HO1 := A_.mk (Kd.R_reok rfl n1_ (fun k_ e_ => HO1.out.1 k_ e_))
 replace HO2 := A_.mk (Kd.R_kept HO2.out hk_ (fun k_ a_ b_ => by have := a_.2; have := b_.2; omega))
 replace HO3 := A_.mk (Kd.R_kept HO3.out hk_ (fun k_ a_ b_ => by have := a_.2; have := b_.2; omega))
 replace HO4 := A_.mk (Kd.S_kept HO4.out hk_ (fun k_ a_ b_ => by have := a_.2; have := b_.2; omega))
 replace HO5 := A_.mk (Kd.S_kept HO5.out hk_ (fun k_ a_ b_ => by have := a_.2; have := b_.2; omega))
 replace BK := A_.mk ((hk_.2 gb (blk_lt BK.out) (fun b_ => by have := GE.out; have := b_.1.2; omega)).trans BK.out)
 replace HK := A_.mk (HK.out.then_ hk_ (fun k_ b_ => .inl b_.1))
 replace HB := A_.mk hb_
 clear hb_ hk_ n0_ n1_ hc0 hc1 hc2 hc3 hc4 hc5
 have hc0 : w2.cell? ⟨gb, 0, none⟩ = some (.slice Ao0 l0_0.length co0) := (bc_ BK.out 0).trans rfl
 have hc1 : w2.cell? ⟨gb, 1, none⟩ = some (.slice Ao1 l0_1.length co1) := (bc_ BK.out 1).trans rfl
 have hc2 : w2.cell? ⟨gb, 2, none⟩ = some (.slice Ao2 l0_2.length co2) := (bc_ BK.out 2).trans rfl
 have hc3 : w2.cell? ⟨gb, 3, none⟩ = some (.slice Ao3 l0_3.length co3) := (bc_ BK.out 3).trans rfl
 have hc4 : w2.cell? ⟨gb, 4, none⟩ = some (.slice Ao4 l0_4.length co4) := (bc_ BK.out 4).trans rfl
 have hc5 : w2.cell? ⟨gb, 5, none⟩ = some (.slice Ao5 l0_5.length co5) := (bc_ BK.out 5).trans rfl
 go_wp2_with fail
 refine (laws_markCredits.calls k (fun k_ => (P0_ k_ ∧ k_ < w.heap.size) ∧ f_ k_ = 2) _ l0_2 (fun k_ => (P0_ k_ ∧ k_ < w.heap.size) ∧ f_ k_ = 3) _ l0_3 t1 t4 t5 t6 w0 _ HB.out HO2.out (fun k_ a_ b_ => by have := a_.2; have := b_.2; omega) HO3.out (fun k_ a_ b_ => by have := a_.2; have := b_.2; omega) A1.out).mono ?_
 rintro e w3 ⟨rfl, n2_, n3_, hb_, hk_⟩
 replace hk_ := hk_.mono (S' := fun k_ => (P0_ k_ ∧ k_ < w.heap.size) ∧ (f_ k_ = 2 ∨ f_ k_ = 3)) (fun k_ z_ => by cases z_ with | inl z_ => exact ⟨z_.1, .inl z_.2⟩ | inr z_ => exact ⟨z_.1, .inr z_.2⟩)
 replace HO0 := A_.mk (Kd.R_kept HO0.out hk_ (fun k_ a_ b_ => by have := a_.2; have := b_.2; omega))
 replace HO1 := A_.mk (Kd.R_kept HO1.out hk_ (fun k_ a_ b_ => by have := a_.2; have := b_.2; omega))
 replace HO2 := A_.mk (Kd.R_reok rfl n2_ (fun k_ e_ => HO2.out.1 k_ e_))
 replace HO3 := A_.mk (Kd.R_reok rfl n3_ (fun k_ e_ => HO3.out.1 k_ e_))
 replace HO4 := A_.mk (Kd.S_kept HO4.out hk_ (fun k_ a_ b_ => by have := a_.2; have := b_.2; omega))
 replace HO5 := A_.mk (Kd.S_kept HO5.out hk_ (fun k_ a_ b_ => by have := a_.2; have := b_.2; omega))
 replace BK := A_.mk ((hk_.2 gb (blk_lt BK.out) (fun b_ => by have := GE.out; have := b_.1.2; omega)).trans BK.out)
 replace HK := A_.mk (HK.out.then_ hk_ (fun k_ b_ => .inl b_.1))
 replace HB := A_.mk hb_
 clear hb_ hk_ n2_ n3_ hc0 hc1 hc2 hc3 hc4 hc5
 have hc0 : w3.cell? ⟨gb, 0, none⟩ = some (.slice Ao0 l0_0.length co0) := (bc_ BK.out 0).trans rfl
 have hc1 : w3.cell? ⟨gb, 1, none⟩ = some (.slice Ao1 l0_1.length co1) := (bc_ BK.out 1).trans rfl
 have hc2 : w3.cell? ⟨gb, 2, none⟩ = some (.slice Ao2 l0_2.length co2) := (bc_ BK.out 2).trans rfl
 have hc3 : w3.cell? ⟨gb, 3, none⟩ = some (.slice Ao3 l0_3.length co3) := (bc_ BK.out 3).trans rfl
 have hc4 : w3.cell? ⟨gb, 4, none⟩ = some (.slice Ao4 l0_4.length co4) := (bc_ BK.out 4).trans rfl
 have hc5 : w3.cell? ⟨gb, 5, none⟩ = some (.slice Ao5 l0_5.length co5) := (bc_ BK.out 5).trans rfl
 go_wp2_with fail
 refine (laws_markPacketS.calls k (fun k_ => (P0_ k_ ∧ k_ < w.heap.size) ∧ f_ k_ = 4) _ l0_4 t4 t7 t8 w0 _ HB.out HO4.out A2.out).mono ?_
 rintro e w4 ⟨rfl, n4_, hb_, hk_⟩
 replace hk_ := hk_.mono (S' := fun k_ => (P0_ k_ ∧ k_ < w.heap.size) ∧ f_ k_ = 4) (fun _ z_ => z_)
 replace HO0 := A_.mk (Kd.R_kept HO0.out hk_ (fun k_ a_ b_ => by have := a_.2; have := b_.2; omega))
 replace HO1 := A_.mk (Kd.R_kept HO1.out hk_ (fun k_ a_ b_ => by have := a_.2; have := b_.2; omega))
 replace HO2 := A_.mk (Kd.R_kept HO2.out hk_ (fun k_ a_ b_ => by have := a_.2; have := b_.2; omega))
 replace HO3 := A_.mk (Kd.R_kept HO3.out hk_ (fun k_ a_ b_ => by have := a_.2; have := b_.2; omega))
 replace HO4 := A_.mk (n4_)
 replace HO5 := A_.mk (Kd.S_kept HO5.out hk_ (fun k_ a_ b_ => by have := a_.2; have := b_.2; omega))
 replace BK := A_.mk ((hk_.2 gb (blk_lt BK.out) (fun b_ => by have := GE.out; have := b_.1.2; omega)).trans BK.out)
 replace HK := A_.mk (HK.out.then_ hk_ (fun k_ b_ => .inl b_.1))
 replace HB := A_.mk hb_
 clear hb_ hk_ n4_ hc0 hc1 hc2 hc3 hc4 hc5
 have hc0 : w4.cell? ⟨gb, 0, none⟩ = some (.slice Ao0 l0_0.length co0) := (bc_ BK.out 0).trans rfl
 have hc1 : w4.cell? ⟨gb, 1, none⟩ = some (.slice Ao1 l0_1.length co1) := (bc_ BK.out 1).trans rfl
 have hc2 : w4.cell? ⟨gb, 2, none⟩ = some (.slice Ao2 l0_2.length co2) := (bc_ BK.out 2).trans rfl
 have hc3 : w4.cell? ⟨gb, 3, none⟩ = some (.slice Ao3 l0_3.length co3) := (bc_ BK.out 3).trans rfl
 have hc4 : w4.cell? ⟨gb, 4, none⟩ = some (.slice Ao4 l0_4.length co4) := (bc_ BK.out 4).trans rfl
 have hc5 : w4.cell? ⟨gb, 5, none⟩ = some (.slice Ao5 l0_5.length co5) := (bc_ BK.out 5).trans rfl
 go_wp2_with fail
 refine (laws_markPacketS.calls k (fun k_ => (P0_ k_ ∧ k_ < w.heap.size) ∧ f_ k_ = 5) _ l0_5 t7 t9 t10 w0 _ HB.out HO5.out A3.out).mono ?_
 rintro e w5 ⟨rfl, n5_, hb_, hk_⟩
 replace hk_ := hk_.mono (S' := fun k_ => (P0_ k_ ∧ k_ < w.heap.size) ∧ f_ k_ = 5) (fun _ z_ => z_)
 replace HO0 := A_.mk (Kd.R_kept HO0.out hk_ (fun k_ a_ b_ => by have := a_.2; have := b_.2; omega))
 replace HO1 := A_.mk (Kd.R_kept HO1.out hk_ (fun k_ a_ b_ => by have := a_.2; have := b_.2; omega))
 replace HO2 := A_.mk (Kd.R_kept HO2.out hk_ (fun k_ a_ b_ => by have := a_.2; have := b_.2; omega))
 replace HO3 := A_.mk (Kd.R_kept HO3.out hk_ (fun k_ a_ b_ => by have := a_.2; have := b_.2; omega))
 replace HO4 := A_.mk (Kd.S_kept HO4.out hk_ (fun k_ a_ b_ => by have := a_.2; have := b_.2; omega))
 replace HO5 := A_.mk (n5_)
 replace BK := A_.mk ((hk_.2 gb (blk_lt BK.out) (fun b_ => by have := GE.out; have := b_.1.2; omega)).trans BK.out)
 replace HK := A_.mk (HK.out.then_ hk_ (fun k_ b_ => .inl b_.1))
 replace HB := A_.mk hb_
 clear hb_ hk_ n5_ hc0 hc1 hc2 hc3 hc4 hc5
 have hc0 : w5.cell? ⟨gb, 0, none⟩ = some (.slice Ao0 l0_0.length co0) := (bc_ BK.out 0).trans rfl
 have hc1 : w5.cell? ⟨gb, 1, none⟩ = some (.slice Ao1 l0_1.length co1) := (bc_ BK.out 1).trans rfl
 have hc2 : w5.cell? ⟨gb, 2, none⟩ = some (.slice Ao2 l0_2.length co2) := (bc_ BK.out 2).trans rfl
 have hc3 : w5.cell? ⟨gb, 3, none⟩ = some (.slice Ao3 l0_3.length co3) := (bc_ BK.out 3).trans rfl
 have hc4 : w5.cell? ⟨gb, 4, none⟩ = some (.slice Ao4 l0_4.length co4) := (bc_ BK.out 4).trans rfl
 have hc5 : w5.cell? ⟨gb, 5, none⟩ = some (.slice Ao5 l0_5.length co5) := (bc_ BK.out 5).trans rfl
 go_wp2
 go_ret
 exact ⟨rfl, Kd.R_mono HO0.out (fun _ z_ => ⟨z_.1.1, z_.2⟩), Kd.R_mono HO1.out (fun _ z_ => ⟨z_.1.1, z_.2⟩), Kd.R_mono HO2.out (fun _ z_ => ⟨z_.1.1, z_.2⟩), Kd.R_mono HO3.out (fun _ z_ => ⟨z_.1.1, z_.2⟩), Kd.S_mono HO4.out (fun _ z_ => ⟨z_.1.1, z_.2⟩), Kd.S_mono HO5.out (fun _ z_ => ⟨z_.1.1, z_.2⟩), HB.out, HK.out.mono (fun _ z_ => z_.1)⟩
/-! ### laws_heldIntS: function 61 -/
def laws_heldIntS.l0 : Nat → List Int → Int → Int → Option (Int)
 | 0, _, _, _ => none
 | k + 1, x0, x1, x5 => if x5 < (x0.length : Int) then (if 0 ≤ x5 then (if (rd x0 x5) = x1 then (laws_heldIntS.l0 k x0 (wrap64 (x1 + 1)) (wrap64 (x5 + 1))) else (some (-1))) else (none)) else (some x1)
def laws_heldIntS.f (k : Nat) (l0 : List Int) (a1 : Int) : Option (Int) := laws_heldIntS.l0 k l0 a1 0
set_option maxHeartbeats 8000000 in
set_option maxRecDepth 100000 in
theorem laws_heldIntS.calls (k : Nat) (A0 : Option Addr) (c0 : Nat) (l0 : List Int) (a1 : Int) (r : Int) (w : World) (hr0 : Kd.C (Kd.int .i64) w A0 l0.length l0) (hc0 : l0.length ≤ c0) (h : laws_heldIntS.f k l0 a1 = some r) :
  Calls Try.prog 61 #[.slice A0 l0.length c0, .int .i64 a1] w fun e w' => e = .returned (.int .i64 r) ∧ Drawn0 w w' := by
 have HR0 := A_.mk hr0
 have HC0 := A_.mk hc0
 clear hr0 hc0
 have H : (laws_heldIntS.l0 k l0 a1 0) = some r := h
 clear h
 have H' := A_.mk H
 clear H
 go_enter Try.func61, Try.ntmps61
 go_wp2
 go_loopg [1, 5] k (fun kq v1 v5 w' => ∃ (x1_1 : Int) (x5_1 : Int), v1 = .int .i64 x1_1 ∧ v5 = .int .i64 x5_1 ∧ A_ (laws_heldIntS.l0 kq l0 x1_1 x5_1 = some r) ∧ A_ (kq ≤ k) ∧ Drawn0 w w')
 case atStart => exact ⟨(a1), (0), (by first | rfl | (simp; done) | (simp [*]; done)), (by first | rfl | (simp; done) | (simp [*]; done)), H', ⟨Nat.le_refl _⟩, by repeat (first | exact Drawn0.refl _ | apply Drawn0.step)⟩
 case round =>
  clear H'
  obtain ⟨x1_1, x5_1, rfl, rfl, HA, HK1, ⟨m1, rfl⟩⟩ := hrel
  cases gk with
  | zero => exact absurd HA.out (by simp [laws_heldIntS.l0])
  | succ k1 =>
   have H := HA.out
   clear HA
   simp only [laws_heldIntS.l0] at H
   by_cases c3 : x5_1 < (l0.length : Int)
   rotate_left
   ·rw [if_neg c3] at H
    have c3b0 : decide (x5_1 < (l0.length : Int)) = false := decide_eq_false c3
    clear c3
    obtain rfl := Option.some.inj H
    go_wp2
    go_ret
    exact ⟨by first | rfl | (simp; done) | (simp [*]; done), by repeat (first | exact Drawn0.refl _ | apply Drawn0.step)⟩
   rw [if_pos c3] at H
   have c3b0 : decide (x5_1 < (l0.length : Int)) = true := decide_eq_true c3
   clear c3
   by_cases c4 : 0 ≤ x5_1
   rotate_left
   ·rw [if_neg c4] at H
    exact absurd H (by simp)
   rw [if_pos c4] at H
   have c4b0 : decide (0 ≤ x5_1) = true := decide_eq_true c4
   clear c4
   by_cases c5 : (rd l0 x5_1) = x1_1
   rotate_left
   ·rw [if_neg c5] at H
    have c5b0 : ((rd l0 x5_1) == x1_1) = false := beq_eq_false_iff_ne.mpr c5
    have c5b1 : ((rd l0 x5_1) != x1_1) = true := bne_iff_ne.mpr c5
    obtain rfl := Option.some.inj H
    have p149 : 0 ≤ (x5_1 : Int) := od_
    have q149 : x5_1 < (l0.length : Int) := od_
    obtain ⟨ad149, e149, hx149_0⟩ := Kd.at_int HR0.out x5_1 p149 q149
    cases e149
    replace p149 := eq_true p149
    replace q149 := eq_true q149
    go_wp2
    go_ret
    exact ⟨by first | rfl | (simp; done) | (simp [*]; done), by repeat (first | exact Drawn0.refl _ | apply Drawn0.step)⟩
   rw [if_pos c5] at H
   have c5b0 : ((rd l0 x5_1) == x1_1) = true := beq_iff_eq.mpr c5
   have c5b1 : ((rd l0 x5_1) != x1_1) = false := bne_eq_false_iff_eq.mpr c5
   clear c5
   have H' := A_.mk H
   clear H
   have p149 : 0 ≤ (x5_1 : Int) := od_
   have q149 : x5_1 < (l0.length : Int) := od_
   obtain ⟨ad149, e149, hx149_0⟩ := Kd.at_int HR0.out x5_1 p149 q149
   cases e149
   replace p149 := eq_true p149
   replace q149 := eq_true q149
   go_wp2
   go_roundg k1
   case measure => have := HK1.out; omega
   case rel => exact ⟨(wrap64 (x1_1 + 1)), (wrap64 (x5_1 + 1)), (by first | rfl | (simp; done) | (simp [*]; done)), (by first | rfl | (simp; done) | (simp [*]; done)), H', ⟨by have := HK1.out; omega⟩, by repeat (first | exact Drawn0.refl _ | apply Drawn0.step)⟩
/-! ### laws_heldCredits: function 59, its calls in a row -/
def laws_heldCredits.f (k : Nat) (l0_0 : List Int) (l0_1 : List Int) (a1 : Int) : Option ((Int)) := ((laws_heldIntS.f k l0_0 a1).bind fun t1 => (if t1 < 0 then (some (-1)) else ((laws_heldIntS.f k l0_1 t1).bind fun t2 => (if t2 < 0 then (some (-1)) else (some (t2))))))
set_option maxHeartbeats 8000000 in
set_option maxRecDepth 100000 in
theorem laws_heldCredits.calls (k : Nat) (A0_0 : Option Addr) (c0_0 : Nat) (l0_0 : List Int) (A0_1 : Option Addr) (c0_1 : Nat) (l0_1 : List Int) (a1 : Int) (r : Int) (w : World) (hr0_0 : Kd.C (Kd.int .i64) w A0_0 l0_0.length l0_0) (hc0_0 : l0_0.length ≤ c0_0) (hr0_1 : Kd.C (Kd.int .i64) w A0_1 l0_1.length l0_1) (hc0_1 : l0_1.length ≤ c0_1) (h : laws_heldCredits.f k l0_0 l0_1 a1 = some r) :
  Calls Try.prog 59 #[.agg #[.slice A0_0 l0_0.length c0_0, .slice A0_1 l0_1.length c0_1], .int .i64 a1] w fun e w' => e = .returned (.int .i64 r) ∧ Below w.heap.size w w' := by
 have HR0_0 := A_.mk hr0_0
 have HC0_0 := A_.mk hc0_0
 clear hr0_0 hc0_0
 have HR0_1 := A_.mk hr0_1
 have HC0_1 := A_.mk hc0_1
 clear hr0_1 hc0_1
 have HB := A_.mk (Below.refl w.heap.size w)
 unfold laws_heldCredits.f at h
 have H := h
 clear h
 replace H := oa_ H
 obtain ⟨t1, A2, H⟩ := H
 replace H := A_.mk H
 have hu30 := Try.underlying30
 go_enter Try.func59, Try.ntmps59
 have HS := A_.mk (Nat.le_refl w.heap.size)
 go_wp2_with (first | ((with_reducible refine gd_ (N := 2) rfl ?_); refine by_ 2 (cs := #[.slice A0_0 l0_0.length c0_0, .slice A0_1 l0_1.length c0_1]) (t := 30) ?_; intro gb1_ hg w1_ hbox hb; replace HS := A_.mk (And.intro HS.out (show gb1_ = w.heap.size ∧ gb1_ < w1_.heap.size from ⟨hg, blk_lt hbox⟩)); replace HB := aHB HB hb; have BK1 := A_.mk hbox; clear hbox hb hg; have Q1 := blk2_ BK1.out))
 (with_reducible refine (laws_heldIntS.calls k _ _ l0_0 a1 t1 _ (Kd.C_below HR0_0.out HB.out) HC0_0.out A2.out).mono ?_)
 rintro e w2_ ⟨rfl, hb⟩
 replace hb := Drawn0.below hb
 replace HS := aHs HS hb.size
 replace BK1 := aBb BK1 hb
 replace HB := aHB HB hb
 clear hb  Q1
 have Q1 := blk2_ BK1.out
 replace H := H.out
 by_cases hc1_ : t1 < 0
 case pos =>
  rw [if_pos hc1_] at H
  have hc1_b0 : decide (t1 < 0) = true := decide_eq_true hc1_
  replace H := Option.some.inj H
  subst H
  go_wp2
  go_ret
  exact ⟨rfl, HB.out⟩
 rw [if_neg hc1_] at H
 have hc1_b0 : decide (t1 < 0) = false := decide_eq_false hc1_
 replace H := oa_ H
 obtain ⟨t2, A3, H⟩ := H
 replace H := A_.mk H
 go_wp2_with (fail)
 (with_reducible refine (laws_heldIntS.calls k _ _ l0_1 t1 t2 _ (Kd.C_below HR0_1.out HB.out) HC0_1.out A3.out).mono ?_)
 rintro e w3_ ⟨rfl, hb⟩
 replace hb := Drawn0.below hb
 replace HS := aHs HS hb.size
 replace BK1 := aBb BK1 hb
 replace HB := aHB HB hb
 clear hb  Q1
 have Q1 := blk2_ BK1.out
 replace H := H.out
 by_cases hc2_ : t2 < 0
 case pos =>
  rw [if_pos hc2_] at H
  have hc2_b0 : decide (t2 < 0) = true := decide_eq_true hc2_
  replace H := Option.some.inj H
  subst H
  go_wp2
  go_ret
  exact ⟨rfl, HB.out⟩
 rw [if_neg hc2_] at H
 have hc2_b0 : decide (t2 < 0) = false := decide_eq_false hc2_
 replace H := Option.some.inj H
 subst H
 go_wp2
 go_ret
 exact ⟨rfl, HB.out⟩


end Go.Proofs.Ytlombfmebinjbaa.PFnExactTellCredits
