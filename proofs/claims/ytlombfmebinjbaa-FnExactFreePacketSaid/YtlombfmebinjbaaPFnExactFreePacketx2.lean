-- Written by a program of this session (wip/xp): not trusted, Lean checks it.
import Derived.Test.YtlombfmebinjbaaPFnExactFreePacketx0
import Derived.Test.YtlombfmebinjbaaPFnExactFreePacketx1
namespace Go.Proofs.Ytlombfmebinjbaa.PFnExactFreePacket
open Go.RowKit Go.Proofs.YtlombfmebinjbaaW.PrintWords Go.Proofs.YtlombfmebinjbaaW.PrintLast Go.Proofs.YtlombfmebinjbaaW.PrintMore
attribute [local go_sem] max2_int min2_int max_two min_two max_three min_three max_four min_four   -- for this text's walks alone
set_option linter.unusedVariables false
set_option linter.unusedSimpArgs false

/-! ### laws_toPacketS: function 39 -/
def laws_toPacketS.l0 : Nat → List (S47) → List (S38) → Int → Option ((List (S38)))
 | 0, _, _, _ => none
 | k + 1, x0, x3, x4 => if x4 < (x0.length : Int) then (if 0 ≤ x4 then ((laws_toPacket.f k ((rd_T47 x0 x4).f0) ((rd_T47 x0 x4).f1) ((rd_T47 x0 x4).f2) ((rd_T47 x0 x4).f3) ((rd_T47 x0 x4).f4) ((rd_T47 x0 x4).f5) ((rd_T47 x0 x4).f6) ((rd_T47 x0 x4).f7)).bind fun bt127 => (if x4 < (x3.length : Int) then (laws_toPacketS.l0 k x0 (x3.set (x4 : Int).toNat (⟨bt127.1, bt127.2.1, bt127.2.2.1, bt127.2.2.2.1, bt127.2.2.2.2.1, bt127.2.2.2.2.2.1, bt127.2.2.2.2.2.2.1, bt127.2.2.2.2.2.2.2⟩ : S38)) (wrap64 (x4 + 1))) else (none))) else (none)) else (some x3)
def laws_toPacketS.f (k : Nat) (l0 : List (S47)) : Option ((List (S38))) := if 0 ≤ (l0.length : Int) then (if ((l0.length : Int) : Int).toNat ≤ 3518437208883 then (laws_toPacketS.l0 k l0 (List.replicate ((l0.length : Int) : Int).toNat z38) 0) else (none)) else (none)
set_option maxHeartbeats 8000000 in
set_option maxRecDepth 100000 in
theorem laws_toPacketS.calls (k : Nat) (A0 : Option Addr) (c0 : Nat) (l0 : List (S47)) (r : List (S38)) (w : World) (hr0 : Kd.C k47 w A0 l0.length l0) (hc0 : l0.length ≤ c0) (h : laws_toPacketS.f k l0 = some r) :
  Calls Try.prog 39 #[.slice A0 l0.length c0] w fun e w' => ∃ v0_ : Value, e = .returned (v0_) ∧ Kd.S k38 38 w' w.heap.size (fun _ => True) v0_ r ∧ Below w.heap.size w w' := by
 have hu47 := Try.underlying47
 have hu38 := Try.underlying38
 have HR0 := A_.mk hr0
 have HC0 := A_.mk hc0
 clear hr0 hc0
 have HB := A_.mk (Below.refl w.heap.size w)
 have H : (if 0 ≤ (l0.length : Int) then (if ((l0.length : Int) : Int).toNat ≤ 3518437208883 then (laws_toPacketS.l0 k l0 (List.replicate ((l0.length : Int) : Int).toNat z38) 0) else (none)) else (none)) = some r := h
 clear h
 by_cases c2 : 0 ≤ (l0.length : Int)
 rotate_left
 ·rw [if_neg c2] at H
  exact absurd H (by simp)
 rw [if_pos c2] at H
 have c2b0 := eq_true c2
 have c2b1 : decide (0 ≤ (l0.length : Int)) = true := decide_eq_true c2
 clear c2
 by_cases c3 : ((l0.length : Int) : Int).toNat ≤ 3518437208883
 rotate_left
 ·rw [if_neg c3] at H
  exact absurd H (by simp)
 rw [if_pos c3] at H
 have c3b0 := eq_true c3
 have c3b1 : decide (((l0.length : Int) : Int).toNat ≤ 3518437208883) = true := decide_eq_true c3
 clear c3
 obtain ⟨y123, hy123⟩ : ∃ y_ : List (S38), y_ = (List.replicate ((l0.length : Int) : Int).toNat z38) := ⟨_, rfl⟩
 replace H : (laws_toPacketS.l0 k l0 y123 0) = some r := by first | (rw [hy123]; with_reducible exact H) | (have H2_ := (Option.bind_some _ _).symm.trans H; rw [hy123]; with_reducible exact H2_) | (have H2_ := (Option.bind_some _ _).symm.trans H; with_reducible exact H2_) | with_reducible exact H | (rw [hy123]; exact H) | exact H
 have Ny123 := A_.mk hy123
 clear hy123
 have H' := A_.mk H
 clear H
 go_enter Try.func39, Try.ntmps39
 go_wp2_with (first | ((with_reducible refine gd_ (N := 7) rfl ?_); refine Kd.S_make k38 _ 38 rfl (N := 7) rfl 31 _ _ rfl (l0.length : Int) rfl rfl Try.underlying31 (.agg #[(.int .i64 0), (.int .i64 0), (.int .i64 0), (.int .i64 0), (.int .i64 0), (.int .i64 0), (.int .i64 0), (.slice none 0 0)]) 80 info38 rfl (by decide) (by omega) z38 (ok := fun _ => True) (okp := fun _ => True) (k38_mkM _ _ _ z38 (Kd.R_nil _ _ _ _ _)) (fun _ hk => hk) trivial (od_) (Nat.le_trans (Nat.mul_le_mul_right _ (od_ : (l0.length : Int).toNat ≤ 3518437208883)) (by omega)) (Below.refl _ _) (Nat.le_refl _) ?_; intro v124 w4 ho5 hb hg_ hnew_; clear hg_ hnew_; (first | rw [← Ny123.out] at ho5 | (simp only [Int.reduceToNat] at ho5; rw [← Ny123.out] at ho5)); have n0_ := A_.mk (Kd.S_lower ho5 (bz_ (beY HB.out))); have n1_ := A_.mk (bt_ (beY HB.out) hb); clear HB; have HO125 := n0_; have HB := n1_; clear n0_ n1_ hb ho5))
 go_loopg [4] k (fun kq v4 w' => ∃ (x3_1 : List (S38)) (x4_1 : Int), v4 = .int .i64 x4_1 ∧ A_ (laws_toPacketS.l0 kq l0 x3_1 x4_1 = some r) ∧ A_ (kq ≤ k) ∧ A_ (Kd.S k38 38 w' w.heap.size (fun _ => True) v124 x3_1) ∧ A_ (Below w.heap.size w w'))
 case atStart => exact ⟨(y123), (0), (by first | rfl | (simp; done) | (simp [*]; done)), H', ⟨Nat.le_refl _⟩, ⟨by (with_reducible repeat (first | apply Kd.S_alloc | apply Kd.S_drewN | apply Kd.S_drew)); exact HO125.out⟩, ⟨beY HB.out⟩⟩
 case round =>
  clear H'
  obtain ⟨x3_1, x4_1, rfl, HA, HK1, HO_3, HB⟩ := hrel
  cases gk with
  | zero => exact absurd HA.out (by simp [laws_toPacketS.l0])
  | succ k1 =>
   have H := HA.out
   clear HA
   simp only [laws_toPacketS.l0] at H
   by_cases c6 : x4_1 < (l0.length : Int)
   rotate_left
   ·rw [if_neg c6] at H
    have c6b0 : decide (x4_1 < (l0.length : Int)) = false := decide_eq_false c6
    clear c6
    obtain rfl := Option.some.inj H
    go_wp2
    go_ret
    exact ⟨_, by first | rfl | (simp [errW_none, errW_some] <;> rfl) | (simp [*, errW_none, errW_some] <;> rfl), by (with_reducible repeat (first | apply Kd.S_alloc | apply Kd.S_drewN | apply Kd.S_drew)); exact HO_3.out, beY HB.out⟩
   rw [if_pos c6] at H
   have c6b0 : decide (x4_1 < (l0.length : Int)) = true := decide_eq_true c6
   clear c6
   by_cases c7 : 0 ≤ x4_1
   rotate_left
   ·rw [if_neg c7] at H
    exact absurd H (by simp)
   rw [if_pos c7] at H
   have c7b0 : decide (0 ≤ x4_1) = true := decide_eq_true c7
   clear c7
   replace H := ob_ H
   obtain ⟨⟨t127, t128, t129, t130, t131, t132, t133, t134⟩, A80, H⟩ := H
   replace H : (if x4_1 < (x3_1.length : Int) then (laws_toPacketS.l0 k1 l0 (x3_1.set (x4_1 : Int).toNat (⟨t127, t128, t129, t130, t131, t132, t133, t134⟩ : S38)) (wrap64 (x4_1 + 1))) else (none)) = some r := H
   have A8 := A_.mk A80
   clear A80
   by_cases c9 : x4_1 < (x3_1.length : Int)
   rotate_left
   ·rw [if_neg c9] at H
    exact absurd H (by simp)
   rw [if_pos c9] at H
   have c9b0 : decide (x4_1 < (x3_1.length : Int)) = true := decide_eq_true c9
   clear c9
   obtain ⟨y137, hy137⟩ : ∃ y_ : List (S38), y_ = (x3_1.set (x4_1 : Int).toNat (⟨t127, t128, t129, t130, t131, t132, t133, t134⟩ : S38)) := ⟨_, rfl⟩
   replace H : (laws_toPacketS.l0 k1 l0 y137 (wrap64 (x4_1 + 1))) = some r := by first | (rw [hy137]; with_reducible exact H) | (have H2_ := (Option.bind_some _ _).symm.trans H; rw [hy137]; with_reducible exact H2_) | (have H2_ := (Option.bind_some _ _).symm.trans H; with_reducible exact H2_) | with_reducible exact H | (rw [hy137]; exact H) | exact H
   have Ny137 := A_.mk hy137
   clear hy137
   have H' := A_.mk H
   clear H
   have p126 : 0 ≤ (x4_1 : Int) := od_
   have q126 : x4_1 < (l0.length : Int) := od_
   obtain ⟨ad126, A126_7, c126_7, e126, hx126_0, hx126_1, hx126_2, hx126_3, hx126_4, hx126_5, hx126_6, hx126_7, hl126_7, hi126_7⟩ := at_T47 HR0.out x4_1 p126 q126
   cases e126
   replace hx126_0 := (HB.out.cell (wl_ w _ hx126_0)).trans hx126_0
   replace hx126_1 := (HB.out.cell (wl_ w _ hx126_1)).trans hx126_1
   replace hx126_2 := (HB.out.cell (wl_ w _ hx126_2)).trans hx126_2
   replace hx126_3 := (HB.out.cell (wl_ w _ hx126_3)).trans hx126_3
   replace hx126_4 := (HB.out.cell (wl_ w _ hx126_4)).trans hx126_4
   replace hx126_5 := (HB.out.cell (wl_ w _ hx126_5)).trans hx126_5
   replace hx126_6 := (HB.out.cell (wl_ w _ hx126_6)).trans hx126_6
   replace hx126_7 := (HB.out.cell (wl_ w _ hx126_7)).trans hx126_7
   have HR126_7 := A_.mk hi126_7
   have HC126_7 := A_.mk hl126_7
   clear hi126_7 hl126_7
   replace p126 := eq_true p126
   replace q126 := eq_true q126
   go_wp2_with (first | ((with_reducible refine gc_ (f := 24) rfl ?_); refine gl_ (some 20) Try.func24 #[.agg #[.int .i64 ((rd_T47 l0 x4_1).f0), .int .i64 ((rd_T47 l0 x4_1).f1), .int .i64 ((rd_T47 l0 x4_1).f2), .int .i64 ((rd_T47 l0 x4_1).f3), .int .i64 ((rd_T47 l0 x4_1).f4), .int .i64 ((rd_T47 l0 x4_1).f5), .int .i64 ((rd_T47 l0 x4_1).f6), .slice A126_7 ((rd_T47 l0 x4_1).f7).length c126_7]] ?_; (with_reducible refine (laws_toPacket.calls k1 ((rd_T47 l0 x4_1).f0) ((rd_T47 l0 x4_1).f1) ((rd_T47 l0 x4_1).f2) ((rd_T47 l0 x4_1).f3) ((rd_T47 l0 x4_1).f4) ((rd_T47 l0 x4_1).f5) ((rd_T47 l0 x4_1).f6) _ _ ((rd_T47 l0 x4_1).f7) t127 t128 t129 t130 t131 t132 t133 t134 _ ?side1 ?side2 A8.out).mono ?_); (case side1 => exact cY ((Kd.C_below HR126_7.out HB.out))); (case side2 => exact HC126_7.out); rintro e w11 ⟨v135, rfl, ho0, hb⟩; refine ⟨_, rfl, ?_⟩; have n0_ := A_.mk (Kd.S_elder' (by (with_reducible repeat (first | apply Kd.S_alloc | apply Kd.S_drewN | apply Kd.S_drew)); exact HO_3.out) (Kd.R_base ho0) hb); have n1_ := A_.mk (Kd.R_lower ho0 (bz_ (beY HB.out))); have n2_ := A_.mk (bt_ (beY HB.out) hb); clear HO_3 HB; have HO_3 := n0_; have HO136 := n1_; have HB := n2_; clear n0_ n1_ n2_; (try clear hb); (try clear hb2); (try clear hk); (try clear hi); (try clear ho0); have p10 : 0 ≤ (x4_1 : Int) := od_; have q10 : (x4_1 : Int) < ((x3_1.length : Int) : Int) := od_; obtain ⟨go10, co10, eo10, gb10, gl10, cl10, HG10⟩ := Kd.S_form HO_3.out (by omega); (first | cases eo10 | (injection eo10 with ea_ en_ ec_; (first | subst ea_ | (injection ea_ with ea_; subst ea_)); subst ec_; clear en_)); have GB10 := A_.mk gb10; have GG10 := A_.mk HG10; clear gb10 gl10 HG10; obtain ⟨_, ce10, hcl10, hM10, hcc10, hfr10, _, _⟩ := Kd.S_elem HO_3.out z38 (x4_1 : Int) p10 q10; obtain ⟨ve10_7, rfl, ge10_7⟩ := k38_openM hM10; have hx10_0 : w11.cell? ⟨go10, (x4_1 : Int).toNat * 8, none⟩ = some (.int .i64 ((rd_T38 x3_1 x4_1).f0)) := hcc10 0 _ rfl; have hx10_1 : w11.cell? ⟨go10, (x4_1 : Int).toNat * 8 + 1, none⟩ = some (.int .i64 ((rd_T38 x3_1 x4_1).f1)) := hcc10 1 _ rfl; have hx10_2 : w11.cell? ⟨go10, (x4_1 : Int).toNat * 8 + 2, none⟩ = some (.int .i64 ((rd_T38 x3_1 x4_1).f2)) := hcc10 2 _ rfl; have hx10_3 : w11.cell? ⟨go10, (x4_1 : Int).toNat * 8 + 3, none⟩ = some (.int .i64 ((rd_T38 x3_1 x4_1).f3)) := hcc10 3 _ rfl; have hx10_4 : w11.cell? ⟨go10, (x4_1 : Int).toNat * 8 + 4, none⟩ = some (.int .i64 ((rd_T38 x3_1 x4_1).f4)) := hcc10 4 _ rfl; have hx10_5 : w11.cell? ⟨go10, (x4_1 : Int).toNat * 8 + 5, none⟩ = some (.int .i64 ((rd_T38 x3_1 x4_1).f5)) := hcc10 5 _ rfl; have hx10_6 : w11.cell? ⟨go10, (x4_1 : Int).toNat * 8 + 6, none⟩ = some (.int .i64 ((rd_T38 x3_1 x4_1).f6)) := hcc10 6 _ rfl; have hx10_7 : w11.cell? ⟨go10, (x4_1 : Int).toNat * 8 + 7, none⟩ = some (ve10_7) := hcc10 7 _ rfl; have hf10_0 : w11.frozen? ⟨go10, (x4_1 : Int).toNat * 8, none⟩ = false := hfr10 0; have hf10_1 : w11.frozen? ⟨go10, (x4_1 : Int).toNat * 8 + 1, none⟩ = false := hfr10 1; have hf10_2 : w11.frozen? ⟨go10, (x4_1 : Int).toNat * 8 + 2, none⟩ = false := hfr10 2; have hf10_3 : w11.frozen? ⟨go10, (x4_1 : Int).toNat * 8 + 3, none⟩ = false := hfr10 3; have hf10_4 : w11.frozen? ⟨go10, (x4_1 : Int).toNat * 8 + 4, none⟩ = false := hfr10 4; have hf10_5 : w11.frozen? ⟨go10, (x4_1 : Int).toNat * 8 + 5, none⟩ = false := hfr10 5; have hf10_6 : w11.frozen? ⟨go10, (x4_1 : Int).toNat * 8 + 6, none⟩ = false := hfr10 6; have hf10_7 : w11.frozen? ⟨go10, (x4_1 : Int).toNat * 8 + 7, none⟩ = false := hfr10 7; clear hcl10 hcc10 hfr10; (try clear hM10); replace p10 := eq_true p10; replace q10 := eq_true q10; have n_ := A_.mk (Kd.S_mono (ok' := (fun k_ => some k_ ≠ (v135 : Value).ownBlock)) HO_3.out (fun k_ hk => hk.2)); clear HO_3; have HO_3 := n_; clear n_; have HX12 := A_.mk (show Kd.S k38 38 w11 w.heap.size (fun k_ => ((fun _ => True)) k_ ∧ ¬ ((fun k_ => some k_ = (v135 : Value).ownBlock)) k_) (.slice (some ⟨go10, 0, none⟩) x3_1.length co10) x3_1 from (by (with_reducible repeat (first | apply Kd.S_alloc | apply Kd.S_drewN | apply Kd.S_drew)); exact Kd.S_mono HO_3.out (fun k_ hk => ⟨trivial, fun e_ => hk e_⟩))); obtain ⟨oki12, ce12, hcl12, hM12, hcc12, hfr12, hoki12, hH12⟩ := Kd.S_elem HX12.out z38 (x4_1 : Int) (od_) (by have h_ : (x4_1 : Int) < ((x3_1.length : Int) : Int) := od_; first | exact h_ | (have e_ := (Kd.S_reads' HO_3.out).1; omega) | simpa using h_); obtain ⟨ve12_7, rfl, ge12_7⟩ := k38_openM hM12; have HP12 := Kd.S_seg hH12 (od_) (by have h_ : (x4_1 : Int) < ((x3_1.length : Int) : Int) := od_; first | exact h_ | (have e_ := (Kd.S_reads' HO_3.out).1; omega) | simpa using h_) (seg := [.int .i64 t127, .int .i64 t128, .int .i64 t129, .int .i64 t130, .int .i64 t131, .int .i64 t132, .int .i64 t133, v135]) (j := 0) (show 8 ≤ 8 from by decide) (x' := (⟨t127, t128, t129, t130, t131, t132, t133, t134⟩ : S38)) (k38_mkM _ _ _ (⟨t127, t128, t129, t130, t131, t132, t133, t134⟩ : S38) (Kd.R_mono (Kd.R_tight rfl (Kd.R_mono (ok' := fun k_ => ((fun _ => True)) k_ ∧ k_ ≠ go10) (Kd.R_apart' (HO136.out) (Kd.S_typed HO_3.out) (by decide)) (fun k_ hk => ⟨trivial, fun e_ => (hk.2) (by rw [e_]; rfl)⟩))) (fun _ h_ => Or.inr (h_)))) (fun _ hk => hk) (fun k_ hk_ => ((Kd.R_mono (ok' := fun k_ => ((fun _ => True)) k_ ∧ k_ ≠ go10) (Kd.R_apart' (HO136.out) (Kd.S_typed HO_3.out) (by decide)) (fun k_ hk => ⟨trivial, fun e_ => (hk.2) (by rw [e_]; rfl)⟩))).1 k_ hk_.symm); have hx12_0 := hcc12 0 _ rfl; (try simp only [show (k38).sz = 8 from rfl, Nat.mul_one, Nat.add_zero] at hx12_0); have hf12_0 := hfr12 0; (try simp only [show (k38).sz = 8 from rfl, Nat.mul_one, Nat.add_zero] at hf12_0); have hx12_1 := hcc12 1 _ rfl; (try simp only [show (k38).sz = 8 from rfl, Nat.mul_one, Nat.add_zero] at hx12_1); have hf12_1 := hfr12 1; (try simp only [show (k38).sz = 8 from rfl, Nat.mul_one, Nat.add_zero] at hf12_1); have hx12_2 := hcc12 2 _ rfl; (try simp only [show (k38).sz = 8 from rfl, Nat.mul_one, Nat.add_zero] at hx12_2); have hf12_2 := hfr12 2; (try simp only [show (k38).sz = 8 from rfl, Nat.mul_one, Nat.add_zero] at hf12_2); have hx12_3 := hcc12 3 _ rfl; (try simp only [show (k38).sz = 8 from rfl, Nat.mul_one, Nat.add_zero] at hx12_3); have hf12_3 := hfr12 3; (try simp only [show (k38).sz = 8 from rfl, Nat.mul_one, Nat.add_zero] at hf12_3); have hx12_4 := hcc12 4 _ rfl; (try simp only [show (k38).sz = 8 from rfl, Nat.mul_one, Nat.add_zero] at hx12_4); have hf12_4 := hfr12 4; (try simp only [show (k38).sz = 8 from rfl, Nat.mul_one, Nat.add_zero] at hf12_4); have hx12_5 := hcc12 5 _ rfl; (try simp only [show (k38).sz = 8 from rfl, Nat.mul_one, Nat.add_zero] at hx12_5); have hf12_5 := hfr12 5; (try simp only [show (k38).sz = 8 from rfl, Nat.mul_one, Nat.add_zero] at hf12_5); have hx12_6 := hcc12 6 _ rfl; (try simp only [show (k38).sz = 8 from rfl, Nat.mul_one, Nat.add_zero] at hx12_6); have hf12_6 := hfr12 6; (try simp only [show (k38).sz = 8 from rfl, Nat.mul_one, Nat.add_zero] at hf12_6); have hx12_7 := hcc12 7 _ rfl; (try simp only [show (k38).sz = 8 from rfl, Nat.mul_one, Nat.add_zero] at hx12_7); have hf12_7 := hfr12 7; (try simp only [show (k38).sz = 8 from rfl, Nat.mul_one, Nat.add_zero] at hf12_7); clear hcl12 hcc12 hfr12; (try clear hM12); (try clear hoki12); (try clear hH12)) | ((with_reducible refine gs_ (t := 38) (p := 21) rfl ?_); refine se_ (t := 38) (p := 21) (v := ?vo_w13) (w1 := ((((((((w11.setCell ⟨go10, (x4_1 : Int).toNat * 8, none⟩ (.int .i64 t127)).setCell ⟨go10, (x4_1 : Int).toNat * 8 + 1, none⟩ (.int .i64 t128)).setCell ⟨go10, (x4_1 : Int).toNat * 8 + 2, none⟩ (.int .i64 t129)).setCell ⟨go10, (x4_1 : Int).toNat * 8 + 3, none⟩ (.int .i64 t130)).setCell ⟨go10, (x4_1 : Int).toNat * 8 + 4, none⟩ (.int .i64 t131)).setCell ⟨go10, (x4_1 : Int).toNat * 8 + 5, none⟩ (.int .i64 t132)).setCell ⟨go10, (x4_1 : Int).toNat * 8 + 6, none⟩ (.int .i64 t133)).setCell ⟨go10, (x4_1 : Int).toNat * 8 + 7, none⟩ (v135))) ?hg ?ho ?hn ?hr ?_; (case ho => rfl); (case hg => rfl); (case hn => rfl); (case hr => first | (go_simp; done) | (go_simp; rfl) | ((obtain ⟨_, _, es_⟩ := Kd.R_slice HO136.out; subst es_); first | (go_simp; done) | (go_simp; rfl))); intro w13 hw; have hg : w11.grownBy w13 (some go10) := (by rw [hw]; exact HP12.2); have hp_ : Kd.S k38 38 w13 w.heap.size (fun _ => True) (.slice (some ⟨go10, 0, none⟩) x3_1.length co10) y137 := (by rw [hw, Ny137.out]; exact HP12.1); clear HP12; have n0_ := A_.mk (hp_); have n1_ := A_.mk ((by rw [hw]; exact bs_ (bs_ (bs_ (bs_ (bs_ (bs_ (bs_ (bs_ (HB.out) GB10.out) GB10.out) GB10.out) GB10.out) GB10.out) GB10.out) GB10.out) GB10.out : Below w.heap.size w w13)); clear HO_3 HB HO136; have HO_3 := n0_; have HB := n1_; clear n0_ n1_ hg hw hp_))
   go_roundg k1
   case measure => have := HK1.out; omega
   case rel => exact ⟨(y137), (wrap64 (x4_1 + 1)), (by first | rfl | (simp; done) | (simp [*]; done)), H', ⟨by have := HK1.out; omega⟩, ⟨by (with_reducible repeat (first | apply Kd.S_alloc | apply Kd.S_drewN | apply Kd.S_drew)); exact HO_3.out⟩, ⟨beY HB.out⟩⟩
/-! ### laws_toChannel: function 10, its calls in a row -/
def laws_toChannel.f (k : Nat) (l0_0 : List Int) (l0_1 : List Int) (l0_2 : List Int) (l0_3 : List Int) (l0_4 : List (S47)) (l0_5 : List (S47)) : Option ((List Int) × (List Int) × (List Int) × (List Int) × (List (S38)) × (List (S38))) := ((laws_toCredits.f k l0_0 l0_1).bind fun ⟨t1, t2⟩ => ((laws_toCredits.f k l0_2 l0_3).bind fun ⟨t3, t4⟩ => ((laws_toPacketS.f k l0_4).bind fun t5 => ((laws_toPacketS.f k l0_5).bind fun t6 => (some (t1, t2, t3, t4, t5, t6))))))
set_option maxHeartbeats 8000000 in
set_option maxRecDepth 100000 in
theorem laws_toChannel.calls (k : Nat) (A0_0 : Option Addr) (c0_0 : Nat) (l0_0 : List Int) (A0_1 : Option Addr) (c0_1 : Nat) (l0_1 : List Int) (A0_2 : Option Addr) (c0_2 : Nat) (l0_2 : List Int) (A0_3 : Option Addr) (c0_3 : Nat) (l0_3 : List Int) (A0_4 : Option Addr) (c0_4 : Nat) (l0_4 : List (S47)) (A0_5 : Option Addr) (c0_5 : Nat) (l0_5 : List (S47)) (r1 : List Int) (r2 : List Int) (r3 : List Int) (r4 : List Int) (r5 : List (S38)) (r6 : List (S38)) (w : World) (hr0_0 : Kd.C (Kd.int .i64) w A0_0 l0_0.length l0_0) (hc0_0 : l0_0.length ≤ c0_0) (hr0_1 : Kd.C (Kd.int .i64) w A0_1 l0_1.length l0_1) (hc0_1 : l0_1.length ≤ c0_1) (hr0_2 : Kd.C (Kd.int .i64) w A0_2 l0_2.length l0_2) (hc0_2 : l0_2.length ≤ c0_2) (hr0_3 : Kd.C (Kd.int .i64) w A0_3 l0_3.length l0_3) (hc0_3 : l0_3.length ≤ c0_3) (hr0_4 : Kd.C k47 w A0_4 l0_4.length l0_4) (hc0_4 : l0_4.length ≤ c0_4) (hr0_5 : Kd.C k47 w A0_5 l0_5.length l0_5) (hc0_5 : l0_5.length ≤ c0_5) (h : laws_toChannel.f k l0_0 l0_1 l0_2 l0_3 l0_4 l0_5 = some (r1, r2, r3, r4, r5, r6)) :
  Calls Try.prog 10 #[.agg #[.slice A0_0 l0_0.length c0_0, .slice A0_1 l0_1.length c0_1, .slice A0_2 l0_2.length c0_2, .slice A0_3 l0_3.length c0_3, .slice A0_4 l0_4.length c0_4, .slice A0_5 l0_5.length c0_5]] w fun e w' => ∃ f_ : Nat → Nat, ∃ v0_ v1_ v2_ v3_ v4_ v5_ : Value, e = .returned (.agg #[v0_, v1_, v2_, v3_, v4_, v5_]) ∧ Kd.R (Kd.int .i64) 3 w' w.heap.size (fun k_ => f_ k_ = 0) v0_ r1 ∧ Kd.R (Kd.int .i64) 3 w' w.heap.size (fun k_ => f_ k_ = 1) v1_ r2 ∧ Kd.R (Kd.int .i64) 3 w' w.heap.size (fun k_ => f_ k_ = 2) v2_ r3 ∧ Kd.R (Kd.int .i64) 3 w' w.heap.size (fun k_ => f_ k_ = 3) v3_ r4 ∧ Kd.S k38 38 w' w.heap.size (fun k_ => f_ k_ = 4) v4_ r5 ∧ Kd.S k38 38 w' w.heap.size (fun k_ => f_ k_ = 5) v5_ r6 ∧ Below w.heap.size w w' := by
 have HR0_0 := A_.mk hr0_0
 have HC0_0 := A_.mk hc0_0
 clear hr0_0 hc0_0
 have HR0_1 := A_.mk hr0_1
 have HC0_1 := A_.mk hc0_1
 clear hr0_1 hc0_1
 have HR0_2 := A_.mk hr0_2
 have HC0_2 := A_.mk hc0_2
 clear hr0_2 hc0_2
 have HR0_3 := A_.mk hr0_3
 have HC0_3 := A_.mk hc0_3
 clear hr0_3 hc0_3
 have HR0_4 := A_.mk hr0_4
 have HC0_4 := A_.mk hc0_4
 clear hr0_4 hc0_4
 have HR0_5 := A_.mk hr0_5
 have HC0_5 := A_.mk hc0_5
 clear hr0_5 hc0_5
 have HB := A_.mk (Below.refl w.heap.size w)
 unfold laws_toChannel.f at h
 have H := h
 clear h
 replace H := ob_ H
 obtain ⟨⟨t1, t2⟩, A4_0, H⟩ := H
 have A4 := A_.mk A4_0
 clear A4_0
 try dsimp only at H
 replace H := ob_ H
 obtain ⟨⟨t3, t4⟩, A6_0, H⟩ := H
 have A6 := A_.mk A6_0
 clear A6_0
 try dsimp only at H
 replace H := ob_ H
 obtain ⟨t5, A8_0, H⟩ := H
 have A8 := A_.mk A8_0
 clear A8_0
 replace H := ob_ H
 obtain ⟨t6, A10_0, H⟩ := H
 have A10 := A_.mk A10_0
 clear A10_0
 simp only [Option.some.injEq, Prod.mk.injEq] at H
 obtain ⟨rfl, rfl, rfl, rfl, rfl, rfl⟩ := H
 have hu27 := Try.underlying27
 have hu33 := Try.underlying33
 go_enter Try.func10, Try.ntmps10
 have HS := A_.mk (Nat.le_refl w.heap.size)
 go_wp2_with (first | ((with_reducible refine gd_ (N := 1) rfl ?_); refine by_ 1 (cs := #[.slice A0_0 l0_0.length c0_0, .slice A0_1 l0_1.length c0_1, .slice A0_2 l0_2.length c0_2, .slice A0_3 l0_3.length c0_3, .slice A0_4 l0_4.length c0_4, .slice A0_5 l0_5.length c0_5]) (t := 27) ?_; intro gb1_ hg w1_ hbox hb; replace HS := A_.mk (And.intro HS.out (show gb1_ = w.heap.size ∧ gb1_ < w1_.heap.size from ⟨hg, blk_lt hbox⟩)); replace HB := aHB HB hb; have BK1 := A_.mk hbox; clear hbox hb hg; obtain ⟨q1_0, q1_1, q1_2, q1_3, q1_4, q1_5⟩ := blk6_ BK1.out) | ((with_reducible refine gd_ (N := 2) rfl ?_); refine by_ 2 (cs := #[.slice none 0 0, .slice none 0 0, .slice none 0 0, .slice none 0 0, .slice none 0 0, .slice none 0 0]) (t := 33) ?_; intro gb2_ hg w2_ hbox hb; replace HS := A_.mk (And.intro HS.out (show gb2_ = w1_.heap.size ∧ gb2_ < w2_.heap.size from ⟨hg, blk_lt hbox⟩)); replace BK1 := aBb BK1 hb; replace HB := aHB HB hb; have BK2 := A_.mk hbox; clear hbox hb hg q1_0 q1_1 q1_2 q1_3 q1_4 q1_5; obtain ⟨q1_0, q1_1, q1_2, q1_3, q1_4, q1_5⟩ := blk6_ BK1.out; obtain ⟨q2_0, q2_1, q2_2, q2_3, q2_4, q2_5⟩ := blk6_ BK2.out) | ((with_reducible refine gd_ (N := 3) rfl ?_); refine by_ 3 (cs := #[.slice none 0 0, .slice none 0 0, .slice none 0 0, .slice none 0 0, .slice none 0 0, .slice none 0 0]) (t := 33) ?_; intro gb3_ hg w3_ hbox hb; replace HS := A_.mk (And.intro HS.out (show gb3_ = w2_.heap.size ∧ gb3_ < w3_.heap.size from ⟨hg, blk_lt hbox⟩)); replace BK1 := aBb BK1 hb; replace BK2 := aBb BK2 hb; replace HB := aHB HB hb; have BK3 := A_.mk hbox; clear hbox hb hg q1_0 q1_1 q1_2 q1_3 q1_4 q1_5 q2_0 q2_1 q2_2 q2_3 q2_4 q2_5; obtain ⟨q1_0, q1_1, q1_2, q1_3, q1_4, q1_5⟩ := blk6_ BK1.out; obtain ⟨q2_0, q2_1, q2_2, q2_3, q2_4, q2_5⟩ := blk6_ BK2.out; obtain ⟨q3_0, q3_1, q3_2, q3_3, q3_4, q3_5⟩ := blk6_ BK3.out) | ((with_reducible refine gc_ (f := 38) rfl ?_); refine gl_ (some 6) Try.func38 #[.agg #[.slice A0_0 l0_0.length c0_0, .slice A0_1 l0_1.length c0_1]] ?_; (with_reducible refine (laws_toCredits.calls k _ _ l0_0 _ _ l0_1 t1 t2 _ (Kd.C_below HR0_0.out HB.out) HC0_0.out (Kd.C_below HR0_1.out HB.out) HC0_1.out A4.out).mono ?_); rintro e w4_ ⟨v0_, v1_, rfl, ho0_, ho1_, hb⟩; refine ⟨_, rfl, ?_⟩; obtain ⟨f4_, hn0_, hn1_⟩ := two_col ho0_ ho1_; clear ho0_ ho1_; replace HS := aHs HS hb.size; obtain ⟨Ao4_0, co4_0, ev_⟩ := Kd.R_slice hn0_; subst ev_; have HO4_0 := aRn hn0_ HB.out.size; obtain ⟨Ao4_1, co4_1, ev_⟩ := Kd.R_slice hn1_; subst ev_; have HO4_1 := aRn hn1_ HB.out.size; replace BK1 := aBb BK1 hb; replace BK2 := aBb BK2 hb; replace BK3 := aBb BK3 hb; replace HB := aHB HB hb; clear hb hn0_ hn1_ q1_0 q1_1 q1_2 q1_3 q1_4 q1_5 q2_0 q2_1 q2_2 q2_3 q2_4 q2_5 q3_0 q3_1 q3_2 q3_3 q3_4 q3_5; obtain ⟨q1_0, q1_1, q1_2, q1_3, q1_4, q1_5⟩ := blk6_ BK1.out; obtain ⟨q2_0, q2_1, q2_2, q2_3, q2_4, q2_5⟩ := blk6_ BK2.out; obtain ⟨q3_0, q3_1, q3_2, q3_3, q3_4, q3_5⟩ := blk6_ BK3.out) | ((with_reducible refine gs_ (t := 30) (p := 7) rfl ?_); have qf0 := bf_ BK3.out 0; have qf1 := bf_ BK3.out 1; refine se_ (t := 30) (p := 7) (v := ?vo_5) (w1 := ((w4_.setCell ⟨gb3_, 0, none⟩ (.slice Ao4_0 t1.length co4_0)).setCell ⟨gb3_, 1, none⟩ (.slice Ao4_1 t2.length co4_1))) ?hg ?ho ?hn ?hr ?_; (case ho => rfl); (case hg => rfl); (case hn => rfl); (case hr => first | (go_simp; done) | (go_simp; rfl)); intro w5_ hw; clear qf0 qf1; have hge : w.heap.size ≤ gb3_ := (by have := HS.out; omega); have hkp : Kept w4_ w5_ (fun k_ => k_ = gb3_) := (by rw [hw]; exact (Kept.of_set (Kept.of_set (Kept.refl _ _) _ _) _ _)); have hbb : Below w.heap.size w w5_ := (by rw [hw]; exact (bs_ (bs_ HB.out hge) hge)); have hbx : w5_.heap[gb3_]? = some (.cells #[.slice Ao4_0 t1.length co4_0, .slice Ao4_1 t2.length co4_1, .slice none 0 0, .slice none 0 0, .slice none 0 0, .slice none 0 0] 33 (0, 0)) := (by rw [hw]; exact (bp_ (cs := #[.slice Ao4_0 t1.length co4_0, .slice none 0 0, .slice none 0 0, .slice none 0 0, .slice none 0 0, .slice none 0 0]) (bp_ (cs := #[.slice none 0 0, .slice none 0 0, .slice none 0 0, .slice none 0 0, .slice none 0 0, .slice none 0 0]) BK3.out 0 _ rfl) 1 _ rfl)); clear hw; replace HO4_0 := aRk HO4_0 hkp HS; replace HO4_1 := aRk HO4_1 hkp HS; replace BK1 := aBk BK1 hkp HS; replace BK2 := aBk BK2 hkp HS; replace BK3 := A_.mk hbx; replace HB := A_.mk hbb; replace HS := aHs HS hkp.1; clear hkp hbb hbx hge q1_0 q1_1 q1_2 q1_3 q1_4 q1_5 q2_0 q2_1 q2_2 q2_3 q2_4 q2_5 q3_0 q3_1 q3_2 q3_3 q3_4 q3_5; obtain ⟨q1_0, q1_1, q1_2, q1_3, q1_4, q1_5⟩ := blk6_ BK1.out; obtain ⟨q2_0, q2_1, q2_2, q2_3, q2_4, q2_5⟩ := blk6_ BK2.out; obtain ⟨q3_0, q3_1, q3_2, q3_3, q3_4, q3_5⟩ := blk6_ BK3.out) | ((with_reducible refine gc_ (f := 38) rfl ?_); refine gl_ (some 10) Try.func38 #[.agg #[.slice A0_2 l0_2.length c0_2, .slice A0_3 l0_3.length c0_3]] ?_; (with_reducible refine (laws_toCredits.calls k _ _ l0_2 _ _ l0_3 t3 t4 _ (Kd.C_below HR0_2.out HB.out) HC0_2.out (Kd.C_below HR0_3.out HB.out) HC0_3.out A6.out).mono ?_); rintro e w6_ ⟨v0_, v1_, rfl, ho0_, ho1_, hb⟩; refine ⟨_, rfl, ?_⟩; obtain ⟨f6_, hn0_, hn1_⟩ := two_col ho0_ ho1_; clear ho0_ ho1_; replace HS := aHs HS hb.size; obtain ⟨Ao6_0, co6_0, ev_⟩ := Kd.R_slice hn0_; subst ev_; have HO6_0 := aRn hn0_ HB.out.size; obtain ⟨Ao6_1, co6_1, ev_⟩ := Kd.R_slice hn1_; subst ev_; have HO6_1 := aRn hn1_ HB.out.size; replace HO4_0 := aRb HO4_0 hb; replace HO4_1 := aRb HO4_1 hb; replace BK1 := aBb BK1 hb; replace BK2 := aBb BK2 hb; replace BK3 := aBb BK3 hb; replace HB := aHB HB hb; clear hb hn0_ hn1_ q1_0 q1_1 q1_2 q1_3 q1_4 q1_5 q2_0 q2_1 q2_2 q2_3 q2_4 q2_5 q3_0 q3_1 q3_2 q3_3 q3_4 q3_5; obtain ⟨q1_0, q1_1, q1_2, q1_3, q1_4, q1_5⟩ := blk6_ BK1.out; obtain ⟨q2_0, q2_1, q2_2, q2_3, q2_4, q2_5⟩ := blk6_ BK2.out; obtain ⟨q3_0, q3_1, q3_2, q3_3, q3_4, q3_5⟩ := blk6_ BK3.out) | ((with_reducible refine gs_ (t := 30) (p := 11) rfl ?_); have qf0 := bf_ BK3.out 2; have qf1 := bf_ BK3.out 3; refine se_ (t := 30) (p := 11) (v := ?vo_7) (w1 := ((w6_.setCell ⟨gb3_, 2, none⟩ (.slice Ao6_0 t3.length co6_0)).setCell ⟨gb3_, 3, none⟩ (.slice Ao6_1 t4.length co6_1))) ?hg ?ho ?hn ?hr ?_; (case ho => rfl); (case hg => rfl); (case hn => rfl); (case hr => first | (go_simp; done) | (go_simp; rfl)); intro w7_ hw; clear qf0 qf1; have hge : w.heap.size ≤ gb3_ := (by have := HS.out; omega); have hkp : Kept w6_ w7_ (fun k_ => k_ = gb3_) := (by rw [hw]; exact (Kept.of_set (Kept.of_set (Kept.refl _ _) _ _) _ _)); have hbb : Below w.heap.size w w7_ := (by rw [hw]; exact (bs_ (bs_ HB.out hge) hge)); have hbx : w7_.heap[gb3_]? = some (.cells #[.slice Ao4_0 t1.length co4_0, .slice Ao4_1 t2.length co4_1, .slice Ao6_0 t3.length co6_0, .slice Ao6_1 t4.length co6_1, .slice none 0 0, .slice none 0 0] 33 (0, 0)) := (by rw [hw]; exact (bp_ (cs := #[.slice Ao4_0 t1.length co4_0, .slice Ao4_1 t2.length co4_1, .slice Ao6_0 t3.length co6_0, .slice none 0 0, .slice none 0 0, .slice none 0 0]) (bp_ (cs := #[.slice Ao4_0 t1.length co4_0, .slice Ao4_1 t2.length co4_1, .slice none 0 0, .slice none 0 0, .slice none 0 0, .slice none 0 0]) BK3.out 2 _ rfl) 3 _ rfl)); clear hw; replace HO4_0 := aRk HO4_0 hkp HS; replace HO4_1 := aRk HO4_1 hkp HS; replace HO6_0 := aRk HO6_0 hkp HS; replace HO6_1 := aRk HO6_1 hkp HS; replace BK1 := aBk BK1 hkp HS; replace BK2 := aBk BK2 hkp HS; replace BK3 := A_.mk hbx; replace HB := A_.mk hbb; replace HS := aHs HS hkp.1; clear hkp hbb hbx hge q1_0 q1_1 q1_2 q1_3 q1_4 q1_5 q2_0 q2_1 q2_2 q2_3 q2_4 q2_5 q3_0 q3_1 q3_2 q3_3 q3_4 q3_5; obtain ⟨q1_0, q1_1, q1_2, q1_3, q1_4, q1_5⟩ := blk6_ BK1.out; obtain ⟨q2_0, q2_1, q2_2, q2_3, q2_4, q2_5⟩ := blk6_ BK2.out; obtain ⟨q3_0, q3_1, q3_2, q3_3, q3_4, q3_5⟩ := blk6_ BK3.out) | ((with_reducible refine gc_ (f := 39) rfl ?_); refine gl_ (some 14) Try.func39 #[.slice A0_4 l0_4.length c0_4] ?_; (with_reducible refine (laws_toPacketS.calls k _ _ l0_4 t5 _ (Kd.C_below HR0_4.out HB.out) HC0_4.out A8.out).mono ?_); rintro e w8_ ⟨v0_, rfl, ho0_, hb⟩; refine ⟨_, rfl, ?_⟩; replace HS := aHs HS hb.size; obtain ⟨Ao8_0, co8_0, ev_⟩ := Kd.S_slice ho0_; subst ev_; have HO8_0 := aSm ho0_ HB.out.size; replace HO4_0 := aRb HO4_0 hb; replace HO4_1 := aRb HO4_1 hb; replace HO6_0 := aRb HO6_0 hb; replace HO6_1 := aRb HO6_1 hb; replace BK1 := aBb BK1 hb; replace BK2 := aBb BK2 hb; replace BK3 := aBb BK3 hb; replace HB := aHB HB hb; clear hb ho0_ q1_0 q1_1 q1_2 q1_3 q1_4 q1_5 q2_0 q2_1 q2_2 q2_3 q2_4 q2_5 q3_0 q3_1 q3_2 q3_3 q3_4 q3_5; obtain ⟨q1_0, q1_1, q1_2, q1_3, q1_4, q1_5⟩ := blk6_ BK1.out; obtain ⟨q2_0, q2_1, q2_2, q2_3, q2_4, q2_5⟩ := blk6_ BK2.out; obtain ⟨q3_0, q3_1, q3_2, q3_3, q3_4, q3_5⟩ := blk6_ BK3.out) | ((with_reducible refine gs_ (t := 31) (p := 15) rfl ?_); have qf0 := bf_ BK3.out 4; refine se_ (t := 31) (p := 15) (v := ?vo_9) (w1 := (w8_.setCell ⟨gb3_, 4, none⟩ (.slice Ao8_0 t5.length co8_0))) ?hg ?ho ?hn ?hr ?_; (case ho => rfl); (case hg => rfl); (case hn => rfl); (case hr => first | (go_simp; done) | (go_simp; rfl)); intro w9_ hw; clear qf0; have hge : w.heap.size ≤ gb3_ := (by have := HS.out; omega); have hkp : Kept w8_ w9_ (fun k_ => k_ = gb3_) := (by rw [hw]; exact (Kept.of_set (Kept.refl _ _) _ _)); have hbb : Below w.heap.size w w9_ := (by rw [hw]; exact (bs_ HB.out hge)); have hbx : w9_.heap[gb3_]? = some (.cells #[.slice Ao4_0 t1.length co4_0, .slice Ao4_1 t2.length co4_1, .slice Ao6_0 t3.length co6_0, .slice Ao6_1 t4.length co6_1, .slice Ao8_0 t5.length co8_0, .slice none 0 0] 33 (0, 0)) := (by rw [hw]; exact (bp_ (cs := #[.slice Ao4_0 t1.length co4_0, .slice Ao4_1 t2.length co4_1, .slice Ao6_0 t3.length co6_0, .slice Ao6_1 t4.length co6_1, .slice none 0 0, .slice none 0 0]) BK3.out 4 _ rfl)); clear hw; replace HO4_0 := aRk HO4_0 hkp HS; replace HO4_1 := aRk HO4_1 hkp HS; replace HO6_0 := aRk HO6_0 hkp HS; replace HO6_1 := aRk HO6_1 hkp HS; replace HO8_0 := aSk HO8_0 hkp HS; replace BK1 := aBk BK1 hkp HS; replace BK2 := aBk BK2 hkp HS; replace BK3 := A_.mk hbx; replace HB := A_.mk hbb; replace HS := aHs HS hkp.1; clear hkp hbb hbx hge q1_0 q1_1 q1_2 q1_3 q1_4 q1_5 q2_0 q2_1 q2_2 q2_3 q2_4 q2_5 q3_0 q3_1 q3_2 q3_3 q3_4 q3_5; obtain ⟨q1_0, q1_1, q1_2, q1_3, q1_4, q1_5⟩ := blk6_ BK1.out; obtain ⟨q2_0, q2_1, q2_2, q2_3, q2_4, q2_5⟩ := blk6_ BK2.out; obtain ⟨q3_0, q3_1, q3_2, q3_3, q3_4, q3_5⟩ := blk6_ BK3.out) | ((with_reducible refine gc_ (f := 39) rfl ?_); refine gl_ (some 18) Try.func39 #[.slice A0_5 l0_5.length c0_5] ?_; (with_reducible refine (laws_toPacketS.calls k _ _ l0_5 t6 _ (Kd.C_below HR0_5.out HB.out) HC0_5.out A10.out).mono ?_); rintro e w10_ ⟨v0_, rfl, ho0_, hb⟩; refine ⟨_, rfl, ?_⟩; replace HS := aHs HS hb.size; obtain ⟨Ao10_0, co10_0, ev_⟩ := Kd.S_slice ho0_; subst ev_; have HO10_0 := aSm ho0_ HB.out.size; replace HO4_0 := aRb HO4_0 hb; replace HO4_1 := aRb HO4_1 hb; replace HO6_0 := aRb HO6_0 hb; replace HO6_1 := aRb HO6_1 hb; replace HO8_0 := aSb HO8_0 hb; replace BK1 := aBb BK1 hb; replace BK2 := aBb BK2 hb; replace BK3 := aBb BK3 hb; replace HB := aHB HB hb; clear hb ho0_ q1_0 q1_1 q1_2 q1_3 q1_4 q1_5 q2_0 q2_1 q2_2 q2_3 q2_4 q2_5 q3_0 q3_1 q3_2 q3_3 q3_4 q3_5; obtain ⟨q1_0, q1_1, q1_2, q1_3, q1_4, q1_5⟩ := blk6_ BK1.out; obtain ⟨q2_0, q2_1, q2_2, q2_3, q2_4, q2_5⟩ := blk6_ BK2.out; obtain ⟨q3_0, q3_1, q3_2, q3_3, q3_4, q3_5⟩ := blk6_ BK3.out) | ((with_reducible refine gs_ (t := 31) (p := 19) rfl ?_); have qf0 := bf_ BK3.out 5; refine se_ (t := 31) (p := 19) (v := ?vo_11) (w1 := (w10_.setCell ⟨gb3_, 5, none⟩ (.slice Ao10_0 t6.length co10_0))) ?hg ?ho ?hn ?hr ?_; (case ho => rfl); (case hg => rfl); (case hn => rfl); (case hr => first | (go_simp; done) | (go_simp; rfl)); intro w11_ hw; clear qf0; have hge : w.heap.size ≤ gb3_ := (by have := HS.out; omega); have hkp : Kept w10_ w11_ (fun k_ => k_ = gb3_) := (by rw [hw]; exact (Kept.of_set (Kept.refl _ _) _ _)); have hbb : Below w.heap.size w w11_ := (by rw [hw]; exact (bs_ HB.out hge)); have hbx : w11_.heap[gb3_]? = some (.cells #[.slice Ao4_0 t1.length co4_0, .slice Ao4_1 t2.length co4_1, .slice Ao6_0 t3.length co6_0, .slice Ao6_1 t4.length co6_1, .slice Ao8_0 t5.length co8_0, .slice Ao10_0 t6.length co10_0] 33 (0, 0)) := (by rw [hw]; exact (bp_ (cs := #[.slice Ao4_0 t1.length co4_0, .slice Ao4_1 t2.length co4_1, .slice Ao6_0 t3.length co6_0, .slice Ao6_1 t4.length co6_1, .slice Ao8_0 t5.length co8_0, .slice none 0 0]) BK3.out 5 _ rfl)); clear hw; replace HO4_0 := aRk HO4_0 hkp HS; replace HO4_1 := aRk HO4_1 hkp HS; replace HO6_0 := aRk HO6_0 hkp HS; replace HO6_1 := aRk HO6_1 hkp HS; replace HO8_0 := aSk HO8_0 hkp HS; replace HO10_0 := aSk HO10_0 hkp HS; replace BK1 := aBk BK1 hkp HS; replace BK2 := aBk BK2 hkp HS; replace BK3 := A_.mk hbx; replace HB := A_.mk hbb; replace HS := aHs HS hkp.1; clear hkp hbb hbx hge q1_0 q1_1 q1_2 q1_3 q1_4 q1_5 q2_0 q2_1 q2_2 q2_3 q2_4 q2_5 q3_0 q3_1 q3_2 q3_3 q3_4 q3_5; obtain ⟨q1_0, q1_1, q1_2, q1_3, q1_4, q1_5⟩ := blk6_ BK1.out; obtain ⟨q2_0, q2_1, q2_2, q2_3, q2_4, q2_5⟩ := blk6_ BK2.out; obtain ⟨q3_0, q3_1, q3_2, q3_3, q3_4, q3_5⟩ := blk6_ BK3.out) | ((with_reducible refine gs_ (t := 33) (p := 2) rfl ?_); have qf0 := bf_ BK2.out 0; have qf1 := bf_ BK2.out 1; have qf2 := bf_ BK2.out 2; have qf3 := bf_ BK2.out 3; have qf4 := bf_ BK2.out 4; have qf5 := bf_ BK2.out 5; refine se_ (t := 33) (p := 2) (v := ?vo_12) (w1 := (ch6_ w11_ gb2_ (.slice Ao4_0 t1.length co4_0) (.slice Ao4_1 t2.length co4_1) (.slice Ao6_0 t3.length co6_0) (.slice Ao6_1 t4.length co6_1) (.slice Ao8_0 t5.length co8_0) (.slice Ao10_0 t6.length co10_0))) ?hg ?ho ?hn ?hr ?_; (case ho => rfl); (case hg => rfl); (case hn => rfl); (case hr => first | (go_simp; done) | (go_simp; rfl)); intro w12_ hw; clear qf0 qf1 qf2 qf3 qf4 qf5; obtain ⟨hbx, hkp, hbb⟩ := st6_ hw BK2 HB (by have := HS.out; omega); clear hw; replace HO4_0 := aRk HO4_0 hkp HS; replace HO4_1 := aRk HO4_1 hkp HS; replace HO6_0 := aRk HO6_0 hkp HS; replace HO6_1 := aRk HO6_1 hkp HS; replace HO8_0 := aSk HO8_0 hkp HS; replace HO10_0 := aSk HO10_0 hkp HS; replace BK1 := aBk BK1 hkp HS; replace BK3 := aBk BK3 hkp HS; replace BK2 := A_.mk hbx; replace HB := A_.mk hbb; replace HS := aHs HS hkp.1; clear hkp hbb hbx q1_0 q1_1 q1_2 q1_3 q1_4 q1_5 q2_0 q2_1 q2_2 q2_3 q2_4 q2_5 q3_0 q3_1 q3_2 q3_3 q3_4 q3_5; obtain ⟨q1_0, q1_1, q1_2, q1_3, q1_4, q1_5⟩ := blk6_ BK1.out; obtain ⟨q2_0, q2_1, q2_2, q2_3, q2_4, q2_5⟩ := blk6_ BK2.out; obtain ⟨q3_0, q3_1, q3_2, q3_3, q3_4, q3_5⟩ := blk6_ BK3.out))
 refine bodyPost_ret (results_cell_row rfl _ _ gb2_ 33 #[.slice Ao4_0 t1.length co4_0, .slice Ao4_1 t2.length co4_1, .slice Ao6_0 t3.length co6_0, .slice Ao6_1 t4.length co6_1, .slice Ao8_0 t5.length co8_0, .slice Ao10_0 t6.length co10_0] (0, 0) _ rfl BK2.out Try.underlying33 rfl (by kernel_rfl)) rfl ?_
 obtain ⟨f_, hf_⟩ : ∃ f_ : Nat → Nat, ∀ k_, f_ k_ = (if ((w3_.heap.size ≤ k_ ∧ k_ < w4_.heap.size) ∧ f4_ k_ = 0) then 0 else (if ((w3_.heap.size ≤ k_ ∧ k_ < w4_.heap.size) ∧ f4_ k_ = 1) then 1 else (if ((w5_.heap.size ≤ k_ ∧ k_ < w6_.heap.size) ∧ f6_ k_ = 0) then 2 else (if ((w5_.heap.size ≤ k_ ∧ k_ < w6_.heap.size) ∧ f6_ k_ = 1) then 3 else (if ((w7_.heap.size ≤ k_ ∧ k_ < w8_.heap.size)) then 4 else (if ((w9_.heap.size ≤ k_ ∧ k_ < w10_.heap.size)) then 5 else 0)))))) := ⟨fun k_ => (if ((w3_.heap.size ≤ k_ ∧ k_ < w4_.heap.size) ∧ f4_ k_ = 0) then 0 else (if ((w3_.heap.size ≤ k_ ∧ k_ < w4_.heap.size) ∧ f4_ k_ = 1) then 1 else (if ((w5_.heap.size ≤ k_ ∧ k_ < w6_.heap.size) ∧ f6_ k_ = 0) then 2 else (if ((w5_.heap.size ≤ k_ ∧ k_ < w6_.heap.size) ∧ f6_ k_ = 1) then 3 else (if ((w7_.heap.size ≤ k_ ∧ k_ < w8_.heap.size)) then 4 else (if ((w9_.heap.size ≤ k_ ∧ k_ < w10_.heap.size)) then 5 else 0)))))), fun _ => rfl⟩
 have hcol0_ : ∀ k_, (((w3_.heap.size ≤ k_ ∧ k_ < w4_.heap.size) ∧ f4_ k_ = 0)) → f_ k_ = 0 := fun k_ hk_ => by rw [hf_]; have := HS.out; repeat' (first | omega | split)
 have hcol1_ : ∀ k_, (((w3_.heap.size ≤ k_ ∧ k_ < w4_.heap.size) ∧ f4_ k_ = 1)) → f_ k_ = 1 := fun k_ hk_ => by rw [hf_]; have := HS.out; repeat' (first | omega | split)
 have hcol2_ : ∀ k_, (((w5_.heap.size ≤ k_ ∧ k_ < w6_.heap.size) ∧ f6_ k_ = 0)) → f_ k_ = 2 := fun k_ hk_ => by rw [hf_]; have := HS.out; repeat' (first | omega | split)
 have hcol3_ : ∀ k_, (((w5_.heap.size ≤ k_ ∧ k_ < w6_.heap.size) ∧ f6_ k_ = 1)) → f_ k_ = 3 := fun k_ hk_ => by rw [hf_]; have := HS.out; repeat' (first | omega | split)
 have hcol4_ : ∀ k_, (((w7_.heap.size ≤ k_ ∧ k_ < w8_.heap.size))) → f_ k_ = 4 := fun k_ hk_ => by rw [hf_]; have := HS.out; repeat' (first | omega | split)
 have hcol5_ : ∀ k_, (((w9_.heap.size ≤ k_ ∧ k_ < w10_.heap.size))) → f_ k_ = 5 := fun k_ hk_ => by rw [hf_]; have := HS.out; repeat' (first | omega | split)
 exact ⟨f_, _, _, _, _, _, _, rfl, Kd.R_mono HO4_0.out hcol0_, Kd.R_mono HO4_1.out hcol1_, Kd.R_mono HO6_0.out hcol2_, Kd.R_mono HO6_1.out hcol3_, Kd.S_mono HO8_0.out hcol4_, Kd.S_mono HO10_0.out hcol5_, HB.out⟩
/-! ### laws_eqIntS: function 55 -/
def laws_eqIntS.l0 : Nat → List Int → List Int → Int → Option (Bool)
 | 0, _, _, _ => none
 | k + 1, x0, x1, x5 => if x5 < (x0.length : Int) then (if 0 ≤ x5 then (if x5 < (x1.length : Int) then (if (rd x0 x5) = (rd x1 x5) then (laws_eqIntS.l0 k x0 x1 (wrap64 (x5 + 1))) else (some false)) else (none)) else (none)) else (some true)
def laws_eqIntS.f (k : Nat) (l0 : List Int) (l1 : List Int) : Option (Bool) := if (l0.length : Int) = (l1.length : Int) then (laws_eqIntS.l0 k l0 l1 0) else (some false)
set_option maxHeartbeats 8000000 in
set_option maxRecDepth 100000 in
theorem laws_eqIntS.calls (k : Nat) (A0 : Option Addr) (c0 : Nat) (l0 : List Int) (A1 : Option Addr) (c1 : Nat) (l1 : List Int) (r : Bool) (w : World) (hr0 : Kd.C (Kd.int .i64) w A0 l0.length l0) (hc0 : l0.length ≤ c0) (hr1 : Kd.C (Kd.int .i64) w A1 l1.length l1) (hc1 : l1.length ≤ c1) (h : laws_eqIntS.f k l0 l1 = some r) :
  Calls Try.prog 55 #[.slice A0 l0.length c0, .slice A1 l1.length c1] w fun e w' => e = .returned (.bool r) ∧ Drawn0 w w' := by
 have HR0 := A_.mk hr0
 have HC0 := A_.mk hc0
 clear hr0 hc0
 have HR1 := A_.mk hr1
 have HC1 := A_.mk hc1
 clear hr1 hc1
 have H : (if (l0.length : Int) = (l1.length : Int) then (laws_eqIntS.l0 k l0 l1 0) else (some false)) = some r := h
 clear h
 by_cases c3 : (l0.length : Int) = (l1.length : Int)
 rotate_left
 ·rw [if_neg c3] at H
  have c3b0 : ((l0.length : Int) == (l1.length : Int)) = false := beq_eq_false_iff_ne.mpr c3
  have c3b1 : ((l0.length : Int) != (l1.length : Int)) = true := bne_iff_ne.mpr c3
  have c3b2 : (l0.length == l1.length) = false := by first | simpa using c3 | (simp at c3 ⊢; omega)
  obtain rfl := Option.some.inj H
  go_enter Try.func55, Try.ntmps55
  go_wp2
  repeat (go_quiet (fail); try go_wp2)
  go_ret
  exact ⟨by first | rfl | (simp; done) | (simp [*]; done), by repeat (first | exact Drawn0.refl _ | apply Drawn0.step)⟩
 rw [if_pos c3] at H
 have c3b0 : ((l0.length : Int) == (l1.length : Int)) = true := beq_iff_eq.mpr c3
 have c3b1 : ((l0.length : Int) != (l1.length : Int)) = false := bne_eq_false_iff_eq.mpr c3
 have c3b2 : (l0.length == l1.length) = true := by first | simpa using c3 | (simp at c3 ⊢; omega)
 clear c3
 have H' := A_.mk H
 clear H
 go_enter Try.func55, Try.ntmps55
 go_wp2
 repeat (go_quiet (fail); try go_wp2)
 go_loopg [5] k (fun kq v5 w' => ∃ (x5_1 : Int), v5 = .int .i64 x5_1 ∧ A_ (laws_eqIntS.l0 kq l0 l1 x5_1 = some r) ∧ A_ (kq ≤ k) ∧ Drawn0 w w')
 case atStart => exact ⟨(0), (by first | rfl | (simp; done) | (simp [*]; done)), H', ⟨Nat.le_refl _⟩, by repeat (first | exact Drawn0.refl _ | apply Drawn0.step)⟩
 case round =>
  clear H'
  obtain ⟨x5_1, rfl, HA, HK1, ⟨m1, rfl⟩⟩ := hrel
  cases gk with
  | zero => exact absurd HA.out (by simp [laws_eqIntS.l0])
  | succ k1 =>
   have H := HA.out
   clear HA
   simp only [laws_eqIntS.l0] at H
   by_cases c4 : x5_1 < (l0.length : Int)
   rotate_left
   ·rw [if_neg c4] at H
    have c4b0 : decide (x5_1 < (l0.length : Int)) = false := decide_eq_false c4
    clear c4
    obtain rfl := Option.some.inj H
    go_wp2
    repeat (go_quiet (fail); try go_wp2)
    go_ret
    exact ⟨by first | rfl | (simp; done) | (simp [*]; done), by repeat (first | exact Drawn0.refl _ | apply Drawn0.step)⟩
   rw [if_pos c4] at H
   have c4b0 : decide (x5_1 < (l0.length : Int)) = true := decide_eq_true c4
   clear c4
   by_cases c5 : 0 ≤ x5_1
   rotate_left
   ·rw [if_neg c5] at H
    exact absurd H (by simp)
   rw [if_pos c5] at H
   have c5b0 : decide (0 ≤ x5_1) = true := decide_eq_true c5
   clear c5
   by_cases c6 : x5_1 < (l1.length : Int)
   rotate_left
   ·rw [if_neg c6] at H
    exact absurd H (by simp)
   rw [if_pos c6] at H
   have c6b0 : decide (x5_1 < (l1.length : Int)) = true := decide_eq_true c6
   clear c6
   by_cases c7 : (rd l0 x5_1) = (rd l1 x5_1)
   rotate_left
   ·rw [if_neg c7] at H
    have c7b0 : ((rd l0 x5_1) == (rd l1 x5_1)) = false := beq_eq_false_iff_ne.mpr c7
    have c7b1 : ((rd l0 x5_1) != (rd l1 x5_1)) = true := bne_iff_ne.mpr c7
    obtain rfl := Option.some.inj H
    have p138 : 0 ≤ (x5_1 : Int) := od_
    have q138 : x5_1 < (l0.length : Int) := od_
    obtain ⟨ad138, e138, hx138_0⟩ := Kd.at_int HR0.out x5_1 p138 q138
    cases e138
    replace p138 := eq_true p138
    replace q138 := eq_true q138
    have p139 : 0 ≤ (x5_1 : Int) := od_
    have q139 : x5_1 < (l1.length : Int) := od_
    obtain ⟨ad139, e139, hx139_0⟩ := Kd.at_int HR1.out x5_1 p139 q139
    cases e139
    replace p139 := eq_true p139
    replace q139 := eq_true q139
    go_wp2
    repeat (go_quiet (fail); try go_wp2)
    go_ret
    exact ⟨by first | rfl | (simp; done) | (simp [*]; done), by repeat (first | exact Drawn0.refl _ | apply Drawn0.step)⟩
   rw [if_pos c7] at H
   have c7b0 : ((rd l0 x5_1) == (rd l1 x5_1)) = true := beq_iff_eq.mpr c7
   have c7b1 : ((rd l0 x5_1) != (rd l1 x5_1)) = false := bne_eq_false_iff_eq.mpr c7
   clear c7
   have H' := A_.mk H
   clear H
   have p138 : 0 ≤ (x5_1 : Int) := od_
   have q138 : x5_1 < (l0.length : Int) := od_
   obtain ⟨ad138, e138, hx138_0⟩ := Kd.at_int HR0.out x5_1 p138 q138
   cases e138
   replace p138 := eq_true p138
   replace q138 := eq_true q138
   have p139 : 0 ≤ (x5_1 : Int) := od_
   have q139 : x5_1 < (l1.length : Int) := od_
   obtain ⟨ad139, e139, hx139_0⟩ := Kd.at_int HR1.out x5_1 p139 q139
   cases e139
   replace p139 := eq_true p139
   replace q139 := eq_true q139
   go_wp2
   repeat (go_quiet (fail); try go_wp2)
   go_roundg k1
   case measure => have := HK1.out; omega
   case rel => exact ⟨(wrap64 (x5_1 + 1)), (by first | rfl | (simp; done) | (simp [*]; done)), H', ⟨by have := HK1.out; omega⟩, by repeat (first | exact Drawn0.refl _ | apply Drawn0.step)⟩
/-! ### laws_eqCredits: function 46, its calls in a row -/
def laws_eqCredits.f (k : Nat) (l0_0 : List Int) (l0_1 : List Int) (l1_0 : List Int) (l1_1 : List Int) : Option ((Bool)) := ((laws_eqIntS.f k l0_0 l1_0).bind fun t1 => (if t1 = true then ((laws_eqIntS.f k l0_1 l1_1).bind fun t2 => (if t2 = true then (some (true)) else (some (false)))) else (some (false))))
set_option maxHeartbeats 8000000 in
set_option maxRecDepth 100000 in
theorem laws_eqCredits.calls (k : Nat) (A0_0 : Option Addr) (c0_0 : Nat) (l0_0 : List Int) (A0_1 : Option Addr) (c0_1 : Nat) (l0_1 : List Int) (A1_0 : Option Addr) (c1_0 : Nat) (l1_0 : List Int) (A1_1 : Option Addr) (c1_1 : Nat) (l1_1 : List Int) (r : Bool) (w : World) (hr0_0 : Kd.C (Kd.int .i64) w A0_0 l0_0.length l0_0) (hc0_0 : l0_0.length ≤ c0_0) (hr0_1 : Kd.C (Kd.int .i64) w A0_1 l0_1.length l0_1) (hc0_1 : l0_1.length ≤ c0_1) (hr1_0 : Kd.C (Kd.int .i64) w A1_0 l1_0.length l1_0) (hc1_0 : l1_0.length ≤ c1_0) (hr1_1 : Kd.C (Kd.int .i64) w A1_1 l1_1.length l1_1) (hc1_1 : l1_1.length ≤ c1_1) (h : laws_eqCredits.f k l0_0 l0_1 l1_0 l1_1 = some r) :
  Calls Try.prog 46 #[.agg #[.slice A0_0 l0_0.length c0_0, .slice A0_1 l0_1.length c0_1], .agg #[.slice A1_0 l1_0.length c1_0, .slice A1_1 l1_1.length c1_1]] w fun e w' => e = .returned (.bool r) ∧ Below w.heap.size w w' := by
 have HR0_0 := A_.mk hr0_0
 have HC0_0 := A_.mk hc0_0
 clear hr0_0 hc0_0
 have HR0_1 := A_.mk hr0_1
 have HC0_1 := A_.mk hc0_1
 clear hr0_1 hc0_1
 have HR1_0 := A_.mk hr1_0
 have HC1_0 := A_.mk hc1_0
 clear hr1_0 hc1_0
 have HR1_1 := A_.mk hr1_1
 have HC1_1 := A_.mk hc1_1
 clear hr1_1 hc1_1
 have HB := A_.mk (Below.refl w.heap.size w)
 unfold laws_eqCredits.f at h
 have H := h
 clear h
 replace H := ob_ H
 obtain ⟨t1, A3_0, H⟩ := H
 have A3 := A_.mk A3_0
 clear A3_0
 replace H := A_.mk H
 have hu30 := Try.underlying30
 go_enter Try.func46, Try.ntmps46
 have HS := A_.mk (Nat.le_refl w.heap.size)
 go_wp2_with (first | ((with_reducible refine gd_ (N := 2) rfl ?_); refine by_ 2 (cs := #[.slice A0_0 l0_0.length c0_0, .slice A0_1 l0_1.length c0_1]) (t := 30) ?_; intro gb1_ hg w1_ hbox hb; replace HS := A_.mk (And.intro HS.out (show gb1_ = w.heap.size ∧ gb1_ < w1_.heap.size from ⟨hg, blk_lt hbox⟩)); replace HB := aHB HB hb; have BK1 := A_.mk hbox; clear hbox hb hg; obtain ⟨q1_0, q1_1⟩ := blk2_ BK1.out) | ((with_reducible refine gd_ (N := 3) rfl ?_); refine by_ 3 (cs := #[.slice A1_0 l1_0.length c1_0, .slice A1_1 l1_1.length c1_1]) (t := 30) ?_; intro gb2_ hg w2_ hbox hb; replace HS := A_.mk (And.intro HS.out (show gb2_ = w1_.heap.size ∧ gb2_ < w2_.heap.size from ⟨hg, blk_lt hbox⟩)); replace BK1 := aBb BK1 hb; replace HB := aHB HB hb; have BK2 := A_.mk hbox; clear hbox hb hg q1_0 q1_1; obtain ⟨q1_0, q1_1⟩ := blk2_ BK1.out; obtain ⟨q2_0, q2_1⟩ := blk2_ BK2.out))
 (with_reducible refine (laws_eqIntS.calls k _ _ l0_0 _ _ l1_0 t1 _ (Kd.C_below HR0_0.out HB.out) HC0_0.out (Kd.C_below HR1_0.out HB.out) HC1_0.out A3.out).mono ?_)
 rintro e w3_ ⟨rfl, hb⟩
 replace hb := Drawn0.below hb
 replace HS := aHs HS hb.size
 replace BK1 := aBb BK1 hb
 replace BK2 := aBb BK2 hb
 replace HB := aHB HB hb
 clear hb  q1_0 q1_1 q2_0 q2_1
 obtain ⟨q1_0, q1_1⟩ := blk2_ BK1.out
 obtain ⟨q2_0, q2_1⟩ := blk2_ BK2.out
 replace H := H.out
 by_cases hc1_ : t1 = true
 case pos =>
  rw [if_pos hc1_] at H
  subst hc1_
  replace H := ob_ H
  obtain ⟨t2, A4_0, H⟩ := H
  have A4 := A_.mk A4_0
  clear A4_0
  replace H := A_.mk H
  go_wp2_with (fail)
  (with_reducible refine (laws_eqIntS.calls k _ _ l0_1 _ _ l1_1 t2 _ (Kd.C_below HR0_1.out HB.out) HC0_1.out (Kd.C_below HR1_1.out HB.out) HC1_1.out A4.out).mono ?_)
  rintro e w4_ ⟨rfl, hb⟩
  replace hb := Drawn0.below hb
  replace HS := aHs HS hb.size
  replace BK1 := aBb BK1 hb
  replace BK2 := aBb BK2 hb
  replace HB := aHB HB hb
  clear hb  q1_0 q1_1 q2_0 q2_1
  obtain ⟨q1_0, q1_1⟩ := blk2_ BK1.out
  obtain ⟨q2_0, q2_1⟩ := blk2_ BK2.out
  replace H := H.out
  by_cases hc2_ : t2 = true
  case pos =>
   rw [if_pos hc2_] at H
   subst hc2_
   replace H := Option.some.inj H
   subst H
   go_wp2
   go_ret
   exact ⟨rfl, HB.out⟩
  case neg =>
   rw [if_neg hc2_] at H
   replace hc2_ := eq_false_of_ne_true hc2_
   subst hc2_
   replace H := Option.some.inj H
   subst H
   go_wp2
   go_ret
   exact ⟨rfl, HB.out⟩
 case neg =>
  rw [if_neg hc1_] at H
  replace hc1_ := eq_false_of_ne_true hc1_
  subst hc1_
  replace H := Option.some.inj H
  subst H
  go_wp2
  go_ret
  exact ⟨rfl, HB.out⟩
/-! ### laws_eqPacket: function 15, its calls in a row -/
def laws_eqPacket.f (k : Nat) (a0_0 : Int) (a0_1 : Int) (a0_2 : Int) (a0_3 : Int) (a0_4 : Int) (a0_5 : Int) (a0_6 : Int) (l0_7 : List Int) (a1_0 : Int) (a1_1 : Int) (a1_2 : Int) (a1_3 : Int) (a1_4 : Int) (a1_5 : Int) (a1_6 : Int) (l1_7 : List Int) : Option ((Bool)) := (if a0_0 = a1_0 then (if a0_1 = a1_1 then (if a0_2 = a1_2 then (if a0_3 = a1_3 then (if a0_4 = a1_4 then (if a0_5 = a1_5 then (if a0_6 = a1_6 then ((laws_eqIntS.f k l0_7 l1_7).bind fun t1 => (if t1 = true then (some (true)) else (some (false)))) else (some (false))) else (some (false))) else (some (false))) else (some (false))) else (some (false))) else (some (false))) else (some (false)))
set_option maxHeartbeats 8000000 in
set_option maxRecDepth 100000 in
theorem laws_eqPacket.calls (k : Nat) (a0_0 : Int) (a0_1 : Int) (a0_2 : Int) (a0_3 : Int) (a0_4 : Int) (a0_5 : Int) (a0_6 : Int) (A0_7 : Option Addr) (c0_7 : Nat) (l0_7 : List Int) (a1_0 : Int) (a1_1 : Int) (a1_2 : Int) (a1_3 : Int) (a1_4 : Int) (a1_5 : Int) (a1_6 : Int) (A1_7 : Option Addr) (c1_7 : Nat) (l1_7 : List Int) (r : Bool) (w : World) (hr0_7 : Kd.C (Kd.int .i64) w A0_7 l0_7.length l0_7) (hc0_7 : l0_7.length ≤ c0_7) (hr1_7 : Kd.C (Kd.int .i64) w A1_7 l1_7.length l1_7) (hc1_7 : l1_7.length ≤ c1_7) (h : laws_eqPacket.f k a0_0 a0_1 a0_2 a0_3 a0_4 a0_5 a0_6 l0_7 a1_0 a1_1 a1_2 a1_3 a1_4 a1_5 a1_6 l1_7 = some r) :
  Calls Try.prog 15 #[.agg #[.int .i64 a0_0, .int .i64 a0_1, .int .i64 a0_2, .int .i64 a0_3, .int .i64 a0_4, .int .i64 a0_5, .int .i64 a0_6, .slice A0_7 l0_7.length c0_7], .agg #[.int .i64 a1_0, .int .i64 a1_1, .int .i64 a1_2, .int .i64 a1_3, .int .i64 a1_4, .int .i64 a1_5, .int .i64 a1_6, .slice A1_7 l1_7.length c1_7]] w fun e w' => e = .returned (.bool r) ∧ Below w.heap.size w w' := by
 have HR0_7 := A_.mk hr0_7
 have HC0_7 := A_.mk hc0_7
 clear hr0_7 hc0_7
 have HR1_7 := A_.mk hr1_7
 have HC1_7 := A_.mk hc1_7
 clear hr1_7 hc1_7
 have HB := A_.mk (Below.refl w.heap.size w)
 unfold laws_eqPacket.f at h
 have H := h
 clear h
 by_cases hc1_ : a0_0 = a1_0
 case pos =>
  rw [if_pos hc1_] at H
  have hc1_b0 : (a0_0 == a1_0) = true := beq_iff_eq.mpr hc1_
  have hc1_bn : (a0_0 != a1_0) = false := bne_eq_false_iff_eq.mpr hc1_
  replace hc1_ := A_.mk hc1_
  by_cases hc2_ : a0_1 = a1_1
  case pos =>
   rw [if_pos hc2_] at H
   have hc2_b0 : (a0_1 == a1_1) = true := beq_iff_eq.mpr hc2_
   have hc2_bn : (a0_1 != a1_1) = false := bne_eq_false_iff_eq.mpr hc2_
   replace hc2_ := A_.mk hc2_
   by_cases hc3_ : a0_2 = a1_2
   case pos =>
    rw [if_pos hc3_] at H
    have hc3_b0 : (a0_2 == a1_2) = true := beq_iff_eq.mpr hc3_
    have hc3_bn : (a0_2 != a1_2) = false := bne_eq_false_iff_eq.mpr hc3_
    replace hc3_ := A_.mk hc3_
    by_cases hc4_ : a0_3 = a1_3
    case pos =>
     rw [if_pos hc4_] at H
     have hc4_b0 : (a0_3 == a1_3) = true := beq_iff_eq.mpr hc4_
     have hc4_bn : (a0_3 != a1_3) = false := bne_eq_false_iff_eq.mpr hc4_
     replace hc4_ := A_.mk hc4_
     by_cases hc5_ : a0_4 = a1_4
     case pos =>
      rw [if_pos hc5_] at H
      have hc5_b0 : (a0_4 == a1_4) = true := beq_iff_eq.mpr hc5_
      have hc5_bn : (a0_4 != a1_4) = false := bne_eq_false_iff_eq.mpr hc5_
      replace hc5_ := A_.mk hc5_
      by_cases hc6_ : a0_5 = a1_5
      case pos =>
       rw [if_pos hc6_] at H
       have hc6_b0 : (a0_5 == a1_5) = true := beq_iff_eq.mpr hc6_
       have hc6_bn : (a0_5 != a1_5) = false := bne_eq_false_iff_eq.mpr hc6_
       replace hc6_ := A_.mk hc6_
       by_cases hc7_ : a0_6 = a1_6
       case pos =>
        rw [if_pos hc7_] at H
        have hc7_b0 : (a0_6 == a1_6) = true := beq_iff_eq.mpr hc7_
        have hc7_bn : (a0_6 != a1_6) = false := bne_eq_false_iff_eq.mpr hc7_
        replace hc7_ := A_.mk hc7_
        replace H := ob_ H
        obtain ⟨t1, A3_0, H⟩ := H
        have A3 := A_.mk A3_0
        clear A3_0
        replace H := A_.mk H
        have hu38 := Try.underlying38
        go_enter Try.func15, Try.ntmps15
        have HS := A_.mk (Nat.le_refl w.heap.size)
        go_wp2_with (first | ((with_reducible refine gd_ (N := 2) rfl ?_); refine by_ 2 (cs := #[.int .i64 a0_0, .int .i64 a0_1, .int .i64 a0_2, .int .i64 a0_3, .int .i64 a0_4, .int .i64 a0_5, .int .i64 a0_6, .slice A0_7 l0_7.length c0_7]) (t := 38) ?_; intro gb1_ hg w1_ hbox hb; replace HS := A_.mk (And.intro HS.out (show gb1_ = w.heap.size ∧ gb1_ < w1_.heap.size from ⟨hg, blk_lt hbox⟩)); replace HB := aHB HB hb; have BK1 := A_.mk hbox; clear hbox hb hg; obtain ⟨q1_0, q1_1, q1_2, q1_3, q1_4, q1_5, q1_6, q1_7⟩ := blk8_ BK1.out) | ((with_reducible refine gd_ (N := 3) rfl ?_); refine by_ 3 (cs := #[.int .i64 a1_0, .int .i64 a1_1, .int .i64 a1_2, .int .i64 a1_3, .int .i64 a1_4, .int .i64 a1_5, .int .i64 a1_6, .slice A1_7 l1_7.length c1_7]) (t := 38) ?_; intro gb2_ hg w2_ hbox hb; replace HS := A_.mk (And.intro HS.out (show gb2_ = w1_.heap.size ∧ gb2_ < w2_.heap.size from ⟨hg, blk_lt hbox⟩)); replace BK1 := aBb BK1 hb; replace HB := aHB HB hb; have BK2 := A_.mk hbox; clear hbox hb hg q1_0 q1_1 q1_2 q1_3 q1_4 q1_5 q1_6 q1_7; obtain ⟨q1_0, q1_1, q1_2, q1_3, q1_4, q1_5, q1_6, q1_7⟩ := blk8_ BK1.out; obtain ⟨q2_0, q2_1, q2_2, q2_3, q2_4, q2_5, q2_6, q2_7⟩ := blk8_ BK2.out))
        (with_reducible refine (laws_eqIntS.calls k _ _ l0_7 _ _ l1_7 t1 _ (Kd.C_below HR0_7.out HB.out) HC0_7.out (Kd.C_below HR1_7.out HB.out) HC1_7.out A3.out).mono ?_)
        rintro e w3_ ⟨rfl, hb⟩
        replace hb := Drawn0.below hb
        replace HS := aHs HS hb.size
        replace BK1 := aBb BK1 hb
        replace BK2 := aBb BK2 hb
        replace HB := aHB HB hb
        clear hb  q1_0 q1_1 q1_2 q1_3 q1_4 q1_5 q1_6 q1_7 q2_0 q2_1 q2_2 q2_3 q2_4 q2_5 q2_6 q2_7
        obtain ⟨q1_0, q1_1, q1_2, q1_3, q1_4, q1_5, q1_6, q1_7⟩ := blk8_ BK1.out
        obtain ⟨q2_0, q2_1, q2_2, q2_3, q2_4, q2_5, q2_6, q2_7⟩ := blk8_ BK2.out
        replace H := H.out
        by_cases hc8_ : t1 = true
        case pos =>
         rw [if_pos hc8_] at H
         subst hc8_
         replace H := Option.some.inj H
         subst H
         go_wp2
         go_ret
         exact ⟨rfl, HB.out⟩
        case neg =>
         rw [if_neg hc8_] at H
         replace hc8_ := eq_false_of_ne_true hc8_
         subst hc8_
         replace H := Option.some.inj H
         subst H
         go_wp2
         go_ret
         exact ⟨rfl, HB.out⟩
       case neg =>
        rw [if_neg hc7_] at H
        have hc7_b0 : (a0_6 == a1_6) = false := beq_eq_false_iff_ne.mpr hc7_
        have hc7_bn : (a0_6 != a1_6) = true := bne_iff_ne.mpr hc7_
        replace H := Option.some.inj H
        subst H
        have hu38 := Try.underlying38
        go_enter Try.func15, Try.ntmps15
        have HS := A_.mk (Nat.le_refl w.heap.size)
        go_wp2_with (first | ((with_reducible refine gd_ (N := 2) rfl ?_); refine by_ 2 (cs := #[.int .i64 a0_0, .int .i64 a0_1, .int .i64 a0_2, .int .i64 a0_3, .int .i64 a0_4, .int .i64 a0_5, .int .i64 a0_6, .slice A0_7 l0_7.length c0_7]) (t := 38) ?_; intro gb1_ hg w1_ hbox hb; replace HS := A_.mk (And.intro HS.out (show gb1_ = w.heap.size ∧ gb1_ < w1_.heap.size from ⟨hg, blk_lt hbox⟩)); replace HB := aHB HB hb; have BK1 := A_.mk hbox; clear hbox hb hg; obtain ⟨q1_0, q1_1, q1_2, q1_3, q1_4, q1_5, q1_6, q1_7⟩ := blk8_ BK1.out) | ((with_reducible refine gd_ (N := 3) rfl ?_); refine by_ 3 (cs := #[.int .i64 a1_0, .int .i64 a1_1, .int .i64 a1_2, .int .i64 a1_3, .int .i64 a1_4, .int .i64 a1_5, .int .i64 a1_6, .slice A1_7 l1_7.length c1_7]) (t := 38) ?_; intro gb2_ hg w2_ hbox hb; replace HS := A_.mk (And.intro HS.out (show gb2_ = w1_.heap.size ∧ gb2_ < w2_.heap.size from ⟨hg, blk_lt hbox⟩)); replace BK1 := aBb BK1 hb; replace HB := aHB HB hb; have BK2 := A_.mk hbox; clear hbox hb hg q1_0 q1_1 q1_2 q1_3 q1_4 q1_5 q1_6 q1_7; obtain ⟨q1_0, q1_1, q1_2, q1_3, q1_4, q1_5, q1_6, q1_7⟩ := blk8_ BK1.out; obtain ⟨q2_0, q2_1, q2_2, q2_3, q2_4, q2_5, q2_6, q2_7⟩ := blk8_ BK2.out))
        go_ret
        exact ⟨rfl, HB.out⟩
      case neg =>
       rw [if_neg hc6_] at H
       have hc6_b0 : (a0_5 == a1_5) = false := beq_eq_false_iff_ne.mpr hc6_
       have hc6_bn : (a0_5 != a1_5) = true := bne_iff_ne.mpr hc6_
       replace H := Option.some.inj H
       subst H
       have hu38 := Try.underlying38
       go_enter Try.func15, Try.ntmps15
       have HS := A_.mk (Nat.le_refl w.heap.size)
       go_wp2_with (first | ((with_reducible refine gd_ (N := 2) rfl ?_); refine by_ 2 (cs := #[.int .i64 a0_0, .int .i64 a0_1, .int .i64 a0_2, .int .i64 a0_3, .int .i64 a0_4, .int .i64 a0_5, .int .i64 a0_6, .slice A0_7 l0_7.length c0_7]) (t := 38) ?_; intro gb1_ hg w1_ hbox hb; replace HS := A_.mk (And.intro HS.out (show gb1_ = w.heap.size ∧ gb1_ < w1_.heap.size from ⟨hg, blk_lt hbox⟩)); replace HB := aHB HB hb; have BK1 := A_.mk hbox; clear hbox hb hg; obtain ⟨q1_0, q1_1, q1_2, q1_3, q1_4, q1_5, q1_6, q1_7⟩ := blk8_ BK1.out) | ((with_reducible refine gd_ (N := 3) rfl ?_); refine by_ 3 (cs := #[.int .i64 a1_0, .int .i64 a1_1, .int .i64 a1_2, .int .i64 a1_3, .int .i64 a1_4, .int .i64 a1_5, .int .i64 a1_6, .slice A1_7 l1_7.length c1_7]) (t := 38) ?_; intro gb2_ hg w2_ hbox hb; replace HS := A_.mk (And.intro HS.out (show gb2_ = w1_.heap.size ∧ gb2_ < w2_.heap.size from ⟨hg, blk_lt hbox⟩)); replace BK1 := aBb BK1 hb; replace HB := aHB HB hb; have BK2 := A_.mk hbox; clear hbox hb hg q1_0 q1_1 q1_2 q1_3 q1_4 q1_5 q1_6 q1_7; obtain ⟨q1_0, q1_1, q1_2, q1_3, q1_4, q1_5, q1_6, q1_7⟩ := blk8_ BK1.out; obtain ⟨q2_0, q2_1, q2_2, q2_3, q2_4, q2_5, q2_6, q2_7⟩ := blk8_ BK2.out))
       go_ret
       exact ⟨rfl, HB.out⟩
     case neg =>
      rw [if_neg hc5_] at H
      have hc5_b0 : (a0_4 == a1_4) = false := beq_eq_false_iff_ne.mpr hc5_
      have hc5_bn : (a0_4 != a1_4) = true := bne_iff_ne.mpr hc5_
      replace H := Option.some.inj H
      subst H
      have hu38 := Try.underlying38
      go_enter Try.func15, Try.ntmps15
      have HS := A_.mk (Nat.le_refl w.heap.size)
      go_wp2_with (first | ((with_reducible refine gd_ (N := 2) rfl ?_); refine by_ 2 (cs := #[.int .i64 a0_0, .int .i64 a0_1, .int .i64 a0_2, .int .i64 a0_3, .int .i64 a0_4, .int .i64 a0_5, .int .i64 a0_6, .slice A0_7 l0_7.length c0_7]) (t := 38) ?_; intro gb1_ hg w1_ hbox hb; replace HS := A_.mk (And.intro HS.out (show gb1_ = w.heap.size ∧ gb1_ < w1_.heap.size from ⟨hg, blk_lt hbox⟩)); replace HB := aHB HB hb; have BK1 := A_.mk hbox; clear hbox hb hg; obtain ⟨q1_0, q1_1, q1_2, q1_3, q1_4, q1_5, q1_6, q1_7⟩ := blk8_ BK1.out) | ((with_reducible refine gd_ (N := 3) rfl ?_); refine by_ 3 (cs := #[.int .i64 a1_0, .int .i64 a1_1, .int .i64 a1_2, .int .i64 a1_3, .int .i64 a1_4, .int .i64 a1_5, .int .i64 a1_6, .slice A1_7 l1_7.length c1_7]) (t := 38) ?_; intro gb2_ hg w2_ hbox hb; replace HS := A_.mk (And.intro HS.out (show gb2_ = w1_.heap.size ∧ gb2_ < w2_.heap.size from ⟨hg, blk_lt hbox⟩)); replace BK1 := aBb BK1 hb; replace HB := aHB HB hb; have BK2 := A_.mk hbox; clear hbox hb hg q1_0 q1_1 q1_2 q1_3 q1_4 q1_5 q1_6 q1_7; obtain ⟨q1_0, q1_1, q1_2, q1_3, q1_4, q1_5, q1_6, q1_7⟩ := blk8_ BK1.out; obtain ⟨q2_0, q2_1, q2_2, q2_3, q2_4, q2_5, q2_6, q2_7⟩ := blk8_ BK2.out))
      go_ret
      exact ⟨rfl, HB.out⟩
    case neg =>
     rw [if_neg hc4_] at H
     have hc4_b0 : (a0_3 == a1_3) = false := beq_eq_false_iff_ne.mpr hc4_
     have hc4_bn : (a0_3 != a1_3) = true := bne_iff_ne.mpr hc4_
     replace H := Option.some.inj H
     subst H
     have hu38 := Try.underlying38
     go_enter Try.func15, Try.ntmps15
     have HS := A_.mk (Nat.le_refl w.heap.size)
     go_wp2_with (first | ((with_reducible refine gd_ (N := 2) rfl ?_); refine by_ 2 (cs := #[.int .i64 a0_0, .int .i64 a0_1, .int .i64 a0_2, .int .i64 a0_3, .int .i64 a0_4, .int .i64 a0_5, .int .i64 a0_6, .slice A0_7 l0_7.length c0_7]) (t := 38) ?_; intro gb1_ hg w1_ hbox hb; replace HS := A_.mk (And.intro HS.out (show gb1_ = w.heap.size ∧ gb1_ < w1_.heap.size from ⟨hg, blk_lt hbox⟩)); replace HB := aHB HB hb; have BK1 := A_.mk hbox; clear hbox hb hg; obtain ⟨q1_0, q1_1, q1_2, q1_3, q1_4, q1_5, q1_6, q1_7⟩ := blk8_ BK1.out) | ((with_reducible refine gd_ (N := 3) rfl ?_); refine by_ 3 (cs := #[.int .i64 a1_0, .int .i64 a1_1, .int .i64 a1_2, .int .i64 a1_3, .int .i64 a1_4, .int .i64 a1_5, .int .i64 a1_6, .slice A1_7 l1_7.length c1_7]) (t := 38) ?_; intro gb2_ hg w2_ hbox hb; replace HS := A_.mk (And.intro HS.out (show gb2_ = w1_.heap.size ∧ gb2_ < w2_.heap.size from ⟨hg, blk_lt hbox⟩)); replace BK1 := aBb BK1 hb; replace HB := aHB HB hb; have BK2 := A_.mk hbox; clear hbox hb hg q1_0 q1_1 q1_2 q1_3 q1_4 q1_5 q1_6 q1_7; obtain ⟨q1_0, q1_1, q1_2, q1_3, q1_4, q1_5, q1_6, q1_7⟩ := blk8_ BK1.out; obtain ⟨q2_0, q2_1, q2_2, q2_3, q2_4, q2_5, q2_6, q2_7⟩ := blk8_ BK2.out))
     go_ret
     exact ⟨rfl, HB.out⟩
   case neg =>
    rw [if_neg hc3_] at H
    have hc3_b0 : (a0_2 == a1_2) = false := beq_eq_false_iff_ne.mpr hc3_
    have hc3_bn : (a0_2 != a1_2) = true := bne_iff_ne.mpr hc3_
    replace H := Option.some.inj H
    subst H
    have hu38 := Try.underlying38
    go_enter Try.func15, Try.ntmps15
    have HS := A_.mk (Nat.le_refl w.heap.size)
    go_wp2_with (first | ((with_reducible refine gd_ (N := 2) rfl ?_); refine by_ 2 (cs := #[.int .i64 a0_0, .int .i64 a0_1, .int .i64 a0_2, .int .i64 a0_3, .int .i64 a0_4, .int .i64 a0_5, .int .i64 a0_6, .slice A0_7 l0_7.length c0_7]) (t := 38) ?_; intro gb1_ hg w1_ hbox hb; replace HS := A_.mk (And.intro HS.out (show gb1_ = w.heap.size ∧ gb1_ < w1_.heap.size from ⟨hg, blk_lt hbox⟩)); replace HB := aHB HB hb; have BK1 := A_.mk hbox; clear hbox hb hg; obtain ⟨q1_0, q1_1, q1_2, q1_3, q1_4, q1_5, q1_6, q1_7⟩ := blk8_ BK1.out) | ((with_reducible refine gd_ (N := 3) rfl ?_); refine by_ 3 (cs := #[.int .i64 a1_0, .int .i64 a1_1, .int .i64 a1_2, .int .i64 a1_3, .int .i64 a1_4, .int .i64 a1_5, .int .i64 a1_6, .slice A1_7 l1_7.length c1_7]) (t := 38) ?_; intro gb2_ hg w2_ hbox hb; replace HS := A_.mk (And.intro HS.out (show gb2_ = w1_.heap.size ∧ gb2_ < w2_.heap.size from ⟨hg, blk_lt hbox⟩)); replace BK1 := aBb BK1 hb; replace HB := aHB HB hb; have BK2 := A_.mk hbox; clear hbox hb hg q1_0 q1_1 q1_2 q1_3 q1_4 q1_5 q1_6 q1_7; obtain ⟨q1_0, q1_1, q1_2, q1_3, q1_4, q1_5, q1_6, q1_7⟩ := blk8_ BK1.out; obtain ⟨q2_0, q2_1, q2_2, q2_3, q2_4, q2_5, q2_6, q2_7⟩ := blk8_ BK2.out))
    go_ret
    exact ⟨rfl, HB.out⟩
  case neg =>
   rw [if_neg hc2_] at H
   have hc2_b0 : (a0_1 == a1_1) = false := beq_eq_false_iff_ne.mpr hc2_
   have hc2_bn : (a0_1 != a1_1) = true := bne_iff_ne.mpr hc2_
   replace H := Option.some.inj H
   subst H
   have hu38 := Try.underlying38
   go_enter Try.func15, Try.ntmps15
   have HS := A_.mk (Nat.le_refl w.heap.size)
   go_wp2_with (first | ((with_reducible refine gd_ (N := 2) rfl ?_); refine by_ 2 (cs := #[.int .i64 a0_0, .int .i64 a0_1, .int .i64 a0_2, .int .i64 a0_3, .int .i64 a0_4, .int .i64 a0_5, .int .i64 a0_6, .slice A0_7 l0_7.length c0_7]) (t := 38) ?_; intro gb1_ hg w1_ hbox hb; replace HS := A_.mk (And.intro HS.out (show gb1_ = w.heap.size ∧ gb1_ < w1_.heap.size from ⟨hg, blk_lt hbox⟩)); replace HB := aHB HB hb; have BK1 := A_.mk hbox; clear hbox hb hg; obtain ⟨q1_0, q1_1, q1_2, q1_3, q1_4, q1_5, q1_6, q1_7⟩ := blk8_ BK1.out) | ((with_reducible refine gd_ (N := 3) rfl ?_); refine by_ 3 (cs := #[.int .i64 a1_0, .int .i64 a1_1, .int .i64 a1_2, .int .i64 a1_3, .int .i64 a1_4, .int .i64 a1_5, .int .i64 a1_6, .slice A1_7 l1_7.length c1_7]) (t := 38) ?_; intro gb2_ hg w2_ hbox hb; replace HS := A_.mk (And.intro HS.out (show gb2_ = w1_.heap.size ∧ gb2_ < w2_.heap.size from ⟨hg, blk_lt hbox⟩)); replace BK1 := aBb BK1 hb; replace HB := aHB HB hb; have BK2 := A_.mk hbox; clear hbox hb hg q1_0 q1_1 q1_2 q1_3 q1_4 q1_5 q1_6 q1_7; obtain ⟨q1_0, q1_1, q1_2, q1_3, q1_4, q1_5, q1_6, q1_7⟩ := blk8_ BK1.out; obtain ⟨q2_0, q2_1, q2_2, q2_3, q2_4, q2_5, q2_6, q2_7⟩ := blk8_ BK2.out))
   go_ret
   exact ⟨rfl, HB.out⟩
 case neg =>
  rw [if_neg hc1_] at H
  have hc1_b0 : (a0_0 == a1_0) = false := beq_eq_false_iff_ne.mpr hc1_
  have hc1_bn : (a0_0 != a1_0) = true := bne_iff_ne.mpr hc1_
  replace H := Option.some.inj H
  subst H
  have hu38 := Try.underlying38
  go_enter Try.func15, Try.ntmps15
  have HS := A_.mk (Nat.le_refl w.heap.size)
  go_wp2_with (first | ((with_reducible refine gd_ (N := 2) rfl ?_); refine by_ 2 (cs := #[.int .i64 a0_0, .int .i64 a0_1, .int .i64 a0_2, .int .i64 a0_3, .int .i64 a0_4, .int .i64 a0_5, .int .i64 a0_6, .slice A0_7 l0_7.length c0_7]) (t := 38) ?_; intro gb1_ hg w1_ hbox hb; replace HS := A_.mk (And.intro HS.out (show gb1_ = w.heap.size ∧ gb1_ < w1_.heap.size from ⟨hg, blk_lt hbox⟩)); replace HB := aHB HB hb; have BK1 := A_.mk hbox; clear hbox hb hg; obtain ⟨q1_0, q1_1, q1_2, q1_3, q1_4, q1_5, q1_6, q1_7⟩ := blk8_ BK1.out) | ((with_reducible refine gd_ (N := 3) rfl ?_); refine by_ 3 (cs := #[.int .i64 a1_0, .int .i64 a1_1, .int .i64 a1_2, .int .i64 a1_3, .int .i64 a1_4, .int .i64 a1_5, .int .i64 a1_6, .slice A1_7 l1_7.length c1_7]) (t := 38) ?_; intro gb2_ hg w2_ hbox hb; replace HS := A_.mk (And.intro HS.out (show gb2_ = w1_.heap.size ∧ gb2_ < w2_.heap.size from ⟨hg, blk_lt hbox⟩)); replace BK1 := aBb BK1 hb; replace HB := aHB HB hb; have BK2 := A_.mk hbox; clear hbox hb hg q1_0 q1_1 q1_2 q1_3 q1_4 q1_5 q1_6 q1_7; obtain ⟨q1_0, q1_1, q1_2, q1_3, q1_4, q1_5, q1_6, q1_7⟩ := blk8_ BK1.out; obtain ⟨q2_0, q2_1, q2_2, q2_3, q2_4, q2_5, q2_6, q2_7⟩ := blk8_ BK2.out))
  go_ret
  exact ⟨rfl, HB.out⟩
end Go.Proofs.Ytlombfmebinjbaa.PFnExactFreePacket
