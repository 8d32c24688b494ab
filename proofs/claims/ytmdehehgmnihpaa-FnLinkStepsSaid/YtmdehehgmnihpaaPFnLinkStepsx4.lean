-- Written by a program of this session (wip/xp): not trusted, Lean checks it.
import Derived.Test.YtmdehehgmnihpaaPFnLinkStepsx0
import Derived.Test.YtmdehehgmnihpaaPFnLinkStepsx3
namespace Go.Proofs.Ytmdehehgmnihpaa.PFnLinkSteps
open Go.RowKit Go.Proofs.YtmdehehgmnihpaaW.PrintWords Go.Proofs.YtmdehehgmnihpaaW.PrintLast Go.Proofs.YtmdehehgmnihpaaW.PrintMore
attribute [local go_sem] max2_int min2_int max_two min_two max_three min_three max_four min_four   -- for this text's walks alone
set_option linter.unusedVariables false
set_option linter.unusedSimpArgs false

/-! ### impl_copyLists: function 28 -/
def impl_copyLists.l0 : Nat → List (List Int) → List (List Int) → Int → Int → Option ((List (List Int)))
 | 0, _, _, _, _ => none
 | k + 1, x3, x7, x8, x9 => if x9 < x8 then (if 0 ≤ x9 then (if x9 < (x7.length : Int) then ((slices_Clone_int_int.f (rd_L1 x7 x9)).bind fun t227 => (if x3.length < 5864062014805 then (impl_copyLists.l0 k (x3 ++ [t227]) x7 x8 (wrap64 (x9 + 1))) else (none))) else (none)) else (none)) else (some x3)
def impl_copyLists.f (k : Nat) (l0 : List (List Int)) : Option ((List (List Int))) := impl_copyLists.l0 k (([] : List (List Int))) l0 (l0.length : Int) 0
set_option maxHeartbeats 8000000 in
set_option maxRecDepth 100000 in
theorem impl_copyLists.calls (k : Nat) (A0 : Option Addr) (c0 : Nat) (l0 : List (List Int)) (r : List (List Int)) (w : World) (hr0 : Kd.C (Kd.slice 3 (Kd.int .i64)) w A0 l0.length l0) (hc0 : l0.length ≤ c0) (h : impl_copyLists.f k l0 = some r) :
  Calls Try.prog 28 #[.slice A0 l0.length c0] w fun e w' => ∃ v0_ : Value, e = .returned (v0_) ∧ Kd.S (Kd.slice 3 (Kd.int .i64)) 32 w' w.heap.size (fun _ => True) v0_ r ∧ Below w.heap.size w w' := by
 have HR0 := A_.mk hr0
 have HC0 := A_.mk hc0
 clear hr0 hc0
 have HB := A_.mk (Below.refl w.heap.size w)
 have H : (impl_copyLists.l0 k (([] : List (List Int))) l0 (l0.length : Int) 0) = some r := h
 clear h
 obtain ⟨y223, hy223⟩ : ∃ y_ : List (List Int), y_ = (([] : List (List Int))) := ⟨_, rfl⟩
 replace H : (impl_copyLists.l0 k y223 l0 (l0.length : Int) 0) = some r := by first | (rw [hy223]; with_reducible exact H) | (have H2_ := (Option.bind_some _ _).symm.trans H; rw [hy223]; with_reducible exact H2_) | (have H2_ := (Option.bind_some _ _).symm.trans H; with_reducible exact H2_) | with_reducible exact H | (rw [hy223]; exact H) | exact H
 have Ny223 := A_.mk hy223
 clear hy223
 have H' := A_.mk H
 clear H
 go_enter Try.func28, Try.ntmps28
 go_wp2_with (first | ((with_reducible refine gd_ (N := 6) rfl ?_); refine Kd.S_lit (Kd.slice 3 (Kd.int .i64)) _ 32 ?hg (N := 6) ?hd (xs := ([] : List (List Int))) (inner := []) (ok := fun _ => True) (okp := fun _ => True) ?hr ?hp (fun _ hk => hk) trivial (Below.refl _ _) (Nat.le_refl _) (by simp) ?_; (case hd => rfl); (case hg => rfl); (case hr => first | (go_simp; done) | (go_simp; rfl)); (case hp => exact (Reps.none _ _)); intro v224 w2 ho3 hb hg_ hnew_; clear hg_ hnew_; (first | rw [← Ny223.out] at ho3 | (simp only [Int.reduceToNat] at ho3; rw [← Ny223.out] at ho3)); have n0_ := A_.mk (Kd.S_lower ho3 (bz_ (beY HB.out))); have n1_ := A_.mk (bt_ (beY HB.out) hb); clear HB; have HO225 := n0_; have HB := n1_; clear n0_ n1_ hb ho3))
 go_loopg [3, 9] k (fun kq v3 v9 w' => ∃ (x3_1 : List (List Int)) (x9_1 : Int), v9 = .int .i64 x9_1 ∧ A_ (impl_copyLists.l0 kq x3_1 l0 (l0.length : Int) x9_1 = some r) ∧ A_ (kq ≤ k) ∧ A_ (Kd.S (Kd.slice 3 (Kd.int .i64)) 32 w' w.heap.size (fun _ => True) v3 x3_1) ∧ A_ (Below w.heap.size w w'))
 case atStart => exact ⟨(y223), (0), (by first | rfl | (simp; done) | (simp [*]; done)), H', ⟨Nat.le_refl _⟩, ⟨by (with_reducible repeat (first | apply Kd.S_alloc | apply Kd.S_drewN | apply Kd.S_drew)); exact HO225.out⟩, ⟨beY HB.out⟩⟩
 case round =>
  clear H'
  obtain ⟨x3_1, x9_1, rfl, HA, HK1, HO_3, HB⟩ := hrel
  cases gk with
  | zero => exact absurd HA.out (by simp [impl_copyLists.l0])
  | succ k1 =>
   have H := HA.out
   clear HA
   simp only [impl_copyLists.l0] at H
   by_cases c4 : x9_1 < (l0.length : Int)
   rotate_left
   ·rw [if_neg c4] at H
    have c4b0 : decide (x9_1 < (l0.length : Int)) = false := decide_eq_false c4
    clear c4
    obtain rfl := Option.some.inj H
    go_wp2
    go_ret
    exact ⟨_, by first | rfl | (simp [errW_none, errW_some] <;> rfl) | (simp [*, errW_none, errW_some] <;> rfl), by (with_reducible repeat (first | apply Kd.S_alloc | apply Kd.S_drewN | apply Kd.S_drew)); exact HO_3.out, beY HB.out⟩
   rw [if_pos c4] at H
   have c4b0 : decide (x9_1 < (l0.length : Int)) = true := decide_eq_true c4
   clear c4
   by_cases c5 : 0 ≤ x9_1
   rotate_left
   ·rw [if_neg c5] at H
    exact absurd H (by simp)
   rw [if_pos c5] at H
   have c5b0 : decide (0 ≤ x9_1) = true := decide_eq_true c5
   clear c5
   by_cases c6 : x9_1 < (l0.length : Int)
   rotate_left
   ·rw [if_neg c6] at H
    exact absurd H (by simp)
   rw [if_pos c6] at H
   have c6b0 : decide (x9_1 < (l0.length : Int)) = true := decide_eq_true c6
   clear c6
   replace H := ob_ H
   obtain ⟨t227, A70, H⟩ := H
   have A7 := A_.mk A70
   clear A70
   by_cases c8 : x3_1.length < 5864062014805
   rotate_left
   ·rw [if_neg c8] at H
    exact absurd H (by simp)
   rw [if_pos c8] at H
   have LMc8 := A_.mk c8
   clear c8
   obtain ⟨y230, hy230⟩ : ∃ y_ : List (List Int), y_ = (x3_1 ++ [t227]) := ⟨_, rfl⟩
   replace H : (impl_copyLists.l0 k1 y230 l0 (l0.length : Int) (wrap64 (x9_1 + 1))) = some r := by first | (rw [hy230]; with_reducible exact H) | (have H2_ := (Option.bind_some _ _).symm.trans H; rw [hy230]; with_reducible exact H2_) | (have H2_ := (Option.bind_some _ _).symm.trans H; with_reducible exact H2_) | with_reducible exact H | (rw [hy230]; exact H) | exact H
   have Ny230 := A_.mk hy230
   clear hy230
   have H' := A_.mk H
   clear H
   have p226 : 0 ≤ (x9_1 : Int) := od_
   have q226 : x9_1 < (l0.length : Int) := od_
   obtain ⟨ad226, A226_0, c226_0, e226, hx226_0, hl226_0, hi226_0⟩ := at_L1 HR0.out x9_1 p226 q226
   cases e226
   replace hx226_0 := (HB.out.cell (wl_ w _ hx226_0)).trans hx226_0
   have HR226_0 := A_.mk hi226_0
   have HC226_0 := A_.mk hl226_0
   clear hi226_0 hl226_0
   replace p226 := eq_true p226
   replace q226 := eq_true q226
   go_wp2_with (first | ((with_reducible refine gc_ (f := 29) rfl ?_); refine gl_ (some 15) Try.func29 #[.slice A226_0 (rd_L1 l0 x9_1).length c226_0] ?_; (with_reducible refine (slices_Clone_int_int.calls _ _ (rd_L1 l0 x9_1) t227 _ ?side1 ?side2 A7.out).mono ?_); (case side1 => exact cY ((Kd.C_below HR226_0.out HB.out))); (case side2 => exact HC226_0.out); rintro e w9 ⟨v228, rfl, ho0, hb⟩; refine ⟨_, rfl, ?_⟩; have n0_ := A_.mk (Kd.S_elder' (by (with_reducible repeat (first | apply Kd.S_alloc | apply Kd.S_drewN | apply Kd.S_drew)); exact HO_3.out) (Kd.R_base ho0) hb); have n1_ := A_.mk (Kd.R_lower ho0 (bz_ (beY HB.out))); have n2_ := A_.mk (bt_ (beY HB.out) hb); clear HO_3 HB; have HO_3 := n0_; have HO229 := n1_; have HB := n2_; clear n0_ n1_ n2_; (try clear hb); (try clear hb2); (try clear hk); (try clear hi); (try clear ho0); obtain ⟨Ao11, co11, eo11⟩ := Kd.R_slice HO229.out; subst eo11) | ((with_reducible refine gate_builtin (b := .append) (xs := #[.tmp 13, .tmp 16]) rfl ?_); at_builtin; refine Kd.S_append (Kd.slice 3 (Kd.int .i64)) (w0 := w) w.heap.size rfl (.tmp 13) (.tmp 16) 29 32 (.slice none 0 0) 24 rfl Try.underlying29 info32 rfl (by decide) (by omega) u3 x3_1 t227 [.slice Ao11 t227.length co11] (fun _ => True) (fun k_ => some k_ = (.slice Ao11 t227.length co11 : Value).ownBlock) rfl rfl ?aP (fun k_ hk_ => ((Kd.R_mono (ok' := fun k_ => ((fun _ => True)) k_ ∧ some k_ ≠ (u3 : Value).ownBlock) (Kd.R_apart' (HO229.out) (Kd.S_typed HO_3.out) (by decide)) (fun k_ hk => ⟨trivial, hk.2⟩))).1 k_ hk_.symm) ?aF ?aO ?aB ?aS ?aL ?_; (case aP => exact Kd.M_row (Kd.R_mono (Kd.R_tight rfl (Kd.R_mono (ok' := fun k_ => ((fun _ => True)) k_ ∧ some k_ ≠ (u3 : Value).ownBlock) (Kd.R_apart' (HO229.out) (Kd.S_typed HO_3.out) (by decide)) (fun k_ hk => ⟨trivial, hk.2⟩))) (fun _ h_ => h_))); (case aB => exact (beY HB.out)); (case aF => exact (fun _ _ => trivial)); (case aO => exact (by (with_reducible repeat (first | apply Kd.S_alloc | apply Kd.S_drewN | apply Kd.S_drew)); exact Kd.S_mono HO_3.out (fun k_ hk => ⟨trivial, fun e_ => hk.2 e_⟩))); (case aS => exact (bz_ (beY HB.out))); (case aL => have := LMc8.out; omega); intro v231 w10 ho hb hg hat; rw [← Ny230.out] at ho; have n0_ := A_.mk (hb); have n1_ := A_.mk (ho); clear HB HO_3 HO229; have HB := n0_; have HO232 := n1_; clear n0_ n1_ ho hb hg hat))
   go_roundg k1
   case measure => have := HK1.out; omega
   case rel => exact ⟨(y230), (wrap64 (x9_1 + 1)), (by first | rfl | (simp; done) | (simp [*]; done)), H', ⟨by have := HK1.out; omega⟩, ⟨by (with_reducible repeat (first | apply Kd.S_alloc | apply Kd.S_drewN | apply Kd.S_drew)); exact HO232.out⟩, ⟨beY HB.out⟩⟩
/-! ### impl_copyReceiver: function 27 -/
def impl_copyReceiver.f (k : Nat) (a0_0 : Int) (l0_1 : List (List Int)) : Option (Int × (List (List Int))) := (impl_copyLists.f k l0_1).bind fun t235 => (some (a0_0, t235))
set_option maxHeartbeats 8000000 in
set_option maxRecDepth 100000 in
theorem impl_copyReceiver.calls (k : Nat) (a0_0 : Int) (A0_1 : Option Addr) (c0_1 : Nat) (l0_1 : List (List Int)) (r1 : Int) (r2 : List (List Int)) (w : World) (hr0_1 : Kd.C (Kd.slice 3 (Kd.int .i64)) w A0_1 l0_1.length l0_1) (hc0_1 : l0_1.length ≤ c0_1) (h : impl_copyReceiver.f k a0_0 l0_1 = some (r1, r2)) :
  Calls Try.prog 27 #[.agg #[.int .i64 a0_0, .slice A0_1 l0_1.length c0_1]] w fun e w' => ∃ v1_ : Value, e = .returned (.agg #[.int .i64 r1, v1_]) ∧ Kd.S (Kd.slice 3 (Kd.int .i64)) 32 w' w.heap.size (fun _ => True) v1_ r2 ∧ Below w.heap.size w w' := by
 have hu31 := Try.underlying31
 have HR0_1 := A_.mk hr0_1
 have HC0_1 := A_.mk hc0_1
 clear hr0_1 hc0_1
 have HB := A_.mk (Below.refl w.heap.size w)
 have H : ((impl_copyLists.f k l0_1).bind fun t235 => (some (a0_0, t235))) = some (r1, r2) := h
 clear h
 replace H := ob_ H
 obtain ⟨t235, A20, H⟩ := H
 have A2 := A_.mk A20
 clear A20
 simp only [Option.some.injEq, Prod.mk.injEq] at H
 obtain ⟨rfl, rfl⟩ := H
 go_enter Try.func27, Try.ntmps27
 try go_wp2_with (first | ((with_reducible refine gd_ (N := 1) rfl ?_); refine by_ 1 (cs := #[.int .i64 a0_0, .slice A0_1 l0_1.length c0_1]) (t := 31) ?_; intro gb233 hg w3 hbox hb; have n0_ := A_.mk (bt_ (beY HB.out) hb); have n1_ := A_.mk (hbox); have n2_ := A_.mk ((by rw [hg]; exact (bz_ (beY HB.out)) : w.heap.size ≤ gb233)); have n3_ := A_.mk ((by rw [hg]; exact (bz_ (beY HB.out)) : w.heap.size ≤ gb233)); clear HB; have HB := n0_; have BK233 := n1_; have GW233 := n2_; have GE233 := n3_; clear n0_ n1_ n2_ n3_ hb hbox hg) | ((with_reducible refine gd_ (N := 2) rfl ?_); refine by_ 2 (cs := #[.int .i64 0, .slice none 0 0]) (t := 31) ?_; intro gb234 hg w4 hbox hb; have n0_ := A_.mk (bb_ (bY BK233.out) hb); have n1_ := A_.mk (bt_ (by repeat (first | (with_reducible first | exact HB.out | apply ba_ | apply bd_ | apply be_ | refine bs_ ?_ GE233.out) | exact HB.out)) hb); have n2_ := A_.mk (hbox); have n3_ := A_.mk ((by rw [hg]; exact (bz_ (by repeat (first | (with_reducible first | exact HB.out | apply ba_ | apply bd_ | apply be_ | refine bs_ ?_ GE233.out) | exact HB.out))) : w.heap.size ≤ gb234)); have n4_ := A_.mk ((by rw [hg]; exact (bz_ (by repeat (first | (with_reducible first | exact HB.out | apply ba_ | apply bd_ | apply be_ | refine bs_ ?_ GE233.out) | exact HB.out))) : w.heap.size ≤ gb234)); have n5_ := A_.mk ((by rw [hg]; exact Nat.ne_of_lt (blk_lt (bY BK233.out)) : gb233 ≠ gb234)); have n6_ := A_.mk ((by rw [hg]; exact Nat.ne_of_gt (blk_lt (bY BK233.out)) : gb234 ≠ gb233)); clear BK233 HB; have BK233 := n0_; have HB := n1_; have BK234 := n2_; have GW234 := n3_; have GE234 := n4_; have NB233_234 := n5_; have NB234_233 := n6_; clear n0_ n1_ n2_ n3_ n4_ n5_ n6_ hb hbox hg))
 have n0_ := A_.mk (bw_ BK233.out)
 have n1_ := A_.mk (bw_ BK234.out)
 have n2_ := A_.mk (be_ HB.out)
 clear BK233 BK234 HB
 have BK233 := n0_
 have BK234 := n1_
 have HB := n2_
 clear n0_ n1_ n2_
 refine start_ (n := 7) (S := fun w' => w'.cell? ⟨gb233, 0, none⟩ = some (.int .i64 a0_0) ∧ w'.cell? ⟨gb233, 1, none⟩ = some (.slice A0_1 l0_1.length c0_1)) (ds := []) #[F, F, F, F, F, F, F] (by kernel_rfl) rfl rfl ⟨(bc_ BK233.out 0).trans rfl, (bc_ BK233.out 1).trans rfl⟩ (fun hHeld => ?_)
 generalize w4.drew = w5 at BK233 BK234 HB hHeld ⊢
 refine pd_ (i := 0) (N := some 3) #[T, F, F, F, F, F, F] rfl ?_
 refine pd_ (i := 2) (N := some 5) #[T, F, T, F, F, F, F] rfl ?_
 refine tl_ (i := 1) (N := some 4) #[T, T, T, F, F, F, F] rfl hHeld ?_
 refine tl_ (i := 3) (N := some 6) #[T, T, T, T, F, F, F] rfl hHeld ?_
 refine on_ (i := 4) (N := some 7) #[T, T, T, T, T, F, F] rfl (fun K hK => ?_)
 refine gz_ Try.func28 #[.slice A0_1 l0_1.length c0_1] ?_
 with_reducible refine (impl_copyLists.calls k _ _ l0_1 t235 _ ?side1 ?side2 A2.out).mono ?_
 (case side1 => exact cY ((Kd.C_below HR0_1.out HB.out)))
 (case side2 => exact HC0_1.out)
 rintro e w6 ⟨v236, rfl, ho0, hb⟩
 refine ⟨_, rfl, ?_⟩
 have n0_ := A_.mk (Kd.S_lower ho0 (bz_ (by repeat (first | (with_reducible first | exact HB.out | apply ba_ | apply bd_ | apply be_ | refine bs_ ?_ GE233.out | refine bs_ ?_ GE234.out) | exact HB.out))))
 have n1_ := A_.mk (bb_ (bY BK233.out) hb)
 have n2_ := A_.mk (bb_ (bY BK234.out) hb)
 have n3_ := A_.mk (bt_ (by repeat (first | (with_reducible first | exact HB.out | apply ba_ | apply bd_ | apply be_ | refine bs_ ?_ GE233.out | refine bs_ ?_ GE234.out) | exact HB.out)) hb)
 clear BK233 BK234 HB
 have HO237 := n0_
 have BK233 := n1_
 have BK234 := n2_
 have HB := n3_
 clear n0_ n1_ n2_ n3_
 obtain ⟨Ao7, co7, eo7⟩ := Kd.S_slice HO237.out
 (first | subst eo7 | (injection eo7 with f1_ f2_ f3_; have f4_ := f1_.symm; have f5_ := f3_.symm; clear f1_ f2_ f3_; subst f4_; subst f5_))
 refine hK.out _ _ ⟨(bc_ BK233.out 0).trans rfl, (bc_ BK233.out 1).trans rfl⟩ (fun hHeld => ?_)
 clear hK K
 refine nm_ ?_
 refine pd_ (i := 5) (N := some 8) #[T, T, T, T, T, T, F] rfl ?_
 refine on_ (i := 6) (N := none) #[T, T, T, T, T, T, T] rfl (fun K hK => ?_)
 have hs8 : w6.cell? ⟨gb234, 0, none⟩ = some (.int .i64 0) := (bc_ BK234.out 0).trans rfl
 have hfs8 := bf_ BK234.out 0
 have hns8_0 := NB233_234.out
 have hms8_0 := NB234_233.out
 have hs9 : w6.cell? ⟨gb234, 1, none⟩ = some (.slice none 0 0) := (bc_ BK234.out 1).trans rfl
 have hfs9 := bf_ BK234.out 1
 have hns9_0 := NB233_234.out
 have hms9_0 := NB234_233.out
 refine skip_ (w1 := ?_) (by rfl) rfl ?_ ?_
 rotate_left
 ·go_simp
  rfl
 refine hK.out _ _ ⟨((cell_far (p := ⟨gb234, _, none⟩) NB233_234.out _).trans (((cell_far (p := ⟨gb234, _, none⟩) NB233_234.out _).trans (hHeld.1)))), ((cell_far (p := ⟨gb234, _, none⟩) NB233_234.out _).trans (((cell_far (p := ⟨gb234, _, none⟩) NB233_234.out _).trans (hHeld.2))))⟩ (fun hHeld => ?_)
 clear hK K
 refine done_ (by kernel_rfl) ?_
 try go_wp2
 refine bodyPost_ret (results_cell_row rfl _ _ gb234 31 #[.int .i64 a0_0, .slice Ao7 t235.length co7] (0, 0) _ rfl (by (repeat apply bX); refine bp_ (cs := #[.int .i64 a0_0, .slice none 0 0]) ?_ 1 _ rfl; (repeat apply bX); refine bp_ (cs := #[.int .i64 0, .slice none 0 0]) ?_ 0 _ rfl; (repeat apply bX); exact BK234.out) Try.underlying31 rfl (by kernel_rfl)) rfl ?_
 exact ⟨_, by first | rfl | (simp [errW_none, errW_some] <;> rfl) | (simp [*, errW_none, errW_some] <;> rfl), by (with_reducible repeat (first | apply Kd.S_alloc | apply Kd.S_drewN | apply Kd.S_drew)); exact Kd.S_mono (Kd.S_far (p := ⟨gb234, 1, none⟩) (Kd.S_far (p := ⟨gb234, 0, none⟩) (Kd.S_types HO237.out BK234.out (by decide)) (fun _ hk => hk.2) (.int .i64 a0_0)) (fun _ hk => hk.2) (.slice Ao7 t235.length co7)) (fun _ hk => trivial), by repeat (first | (with_reducible first | exact HB.out | apply ba_ | apply bd_ | apply be_ | refine bs_ ?_ GE233.out | refine bs_ ?_ GE234.out) | exact HB.out)⟩
theorem calls_cast {P : Program} {n : Nat} {a b : Array Value} {w : World} {Q : Ending → World → Prop} (h : a = b) (hc : Calls P n a w Q) : Calls P n b w Q := h ▸ hc
theorem Kept.of_set {W W' : World} {g : Nat} (h : Kept W W' (fun k_ => k_ = g)) (j : Nat) (u : Value) : Kept W (W'.setCell ⟨g, j, none⟩ u) (fun k_ => k_ = g) := h.setCell (.inl rfl) u
theorem blk1_ {W : World} {g t : Nat} {a0 : Value} (h : W.heap[g]? = some (.cells #[a0] t (0, 0))) : W.cell? ⟨g, 0, none⟩ = some a0 := (bc_ h 0).trans rfl
theorem blk2_ {W : World} {g t : Nat} {a0 a1 : Value} (h : W.heap[g]? = some (.cells #[a0, a1] t (0, 0))) : W.cell? ⟨g, 0, none⟩ = some a0 ∧ W.cell? ⟨g, 1, none⟩ = some a1 :=
 ⟨(bc_ h 0).trans rfl, (bc_ h 1).trans rfl⟩
theorem blk3_ {W : World} {g t : Nat} {a0 a1 a2 : Value} (h : W.heap[g]? = some (.cells #[a0, a1, a2] t (0, 0))) : W.cell? ⟨g, 0, none⟩ = some a0 ∧ W.cell? ⟨g, 1, none⟩ = some a1 ∧ W.cell? ⟨g, 2, none⟩ = some a2 :=
 ⟨(bc_ h 0).trans rfl, (bc_ h 1).trans rfl, (bc_ h 2).trans rfl⟩
theorem blk7_ {W : World} {g t : Nat} {a0 a1 a2 a3 a4 a5 a6 : Value} (h : W.heap[g]? = some (.cells #[a0, a1, a2, a3, a4, a5, a6] t (0, 0))) : W.cell? ⟨g, 0, none⟩ = some a0 ∧ W.cell? ⟨g, 1, none⟩ = some a1 ∧ W.cell? ⟨g, 2, none⟩ = some a2 ∧ W.cell? ⟨g, 3, none⟩ = some a3 ∧ W.cell? ⟨g, 4, none⟩ = some a4 ∧ W.cell? ⟨g, 5, none⟩ = some a5 ∧ W.cell? ⟨g, 6, none⟩ = some a6 :=
 ⟨(bc_ h 0).trans rfl, (bc_ h 1).trans rfl, (bc_ h 2).trans rfl, (bc_ h 3).trans rfl, (bc_ h 4).trans rfl, (bc_ h 5).trans rfl, (bc_ h 6).trans rfl⟩
abbrev ch2_ (W : World) (g : Nat) (v0 v1 : Value) : World := ((W.setCell ⟨g, 0, none⟩ v0).setCell ⟨g, 1, none⟩ v1)
theorem st2_ {w W W' : World} {g : Nat} {t : TypeId} {a0 a1 v0 v1 : Value} (hw : W' = ch2_ W g v0 v1) (h : A_ (W.heap[g]? = some (.cells #[a0, a1] t (0, 0)))) (hb : A_ (Below w.heap.size w W)) (hge : w.heap.size ≤ g) :
  W'.heap[g]? = some (.cells #[v0, v1] t (0, 0)) ∧ Kept W W' (fun k_ => k_ = g) ∧ Below w.heap.size w W' := by
 subst hw
 exact ⟨(bp_ (cs := #[v0, a1]) (bp_ (cs := #[a0, a1]) h.out 0 _ rfl) 1 _ rfl), (Kept.of_set (Kept.of_set (Kept.refl _ _) 0 _) 1 _), (bs_ (bs_ hb.out hge) hge)⟩
abbrev ch3_ (W : World) (g : Nat) (v0 v1 v2 : Value) : World := (((W.setCell ⟨g, 0, none⟩ v0).setCell ⟨g, 1, none⟩ v1).setCell ⟨g, 2, none⟩ v2)
theorem st3_ {w W W' : World} {g : Nat} {t : TypeId} {a0 a1 a2 v0 v1 v2 : Value} (hw : W' = ch3_ W g v0 v1 v2) (h : A_ (W.heap[g]? = some (.cells #[a0, a1, a2] t (0, 0)))) (hb : A_ (Below w.heap.size w W)) (hge : w.heap.size ≤ g) :
  W'.heap[g]? = some (.cells #[v0, v1, v2] t (0, 0)) ∧ Kept W W' (fun k_ => k_ = g) ∧ Below w.heap.size w W' := by
 subst hw
 exact ⟨(bp_ (cs := #[v0, v1, a2]) (bp_ (cs := #[v0, a1, a2]) (bp_ (cs := #[a0, a1, a2]) h.out 0 _ rfl) 1 _ rfl) 2 _ rfl), (Kept.of_set (Kept.of_set (Kept.of_set (Kept.refl _ _) 0 _) 1 _) 2 _), (bs_ (bs_ (bs_ hb.out hge) hge) hge)⟩
abbrev ch7_ (W : World) (g : Nat) (v0 v1 v2 v3 v4 v5 v6 : Value) : World := (((((((W.setCell ⟨g, 0, none⟩ v0).setCell ⟨g, 1, none⟩ v1).setCell ⟨g, 2, none⟩ v2).setCell ⟨g, 3, none⟩ v3).setCell ⟨g, 4, none⟩ v4).setCell ⟨g, 5, none⟩ v5).setCell ⟨g, 6, none⟩ v6)
theorem st7_ {w W W' : World} {g : Nat} {t : TypeId} {a0 a1 a2 a3 a4 a5 a6 v0 v1 v2 v3 v4 v5 v6 : Value} (hw : W' = ch7_ W g v0 v1 v2 v3 v4 v5 v6) (h : A_ (W.heap[g]? = some (.cells #[a0, a1, a2, a3, a4, a5, a6] t (0, 0)))) (hb : A_ (Below w.heap.size w W)) (hge : w.heap.size ≤ g) :
  W'.heap[g]? = some (.cells #[v0, v1, v2, v3, v4, v5, v6] t (0, 0)) ∧ Kept W W' (fun k_ => k_ = g) ∧ Below w.heap.size w W' := by
 subst hw
 exact ⟨(bp_ (cs := #[v0, v1, v2, v3, v4, v5, a6]) (bp_ (cs := #[v0, v1, v2, v3, v4, a5, a6]) (bp_ (cs := #[v0, v1, v2, v3, a4, a5, a6]) (bp_ (cs := #[v0, v1, v2, a3, a4, a5, a6]) (bp_ (cs := #[v0, v1, a2, a3, a4, a5, a6]) (bp_ (cs := #[v0, a1, a2, a3, a4, a5, a6]) (bp_ (cs := #[a0, a1, a2, a3, a4, a5, a6]) h.out 0 _ rfl) 1 _ rfl) 2 _ rfl) 3 _ rfl) 4 _ rfl) 5 _ rfl) 6 _ rfl), (Kept.of_set (Kept.of_set (Kept.of_set (Kept.of_set (Kept.of_set (Kept.of_set (Kept.of_set (Kept.refl _ _) 0 _) 1 _) 2 _) 3 _) 4 _) 5 _) 6 _), (bs_ (bs_ (bs_ (bs_ (bs_ (bs_ (bs_ hb.out hge) hge) hge) hge) hge) hge) hge)⟩
section
variable {α : Type} {d : Kd α} {e base j : Nat} {ok S : Nat → Prop} {W W2 w : World} {v : Value} {xs : List α} {p : Prop} {f : Nat → Nat}
theorem aRk (h : A_ (Kd.R d e W base ok v xs)) (hk : Kept W W2 S) (hs : A_ p) (hn : p → ∀ k, ok k → ¬ S k := by intro h1_ k_ h2_ h3_; first | omega | (subst h3_; omega)) : A_ (Kd.R d e W2 base ok v xs) := ⟨Kd.R_kept h.out hk (hn hs.out)⟩
theorem aRb (h : A_ (Kd.R d e W base ok v xs)) (hb : Below W.heap.size W W2) : A_ (Kd.R d e W2 base ok v xs) := ⟨Kd.R_below h.out hb⟩
theorem aSk (h : A_ (Kd.S d e W base ok v xs)) (hk : Kept W W2 S) (hs : A_ p) (hn : p → ∀ k, ok k → ¬ S k := by intro h1_ k_ h2_ h3_; first | omega | (subst h3_; omega)) : A_ (Kd.S d e W2 base ok v xs) := ⟨Kd.S_kept h.out hk (hn hs.out)⟩
theorem aSb (h : A_ (Kd.S d e W base ok v xs)) (hb : Below W.heap.size W W2) : A_ (Kd.S d e W2 base ok v xs) := ⟨Kd.S_below h.out hb⟩
theorem aRn (h : Kd.R d e W2 W.heap.size (fun k => f k = j) v xs) (hB : base ≤ W.heap.size) : A_ (Kd.R d e W2 base (fun k_ => (W.heap.size ≤ k_ ∧ k_ < W2.heap.size) ∧ f k_ = j) v xs) := ⟨Kd.R_lower (Kd.R_mono (Kd.R_bound h) (fun k_ hk_ => ⟨⟨hk_.2.1, hk_.2.2.1⟩, hk_.1⟩)) hB⟩
theorem aRm (h : Kd.R d e W2 W.heap.size ok v xs) (hB : base ≤ W.heap.size) : A_ (Kd.R d e W2 base (fun k_ => (W.heap.size ≤ k_ ∧ k_ < W2.heap.size)) v xs) := ⟨Kd.R_lower (Kd.R_mono (Kd.R_bound h) (fun k_ hk_ => ⟨hk_.2.1, hk_.2.2.1⟩)) hB⟩
theorem aSn (h : Kd.S d e W2 W.heap.size (fun k => f k = j) v xs) (hB : base ≤ W.heap.size) : A_ (Kd.S d e W2 base (fun k_ => (W.heap.size ≤ k_ ∧ k_ < W2.heap.size) ∧ f k_ = j) v xs) := ⟨Kd.S_lower (Kd.S_mono (Kd.S_bound h) (fun k_ hk_ => ⟨⟨hk_.2.1, hk_.2.2.1⟩, hk_.1⟩)) hB⟩
theorem aSm (h : Kd.S d e W2 W.heap.size ok v xs) (hB : base ≤ W.heap.size) : A_ (Kd.S d e W2 base (fun k_ => (W.heap.size ≤ k_ ∧ k_ < W2.heap.size)) v xs) := ⟨Kd.S_lower (Kd.S_mono (Kd.S_bound h) (fun k_ hk_ => ⟨hk_.2.1, hk_.2.2.1⟩)) hB⟩
theorem aBk {g : Nat} {o : Obj} (h : A_ (W.heap[g]? = some o)) (hk : Kept W W2 S) (hs : A_ p) (hn : p → ¬ S g := by intro h1_ h2_; omega) : A_ (W2.heap[g]? = some o) := ⟨(hk.2 _ (blk_lt h.out) (hn hs.out)).trans h.out⟩
theorem aBb {g : Nat} {o : Obj} (h : A_ (W.heap[g]? = some o)) (hb : Below W.heap.size W W2) : A_ (W2.heap[g]? = some o) := ⟨bb_ h.out hb⟩
theorem aHs {q : Prop} (h : A_ p) (hq : q) : A_ (p ∧ q) := ⟨⟨h.out, hq⟩⟩
theorem aHB (h : A_ (Below w.heap.size w W)) (hb : Below W.heap.size W W2) : A_ (Below w.heap.size w W2) := ⟨below_then h.out h.out.size hb⟩
end
/-! ### impl_copyLink: function 12, its calls in a row -/
def impl_copyLink.f (k : Nat) (a0_0 : Int) (l0_1 : List (S66)) (a0_2 : Int) (a0_3 : Int) (l0_4 : List (List Int)) (l0_5 : List (List Int)) (l0_6 : List Int) : Option ((Int) × (List (S66)) × (Int) × (Int) × (List (List Int)) × (List (List Int)) × (List Int)) := ((impl_copySender.f k a0_0 l0_1 a0_2).bind fun ⟨t1, t2, t3⟩ => ((impl_copyReceiver.f k a0_3 l0_4).bind fun ⟨t4, t5⟩ => ((impl_copyLists.f k l0_5).bind fun t6 => ((slices_Clone_int_int.f l0_6).bind fun t7 => (some (t1, t2, t3, t4, t5, t6, t7))))))
set_option maxHeartbeats 8000000 in
set_option maxRecDepth 100000 in
theorem impl_copyLink.calls (k : Nat) (a0_0 : Int) (A0_1 : Option Addr) (c0_1 : Nat) (l0_1 : List (S66)) (a0_2 : Int) (a0_3 : Int) (A0_4 : Option Addr) (c0_4 : Nat) (l0_4 : List (List Int)) (A0_5 : Option Addr) (c0_5 : Nat) (l0_5 : List (List Int)) (A0_6 : Option Addr) (c0_6 : Nat) (l0_6 : List Int) (r1 : Int) (r2 : List (S66)) (r3 : Int) (r4 : Int) (r5 : List (List Int)) (r6 : List (List Int)) (r7 : List Int) (w : World) (hr0_1 : Kd.C k66 w A0_1 l0_1.length l0_1) (hc0_1 : l0_1.length ≤ c0_1) (hr0_4 : Kd.C (Kd.slice 3 (Kd.int .i64)) w A0_4 l0_4.length l0_4) (hc0_4 : l0_4.length ≤ c0_4) (hr0_5 : Kd.C (Kd.slice 3 (Kd.int .i64)) w A0_5 l0_5.length l0_5) (hc0_5 : l0_5.length ≤ c0_5) (hr0_6 : Kd.C (Kd.int .i64) w A0_6 l0_6.length l0_6) (hc0_6 : l0_6.length ≤ c0_6) (h : impl_copyLink.f k a0_0 l0_1 a0_2 a0_3 l0_4 l0_5 l0_6 = some (r1, r2, r3, r4, r5, r6, r7)) :
  Calls Try.prog 12 #[.agg #[.int .i64 a0_0, .slice A0_1 l0_1.length c0_1, .int .i64 a0_2, .int .i64 a0_3, .slice A0_4 l0_4.length c0_4, .slice A0_5 l0_5.length c0_5, .slice A0_6 l0_6.length c0_6]] w fun e w' => ∃ f_ : Nat → Nat, ∃ v0_ v1_ v2_ v3_ : Value, e = .returned (.agg #[.int .i64 r1, v0_, .int .i64 r3, .int .i64 r4, v1_, v2_, v3_]) ∧ Kd.S k66 66 w' w.heap.size (fun k_ => f_ k_ = 0) v0_ r2 ∧ Kd.S (Kd.slice 3 (Kd.int .i64)) 32 w' w.heap.size (fun k_ => f_ k_ = 1) v1_ r5 ∧ Kd.S (Kd.slice 3 (Kd.int .i64)) 32 w' w.heap.size (fun k_ => f_ k_ = 2) v2_ r6 ∧ Kd.R (Kd.int .i64) 3 w' w.heap.size (fun k_ => f_ k_ = 3) v3_ r7 ∧ Below w.heap.size w w' := by
 have HR0_1 := A_.mk hr0_1
 have HC0_1 := A_.mk hc0_1
 clear hr0_1 hc0_1
 have HR0_4 := A_.mk hr0_4
 have HC0_4 := A_.mk hc0_4
 clear hr0_4 hc0_4
 have HR0_5 := A_.mk hr0_5
 have HC0_5 := A_.mk hc0_5
 clear hr0_5 hc0_5
 have HR0_6 := A_.mk hr0_6
 have HC0_6 := A_.mk hc0_6
 clear hr0_6 hc0_6
 have HB := A_.mk (Below.refl w.heap.size w)
 unfold impl_copyLink.f at h
 have H := h
 clear h
 replace H := oa_ H
 obtain ⟨⟨t1, t2, t3⟩, A3, H⟩ := H
 try dsimp only at H
 replace H := oa_ H
 obtain ⟨⟨t4, t5⟩, A4, H⟩ := H
 try dsimp only at H
 replace H := oa_ H
 obtain ⟨t6, A5, H⟩ := H
 replace H := oa_ H
 obtain ⟨t7, A6, H⟩ := H
 simp only [Option.some.injEq, Prod.mk.injEq] at H
 obtain ⟨rfl, rfl, rfl, rfl, rfl, rfl, rfl⟩ := H
 have hu34 := Try.underlying34
 go_enter Try.func12, Try.ntmps12
 have HS := A_.mk (Nat.le_refl w.heap.size)
 go_wp2_with (first | ((with_reducible refine gd_ (N := 1) rfl ?_); refine by_ 1 (cs := #[.int .i64 a0_0, .slice A0_1 l0_1.length c0_1, .int .i64 a0_2, .int .i64 a0_3, .slice A0_4 l0_4.length c0_4, .slice A0_5 l0_5.length c0_5, .slice A0_6 l0_6.length c0_6]) (t := 34) ?_; intro gb1_ hg w1_ hbox hb; replace HS := A_.mk (And.intro HS.out (show gb1_ = w.heap.size ∧ gb1_ < w1_.heap.size from ⟨hg, blk_lt hbox⟩)); replace HB := aHB HB hb; have BK1 := A_.mk hbox; clear hbox hb hg; have Q1 := blk7_ BK1.out) | ((with_reducible refine gd_ (N := 2) rfl ?_); refine by_ 2 (cs := #[.int .i64 0, .slice none 0 0, .int .i64 0, .int .i64 0, .slice none 0 0, .slice none 0 0, .slice none 0 0]) (t := 34) ?_; intro gb2_ hg w2_ hbox hb; replace HS := A_.mk (And.intro HS.out (show gb2_ = w1_.heap.size ∧ gb2_ < w2_.heap.size from ⟨hg, blk_lt hbox⟩)); replace BK1 := aBb BK1 hb; replace HB := aHB HB hb; have BK2 := A_.mk hbox; clear hbox hb hg Q1; have Q1 := blk7_ BK1.out; have Q2 := blk7_ BK2.out))
 refine start_ (n := 14) (S := fun w' => (w'.cell? ⟨gb1_, 0, none⟩ = some (.int .i64 a0_0) ∧ w'.cell? ⟨gb1_, 1, none⟩ = some (.slice A0_1 l0_1.length c0_1) ∧ w'.cell? ⟨gb1_, 2, none⟩ = some (.int .i64 a0_2) ∧ w'.cell? ⟨gb1_, 3, none⟩ = some (.int .i64 a0_3) ∧ w'.cell? ⟨gb1_, 4, none⟩ = some (.slice A0_4 l0_4.length c0_4) ∧ w'.cell? ⟨gb1_, 5, none⟩ = some (.slice A0_5 l0_5.length c0_5) ∧ w'.cell? ⟨gb1_, 6, none⟩ = some (.slice A0_6 l0_6.length c0_6))) (ds := [13]) #[F, F, F, F, F, F, F, F, F, F, F, F, F, F] (by kernel_rfl) rfl rfl (blk7_ BK1.out) (fun hHeld => ?_)
 clear Q1 Q2
 have hb := below_drew (Below.refl w2_.heap.size w2_)
 replace HS := aHs HS hb.size
 replace BK1 := aBb BK1 hb
 replace BK2 := aBb BK2 hb
 replace HB := aHB HB hb
 clear hb
 generalize w2_.drew = w8d_ at BK1 BK2 HB HS hHeld ⊢
 refine pd_ (i := 0) (N := some 3) #[T, F, F, F, F, F, F, F, F, F, F, F, F, F] rfl ?_
 refine tl_ (i := 1) (N := some 4) #[T, T, F, F, F, F, F, F, F, F, F, F, F, F] rfl hHeld ?_
 refine pd_ (i := 3) (N := some 6) #[T, T, F, T, F, F, F, F, F, F, F, F, F, F] rfl ?_
 refine tl_ (i := 4) (N := some 7) #[T, T, F, T, T, F, F, F, F, F, F, F, F, F] rfl hHeld ?_
 refine pd_ (i := 6) (N := some 9) #[T, T, F, T, T, F, T, F, F, F, F, F, F, F] rfl ?_
 refine tl_ (i := 7) (N := some 10) #[T, T, F, T, T, F, T, T, F, F, F, F, F, F] rfl hHeld ?_
 refine pd_ (i := 9) (N := some 12) #[T, T, F, T, T, F, T, T, F, T, F, F, F, F] rfl ?_
 refine tl_ (i := 10) (N := some 13) #[T, T, F, T, T, F, T, T, F, T, T, F, F, F] rfl hHeld ?_
 refine on_ (i := 2) (N := some 5) #[T, T, T, T, T, F, T, T, F, T, T, F, F, F] rfl (fun K hK => ?_)
 refine gz_ Try.func26 #[.agg #[.int .i64 a0_0, .slice A0_1 l0_1.length c0_1, .int .i64 a0_2]] ?_
 with_reducible refine (impl_copySender.calls k a0_0 _ _ l0_1 a0_2 t1 t2 t3 _ (Kd.C_below HR0_1.out HB.out) HC0_1.out A3.out).mono ?_
 rintro e w3_ ⟨v1_, rfl, ho0_, hb⟩
 refine ⟨_, rfl, ?_⟩
 replace HS := aHs HS hb.size
 obtain ⟨Ao3_1, co3_1, ev_⟩ := Kd.S_slice ho0_
 subst ev_
 have HO3_1 := aSm ho0_ HB.out.size
 replace BK1 := aBb BK1 hb
 replace BK2 := aBb BK2 hb
 replace HB := aHB HB hb
 clear hb ho0_
 refine hK.out _ _ (blk7_ BK1.out) (fun hHeld => ?_)
 clear hK K
 refine nm_ ?_
 refine on_ (i := 5) (N := some 8) #[T, T, T, T, T, T, T, T, F, T, T, F, F, F] rfl (fun K hK => ?_)
 refine gz_ Try.func27 #[.agg #[.int .i64 a0_3, .slice A0_4 l0_4.length c0_4]] ?_
 with_reducible refine (impl_copyReceiver.calls k a0_3 _ _ l0_4 t4 t5 _ (Kd.C_below HR0_4.out HB.out) HC0_4.out A4.out).mono ?_
 rintro e w4_ ⟨v1_, rfl, ho0_, hb⟩
 refine ⟨_, rfl, ?_⟩
 replace HS := aHs HS hb.size
 obtain ⟨Ao4_1, co4_1, ev_⟩ := Kd.S_slice ho0_
 subst ev_
 have HO4_1 := aSm ho0_ HB.out.size
 replace HO3_1 := aSb HO3_1 hb
 replace BK1 := aBb BK1 hb
 replace BK2 := aBb BK2 hb
 replace HB := aHB HB hb
 clear hb ho0_
 refine hK.out _ _ (blk7_ BK1.out) (fun hHeld => ?_)
 clear hK K
 refine nm_ ?_
 refine on_ (i := 8) (N := some 11) #[T, T, T, T, T, T, T, T, T, T, T, F, F, F] rfl (fun K hK => ?_)
 refine gz_ Try.func28 #[.slice A0_5 l0_5.length c0_5] ?_
 with_reducible refine (impl_copyLists.calls k _ _ l0_5 t6 _ (Kd.C_below HR0_5.out HB.out) HC0_5.out A5.out).mono ?_
 rintro e w5_ ⟨v0_, rfl, ho0_, hb⟩
 refine ⟨_, rfl, ?_⟩
 replace HS := aHs HS hb.size
 obtain ⟨Ao5_0, co5_0, ev_⟩ := Kd.S_slice ho0_
 subst ev_
 have HO5_0 := aSm ho0_ HB.out.size
 replace HO3_1 := aSb HO3_1 hb
 replace HO4_1 := aSb HO4_1 hb
 replace BK1 := aBb BK1 hb
 replace BK2 := aBb BK2 hb
 replace HB := aHB HB hb
 clear hb ho0_
 refine hK.out _ _ (blk7_ BK1.out) (fun hHeld => ?_)
 clear hK K
 refine nm_ ?_
 refine on_ (i := 11) (N := some 14) #[T, T, T, T, T, T, T, T, T, T, T, T, F, F] rfl (fun K hK => ?_)
 refine gz_ Try.func29 #[.slice A0_6 l0_6.length c0_6] ?_
 with_reducible refine (slices_Clone_int_int.calls _ _ l0_6 t7 _ (Kd.C_below HR0_6.out HB.out) HC0_6.out A6.out).mono ?_
 rintro e w6_ ⟨v0_, rfl, ho0_, hb⟩
 refine ⟨_, rfl, ?_⟩
 replace HS := aHs HS hb.size
 obtain ⟨Ao6_0, co6_0, ev_⟩ := Kd.R_slice ho0_
 subst ev_
 have HO6_0 := aRm ho0_ HB.out.size
 replace HO3_1 := aSb HO3_1 hb
 replace HO4_1 := aSb HO4_1 hb
 replace HO5_0 := aSb HO5_0 hb
 replace BK1 := aBb BK1 hb
 replace BK2 := aBb BK2 hb
 replace HB := aHB HB hb
 clear hb ho0_
 refine hK.out _ _ (blk7_ BK1.out) (fun hHeld => ?_)
 clear hK K
 refine nm_ ?_
 refine pd_ (i := 12) (N := some 15) #[T, T, T, T, T, T, T, T, T, T, T, T, T, F] rfl ?_
 refine last_ (i := 13) (N := none) #[T, T, T, T, T, T, T, T, T, T, T, T, T, T] rfl rfl (by kernel_rfl) (by decide) (fun K hK => ?_)
 have Q1 := blk7_ BK1.out
 have Q2 := blk7_ BK2.out
 have qf0 := bf_ BK2.out 0; have qf1 := bf_ BK2.out 1; have qf2 := bf_ BK2.out 2; have qf3 := bf_ BK2.out 3; have qf4 := bf_ BK2.out 4; have qf5 := bf_ BK2.out 5; have qf6 := bf_ BK2.out 6
 obtain ⟨w7_, hw⟩ : ∃ q_ : World, q_ = (ch7_ w6_ gb2_ (.int .i64 t1) (.slice Ao3_1 t2.length co3_1) (.int .i64 t3) (.int .i64 t4) (.slice Ao4_1 t5.length co4_1) (.slice Ao5_0 t6.length co5_0) (.slice Ao6_0 t7.length co6_0)) := ⟨_, rfl⟩
 refine skip_ (w1 := w7_) (by rfl) rfl ?_ ?_
 ·rw [hw]; go_simp; try rfl
 refine hK.out _ _ ?_
 clear hK K qf0 qf1 qf2 qf3 qf4 qf5 qf6 Q1 Q2
 obtain ⟨hbx, hkp, hbb⟩ := st7_ hw BK2 HB (by have := HS.out; omega)
 clear hw
 replace HO3_1 := aSk HO3_1 hkp HS
 replace HO4_1 := aSk HO4_1 hkp HS
 replace HO5_0 := aSk HO5_0 hkp HS
 replace HO6_0 := aRk HO6_0 hkp HS
 replace BK1 := aBk BK1 hkp HS
 replace BK2 := A_.mk hbx
 replace HB := A_.mk hbb
 replace HS := aHs HS hkp.1
 clear hkp hbb hbx
 refine done_ (by kernel_rfl) ?_
 have Q1 := blk7_ BK1.out
 have Q2 := blk7_ BK2.out
 go_wp2
 refine bodyPost_ret (results_cell_row rfl _ _ gb2_ 34 #[.int .i64 t1, .slice Ao3_1 t2.length co3_1, .int .i64 t3, .int .i64 t4, .slice Ao4_1 t5.length co4_1, .slice Ao5_0 t6.length co5_0, .slice Ao6_0 t7.length co6_0] (0, 0) _ rfl BK2.out Try.underlying34 rfl (by kernel_rfl)) rfl ?_
 obtain ⟨f_, hf_⟩ : ∃ f_ : Nat → Nat, ∀ k_, f_ k_ = (if ((w8d_.heap.size ≤ k_ ∧ k_ < w3_.heap.size)) then 0 else (if ((w3_.heap.size ≤ k_ ∧ k_ < w4_.heap.size)) then 1 else (if ((w4_.heap.size ≤ k_ ∧ k_ < w5_.heap.size)) then 2 else (if ((w5_.heap.size ≤ k_ ∧ k_ < w6_.heap.size)) then 3 else 0)))) := ⟨fun k_ => (if ((w8d_.heap.size ≤ k_ ∧ k_ < w3_.heap.size)) then 0 else (if ((w3_.heap.size ≤ k_ ∧ k_ < w4_.heap.size)) then 1 else (if ((w4_.heap.size ≤ k_ ∧ k_ < w5_.heap.size)) then 2 else (if ((w5_.heap.size ≤ k_ ∧ k_ < w6_.heap.size)) then 3 else 0)))), fun _ => rfl⟩
 have hcol0_ : ∀ k_, (((w8d_.heap.size ≤ k_ ∧ k_ < w3_.heap.size))) → f_ k_ = 0 := fun k_ hk_ => by rw [hf_]; have := HS.out; repeat' (first | omega | split)
 have hcol1_ : ∀ k_, (((w3_.heap.size ≤ k_ ∧ k_ < w4_.heap.size))) → f_ k_ = 1 := fun k_ hk_ => by rw [hf_]; have := HS.out; repeat' (first | omega | split)
 have hcol2_ : ∀ k_, (((w4_.heap.size ≤ k_ ∧ k_ < w5_.heap.size))) → f_ k_ = 2 := fun k_ hk_ => by rw [hf_]; have := HS.out; repeat' (first | omega | split)
 have hcol3_ : ∀ k_, (((w5_.heap.size ≤ k_ ∧ k_ < w6_.heap.size))) → f_ k_ = 3 := fun k_ hk_ => by rw [hf_]; have := HS.out; repeat' (first | omega | split)
 exact ⟨f_, _, _, _, _, rfl, Kd.S_mono HO3_1.out hcol0_, Kd.S_mono HO4_1.out hcol1_, Kd.S_mono HO5_0.out hcol2_, Kd.R_mono HO6_0.out hcol3_, HB.out⟩
end Go.Proofs.Ytmdehehgmnihpaa.PFnLinkSteps
