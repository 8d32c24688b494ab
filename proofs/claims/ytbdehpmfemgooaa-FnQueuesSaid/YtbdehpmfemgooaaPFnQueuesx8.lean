-- Written by a program of this session (wip/xp): not trusted, Lean checks it.
import Derived.Test.YtbdehpmfemgooaaPFnQueuesx0
import Derived.Test.YtbdehpmfemgooaaPFnQueuesx1
import Derived.Test.YtbdehpmfemgooaaPFnQueuesx6
import Derived.Test.YtbdehpmfemgooaaPFnQueuesx7
namespace Go.Proofs.Ytbdehpmfemgooaa.PFnQueues
open Go.RowKit Go.Proofs.YtbdehpmfemgooaaW.PrintWords Go.Proofs.YtbdehpmfemgooaaW.PrintLast Go.Proofs.YtbdehpmfemgooaaW.PrintMore
attribute [local go_sem] max2_int min2_int max_two min_two max_three min_three max_four min_four   -- for this text's walks alone
set_option linter.unusedVariables false
set_option linter.unusedSimpArgs false

/-! ### spec_l16Queue: function 53 -/
def spec_l16Queue.l0 : Nat → List (S60) → Int → List Int → Int → Int → Option ((List (S60)) × Int × Int)
 | 0, _, _, _, _, _ => none
 | k + 1, x3, x4, x1000, x1001, x1002 => (spec_l01Below.f x1000 x1001 x1002 7).bind fun bt279 => (if x4 < bt279.1 then ((spec_l04Packet.f k x1000 bt279.2.1 bt279.2.2).bind fun bt282 => (if bt282.1 = 6 then ((spec_l01Below.f x1000 bt282.2.2.2.2.2.2.2.2.1 bt282.2.2.2.2.2.2.2.2.2 2).bind fun bt295 => (if x3.length < 1759218604441 then (spec_l16Queue.l0 k (x3 ++ [(⟨bt282.1, bt282.2.1, 16, bt282.2.2.2.1, bt282.2.2.2.2.1, bt295.1, bt282.2.2.2.2.2.2.1, bt282.2.2.2.2.2.2.2.1⟩ : S60)]) (wrap64 (x4 + 1)) x1000 bt295.2.1 bt295.2.2) else (none))) else (if x3.length < 1759218604441 then (spec_l16Queue.l0 k (x3 ++ [(⟨bt282.1, bt282.2.1, bt282.2.2.1, bt282.2.2.2.1, bt282.2.2.2.2.1, bt282.2.2.2.2.2.1, bt282.2.2.2.2.2.2.1, bt282.2.2.2.2.2.2.2.1⟩ : S60)]) (wrap64 (x4 + 1)) x1000 bt282.2.2.2.2.2.2.2.2.1 bt282.2.2.2.2.2.2.2.2.2) else (none)))) else (some (x3, bt279.2.1, bt279.2.2)))
def spec_l16Queue.f (k : Nat) (s0_0 : List Int) (s0_1 : Int) (s0_2 : Int) : Option ((List (S60)) × Int × Int) := spec_l16Queue.l0 k (([] : List (S60))) 0 s0_0 s0_1 s0_2
set_option maxHeartbeats 8000000 in
set_option maxRecDepth 100000 in
theorem spec_l16Queue.calls (k : Nat) (g : Nat) (s0_0 : List Int) (s0_1 : Int) (s0_2 : Int) (r1 : List (S60)) (r2 : Int) (r3 : Int) (w0 w : World) (hI : IsS91 w0 w g s0_0 s0_1 s0_2) (hB : Below w0.heap.size w0 w) (h : spec_l16Queue.f k s0_0 s0_1 s0_2 = some (r1, r2, r3)) :
  Calls Try.prog 53 #[.pointer (some ⟨g, 0, none⟩)] w fun e w' => ∃ v0_ : Value, e = .returned (v0_) ∧ Kd.S k60 60 w' w.heap.size (fun _ => True) v0_ r1 ∧ IsS91 w0 w' g s0_0 r2 r3 ∧ Below w0.heap.size w0 w' ∧ KB_ w w' g none := by
 have hu60 := Try.underlying60
 have HI0 := A_.mk hI
 have HK := A_.mk (KB_.refl w g none)
 have HL := A_.mk hB.size
 clear hI
 have HW0 := A_.mk hB.size
 have HB := A_.mk hB
 clear hB
 have H : (spec_l16Queue.l0 k (([] : List (S60))) 0 s0_0 s0_1 s0_2) = some (r1, r2, r3) := h
 clear h
 obtain ⟨y276, hy276⟩ : ∃ y_ : List (S60), y_ = (([] : List (S60))) := ⟨_, rfl⟩
 replace H : (spec_l16Queue.l0 k y276 0 s0_0 s0_1 s0_2) = some (r1, r2, r3) := by first | (rw [hy276]; with_reducible exact H) | (have H2_ := (Option.bind_some _ _).symm.trans H; rw [hy276]; with_reducible exact H2_) | (have H2_ := (Option.bind_some _ _).symm.trans H; with_reducible exact H2_) | with_reducible exact H | (rw [hy276]; exact H) | exact H
 have Ny276 := A_.mk hy276
 clear hy276
 have H' := A_.mk H
 clear H
 go_enter Try.func53, Try.ntmps53
 go_wp2_with (first | ((with_reducible refine gd_ (N := 6) rfl ?_); refine Kd.S_lit k60 _ 60 ?hg (N := 6) ?hd (xs := ([] : List (S60))) (inner := []) (ok := fun _ => True) (okp := fun _ => True) ?hr ?hp (fun _ hk => hk) trivial (Below.refl _ _) (Nat.le_refl _) (by simp) ?_; (case hd => rfl); (case hg => rfl); (case hr => first | (go_simp; done) | (go_simp; rfl)); (case hp => exact (Reps.none _ _)); intro v277 w2 ho3 hb hg_ hnew_; clear hg_ hnew_; (first | rw [← Ny276.out] at ho3 | (simp only [Int.reduceToNat] at ho3; rw [← Ny276.out] at ho3)); have n0_ := A_.mk (Kd.S_lower ho3 (keep_size (w := w) (g := g) (row := none) (by repeat (first | (with_reducible first | exact HK.out | apply KB_.set_ | apply kn_ | apply kd_ | apply ka_) | exact HK.out)))); have n1_ := A_.mk (IsS91.below (by repeat (first | (with_reducible first | exact HI0.out | apply IsS91.alloc | apply IsS91.drewN | apply IsS91.drew | apply IsS91.set_1 | apply IsS91.set_2) | exact HI0.out)) hb); have n2_ := A_.mk (KB_.trans (by repeat (first | (with_reducible first | exact HK.out | apply KB_.set_ | apply kn_ | apply kd_ | apply ka_) | exact HK.out)) (KB_.of_below hb g none) (.inl rfl)); have n3_ := A_.mk (bt_ (by repeat (first | (with_reducible first | exact HB.out | apply ba_ | apply bd_ | apply be_ | refine bs_ ?_ (IsS91.ge HI0.out)) | exact HB.out)) hb); clear HI0 HK HB; have HO278 := n0_; have HI0 := n1_; have HK := n2_; have HB := n3_; clear n0_ n1_ n2_ n3_ hb ho3))
 go_loopg [3, 4] k (fun kq v3 v4 w' => ∃ (x3_1 : List (S60)) (x4_1 : Int) (x1001_1 : Int) (x1002_1 : Int), v4 = .int .i64 x4_1 ∧ A_ (spec_l16Queue.l0 kq x3_1 x4_1 s0_0 x1001_1 x1002_1 = some (r1, r2, r3)) ∧ A_ (kq ≤ k) ∧ A_ (Kd.S k60 60 w' w.heap.size (fun _ => True) v3 x3_1) ∧ A_ (IsS91 w0 w' g s0_0 x1001_1 x1002_1) ∧ A_ (KB_ w w' g none) ∧ A_ (Below w0.heap.size w0 w'))
 case atStart => exact ⟨(y276), (0), (s0_1), (s0_2), (by first | rfl | (simp; done) | (simp [*]; done)), H', ⟨Nat.le_refl _⟩, ⟨by (with_reducible repeat (first | apply Kd.S_alloc | apply Kd.S_drewN | apply Kd.S_drew)); exact HO278.out⟩, ⟨by repeat (first | (with_reducible first | exact HI0.out | apply IsS91.alloc | apply IsS91.drewN | apply IsS91.drew | apply IsS91.set_1 | apply IsS91.set_2) | exact HI0.out)⟩, ⟨by repeat (first | (with_reducible first | exact HK.out | apply KB_.set_ | apply kn_ | apply kd_ | apply ka_) | exact HK.out)⟩, ⟨by repeat (first | (with_reducible first | exact HB.out | apply ba_ | apply bd_ | apply be_ | refine bs_ ?_ (IsS91.ge HI0.out)) | exact HB.out)⟩⟩
 case round =>
  clear H'
  obtain ⟨x3_1, x4_1, x1001_1, x1002_1, rfl, HA, HK1, HO_3, HI0, HK, HB⟩ := hrel
  cases gk with
  | zero => exact absurd HA.out (by simp [spec_l16Queue.l0])
  | succ k1 =>
   have H := HA.out
   clear HA
   simp only [spec_l16Queue.l0] at H
   replace H := ob_ H
   obtain ⟨⟨t279, t280, t281⟩, A40, H⟩ := H
   replace H : (if x4_1 < t279 then ((spec_l04Packet.f k1 s0_0 t280 t281).bind fun bt282 => (if bt282.1 = 6 then ((spec_l01Below.f s0_0 bt282.2.2.2.2.2.2.2.2.1 bt282.2.2.2.2.2.2.2.2.2 2).bind fun bt295 => (if x3_1.length < 1759218604441 then (spec_l16Queue.l0 k1 (x3_1 ++ [(⟨bt282.1, bt282.2.1, 16, bt282.2.2.2.1, bt282.2.2.2.2.1, bt295.1, bt282.2.2.2.2.2.2.1, bt282.2.2.2.2.2.2.2.1⟩ : S60)]) (wrap64 (x4_1 + 1)) s0_0 bt295.2.1 bt295.2.2) else (none))) else (if x3_1.length < 1759218604441 then (spec_l16Queue.l0 k1 (x3_1 ++ [(⟨bt282.1, bt282.2.1, bt282.2.2.1, bt282.2.2.2.1, bt282.2.2.2.2.1, bt282.2.2.2.2.2.1, bt282.2.2.2.2.2.2.1, bt282.2.2.2.2.2.2.2.1⟩ : S60)]) (wrap64 (x4_1 + 1)) s0_0 bt282.2.2.2.2.2.2.2.2.1 bt282.2.2.2.2.2.2.2.2.2) else (none)))) else (some (x3_1, t280, t281))) = some (r1, r2, r3) := H
   have A4 := A_.mk A40
   clear A40
   by_cases c5 : x4_1 < t279
   rotate_left
   ·rw [if_neg c5] at H
    have c5b0 : decide (x4_1 < t279) = false := decide_eq_false c5
    clear c5
    simp only [Option.some.injEq, Prod.mk.injEq] at H
    obtain ⟨rfl, rfl, rfl⟩ := H
    go_wp2_with (first | ((with_reducible refine gc_ (f := 76) rfl ?_); refine gl_ (some 9) Try.func76 #[.pointer (some ⟨g, 0, none⟩), .int .i64 7] ?_; (with_reducible refine (spec_l01Below.calls g s0_0 x1001_1 x1002_1 7 t279 t280 t281 w0 _ ?side1 ?side2 A4.out).mono ?_); (case side1 => repeat (first | (with_reducible first | exact HI0.out | apply IsS91.alloc | apply IsS91.drewN | apply IsS91.drew | apply IsS91.set_1 | apply IsS91.set_2) | exact HI0.out)); (case side2 => repeat (first | (with_reducible first | exact HB.out | apply ba_ | apply bd_ | apply be_ | refine bs_ ?_ (IsS91.ge HI0.out)) | exact HB.out)); rintro e w31 ⟨rfl, hi, hb, hk⟩; refine ⟨_, rfl, ?_⟩; have n0_ := A_.mk (Kd.S_mono (Kd.S_keep (IsS91.apartS (show IsS91 w0 _ g s0_0 x1001_1 x1002_1 from by repeat (first | (with_reducible first | exact HI0.out | apply IsS91.alloc | apply IsS91.drewN | apply IsS91.drew | apply IsS91.set_1 | apply IsS91.set_2) | exact HI0.out)) (by (with_reducible repeat (first | apply Kd.S_alloc | apply Kd.S_drewN | apply Kd.S_drew)); exact HO_3.out) (by decide)) hk (fun _ h => h.2)) (fun _ h => h.1)); have n1_ := A_.mk (KB_.trans (by repeat (first | (with_reducible first | exact HK.out | apply KB_.set_ | apply kn_ | apply kd_ | apply ka_) | exact HK.out)) hk (.inl rfl)); have n2_ := A_.mk (hb); have n3_ := A_.mk (hi); clear HO_3 HK HB HI0; have HO_3 := n0_; have HK := n1_; have HB := n2_; have HI0 := n3_; clear n0_ n1_ n2_ n3_; (try clear hb); (try clear hb2); (try clear hk); (try clear hi)))
    go_ret
    exact ⟨_, by first | rfl | (simp [errW_none, errW_some] <;> rfl) | (simp [*, errW_none, errW_some] <;> rfl), by (with_reducible repeat (first | apply Kd.S_alloc | apply Kd.S_drewN | apply Kd.S_drew)); exact HO_3.out, by repeat (first | (with_reducible first | exact HI0.out | apply IsS91.alloc | apply IsS91.drewN | apply IsS91.drew | apply IsS91.set_1 | apply IsS91.set_2) | exact HI0.out), by repeat (first | (with_reducible first | exact HB.out | apply ba_ | apply bd_ | apply be_ | refine bs_ ?_ (IsS91.ge HI0.out)) | exact HB.out), by repeat (first | (with_reducible first | exact HK.out | apply KB_.set_ | apply kn_ | apply kd_ | apply ka_) | exact HK.out)⟩
   rw [if_pos c5] at H
   have c5b0 : decide (x4_1 < t279) = true := decide_eq_true c5
   clear c5
   replace H := ob_ H
   obtain ⟨⟨t282, t283, t284, t285, t286, t287, t288, t289, t292, t293⟩, A60, H⟩ := H
   replace H : (if t282 = 6 then ((spec_l01Below.f s0_0 t292 t293 2).bind fun bt295 => (if x3_1.length < 1759218604441 then (spec_l16Queue.l0 k1 (x3_1 ++ [(⟨t282, t283, 16, t285, t286, bt295.1, t288, t289⟩ : S60)]) (wrap64 (x4_1 + 1)) s0_0 bt295.2.1 bt295.2.2) else (none))) else (if x3_1.length < 1759218604441 then (spec_l16Queue.l0 k1 (x3_1 ++ [(⟨t282, t283, t284, t285, t286, t287, t288, t289⟩ : S60)]) (wrap64 (x4_1 + 1)) s0_0 t292 t293) else (none))) = some (r1, r2, r3) := H
   have A6 := A_.mk A60
   clear A60
   by_cases c7 : t282 = 6
   rotate_left
   ·rw [if_neg c7] at H
    have c7b0 : (t282 == 6) = false := beq_eq_false_iff_ne.mpr c7
    have c7b1 : (t282 != 6) = true := bne_iff_ne.mpr c7
    by_cases c21 : x3_1.length < 1759218604441
    rotate_left
    ·rw [if_neg c21] at H
     exact absurd H (by simp)
    rw [if_pos c21] at H
    have LMc21 := A_.mk c21
    clear c21
    obtain ⟨y301, hy301⟩ : ∃ y_ : List (S60), y_ = (x3_1 ++ [(⟨t282, t283, t284, t285, t286, t287, t288, t289⟩ : S60)]) := ⟨_, rfl⟩
    replace H : (spec_l16Queue.l0 k1 y301 (wrap64 (x4_1 + 1)) s0_0 t292 t293) = some (r1, r2, r3) := by first | (rw [hy301]; with_reducible exact H) | (have H2_ := (Option.bind_some _ _).symm.trans H; rw [hy301]; with_reducible exact H2_) | (have H2_ := (Option.bind_some _ _).symm.trans H; with_reducible exact H2_) | with_reducible exact H | (rw [hy301]; exact H) | exact H
    have Ny301 := A_.mk hy301
    clear hy301
    have H' := A_.mk H
    clear H
    go_wp2_with (first | ((with_reducible refine gc_ (f := 76) rfl ?_); refine gl_ (some 9) Try.func76 #[.pointer (some ⟨g, 0, none⟩), .int .i64 7] ?_; (with_reducible refine (spec_l01Below.calls g s0_0 x1001_1 x1002_1 7 t279 t280 t281 w0 _ ?side1 ?side2 A4.out).mono ?_); (case side1 => repeat (first | (with_reducible first | exact HI0.out | apply IsS91.alloc | apply IsS91.drewN | apply IsS91.drew | apply IsS91.set_1 | apply IsS91.set_2) | exact HI0.out)); (case side2 => repeat (first | (with_reducible first | exact HB.out | apply ba_ | apply bd_ | apply be_ | refine bs_ ?_ (IsS91.ge HI0.out)) | exact HB.out)); rintro e w22 ⟨rfl, hi, hb, hk⟩; refine ⟨_, rfl, ?_⟩; have n0_ := A_.mk (Kd.S_mono (Kd.S_keep (IsS91.apartS (show IsS91 w0 _ g s0_0 x1001_1 x1002_1 from by repeat (first | (with_reducible first | exact HI0.out | apply IsS91.alloc | apply IsS91.drewN | apply IsS91.drew | apply IsS91.set_1 | apply IsS91.set_2) | exact HI0.out)) (by (with_reducible repeat (first | apply Kd.S_alloc | apply Kd.S_drewN | apply Kd.S_drew)); exact HO_3.out) (by decide)) hk (fun _ h => h.2)) (fun _ h => h.1)); have n1_ := A_.mk (KB_.trans (by repeat (first | (with_reducible first | exact HK.out | apply KB_.set_ | apply kn_ | apply kd_ | apply ka_) | exact HK.out)) hk (.inl rfl)); have n2_ := A_.mk (hb); have n3_ := A_.mk (hi); clear HO_3 HK HB HI0; have HO_3 := n0_; have HK := n1_; have HB := n2_; have HI0 := n3_; clear n0_ n1_ n2_ n3_; (try clear hb); (try clear hb2); (try clear hk); (try clear hi)) | ((with_reducible refine gc_ (f := 77) rfl ?_); refine gl_ (some 14) Try.func77 #[.pointer (some ⟨g, 0, none⟩)] ?_; (with_reducible refine (spec_l04Packet.calls k1 g s0_0 t280 t281 t282 t283 t284 t285 t286 t287 t288 t289 t292 t293 w0 _ ?side1 ?side2 A6.out).mono ?_); (case side1 => repeat (first | (with_reducible first | exact HI0.out | apply IsS91.alloc | apply IsS91.drewN | apply IsS91.drew | apply IsS91.set_1 | apply IsS91.set_2) | exact HI0.out)); (case side2 => repeat (first | (with_reducible first | exact HB.out | apply ba_ | apply bd_ | apply be_ | refine bs_ ?_ (IsS91.ge HI0.out)) | exact HB.out)); rintro e w23 ⟨v290, rfl, ho0, hi, hb, hk⟩; refine ⟨_, rfl, ?_⟩; have n0_ := A_.mk (Kd.S_mono (Kd.S_told (Kd.S_oldK (IsS91.apartS (show IsS91 w0 _ g s0_0 t280 t281 from by repeat (first | (with_reducible first | exact HI0.out | apply IsS91.alloc | apply IsS91.drewN | apply IsS91.drew | apply IsS91.set_1 | apply IsS91.set_2) | exact HI0.out)) (by (with_reducible repeat (first | apply Kd.S_alloc | apply Kd.S_drewN | apply Kd.S_drew)); exact HO_3.out) (by decide)) hk) (Kd.R_base ho0)) (fun _ h_ => h_.1)); have n1_ := A_.mk (Kd.R_lower ho0 (keep_size (w := w) (g := g) (row := none) (by repeat (first | (with_reducible first | exact HK.out | apply KB_.set_ | apply kn_ | apply kd_ | apply ka_) | exact HK.out)))); have n2_ := A_.mk (KB_.trans (by repeat (first | (with_reducible first | exact HK.out | apply KB_.set_ | apply kn_ | apply kd_ | apply ka_) | exact HK.out)) hk (.inl rfl)); have n3_ := A_.mk (hb); have n4_ := A_.mk (hi); clear HO_3 HK HB HI0; have HO_3 := n0_; have HO291 := n1_; have HK := n2_; have HB := n3_; have HI0 := n4_; clear n0_ n1_ n2_ n3_ n4_; (try clear hb); (try clear hb2); (try clear hk); (try clear hi); (try clear ho0)) | ((with_reducible refine gd_ (N := 5) rfl ?_); refine by_ 5 (cs := #[.int .i64 0, .int .i64 0, .int .i64 0, .int .i64 0, .int .i64 0, .int .i64 0, .int .i64 0, .slice none 0 0]) (t := 60) ?_; intro gb294 hg w24 hbox hb; have n0_ := A_.mk (Kd.S_below (Kd.S_elderB (by (with_reducible repeat (first | apply Kd.S_alloc | apply Kd.S_drewN | apply Kd.S_drew)); exact HO_3.out) gb294 (Nat.le_of_eq hg.symm)) hb); have n1_ := A_.mk (Kd.R_below (rY HO291.out) hb); have n2_ := A_.mk (IsS91.below (by repeat (first | (with_reducible first | exact HI0.out | apply IsS91.alloc | apply IsS91.drewN | apply IsS91.drew | apply IsS91.set_1 | apply IsS91.set_2) | exact HI0.out)) hb); have n3_ := A_.mk (KB_.trans (by repeat (first | (with_reducible first | exact HK.out | apply KB_.set_ | apply kn_ | apply kd_ | apply ka_) | exact HK.out)) (KB_.of_below hb g none) (.inl rfl)); have n4_ := A_.mk (bt_ (by repeat (first | (with_reducible first | exact HB.out | apply ba_ | apply bd_ | apply be_ | refine bs_ ?_ (IsS91.ge HI0.out)) | exact HB.out)) hb); have n5_ := A_.mk (hbox); have n6_ := A_.mk ((by rw [hg]; exact (keep_size (w := w) (g := g) (row := none) (by repeat (first | (with_reducible first | exact HK.out | apply KB_.set_ | apply kn_ | apply kd_ | apply ka_) | exact HK.out))) : w.heap.size ≤ gb294)); have n7_ := A_.mk ((Nat.le_trans HW0.out (by rw [hg]; exact (keep_size (w := w) (g := g) (row := none) (by repeat (first | (with_reducible first | exact HK.out | apply KB_.set_ | apply kn_ | apply kd_ | apply ka_) | exact HK.out))) : w.heap.size ≤ gb294) : w0.heap.size ≤ gb294)); have n8_ := A_.mk ((by rw [hg]; exact Nat.ne_of_lt (IsS91.lt (show IsS91 w0 _ g s0_0 t292 t293 from by repeat (first | (with_reducible first | exact HI0.out | apply IsS91.alloc | apply IsS91.drewN | apply IsS91.drew | apply IsS91.set_1 | apply IsS91.set_2) | exact HI0.out))) : g ≠ gb294)); have n9_ := A_.mk ((by rw [hg]; exact Nat.ne_of_gt (IsS91.lt (show IsS91 w0 _ g s0_0 t292 t293 from by repeat (first | (with_reducible first | exact HI0.out | apply IsS91.alloc | apply IsS91.drewN | apply IsS91.drew | apply IsS91.set_1 | apply IsS91.set_2) | exact HI0.out))) : gb294 ≠ g)); clear HO_3 HO291 HI0 HK HB; have HO_3 := n0_; have HO291 := n1_; have HI0 := n2_; have HK := n3_; have HB := n4_; have BK294 := n5_; have GW294 := n6_; have GE294 := n7_; have NB0_294 := n8_; have NB294_0 := n9_; clear n0_ n1_ n2_ n3_ n4_ n5_ n6_ n7_ n8_ n9_ hb hbox hg; have hnb25 := NB294_0.out; have hnc25 := NB0_294.out; have hcz26_0 : w24.cell? ⟨gb294, 0, none⟩ = some (.int .i64 0) := (bc_ BK294.out 0).trans rfl; have hcz26_1 : w24.cell? ⟨gb294, 1, none⟩ = some (.int .i64 0) := (bc_ BK294.out 1).trans rfl; have hcz26_2 : w24.cell? ⟨gb294, 2, none⟩ = some (.int .i64 0) := (bc_ BK294.out 2).trans rfl; have hcz26_3 : w24.cell? ⟨gb294, 3, none⟩ = some (.int .i64 0) := (bc_ BK294.out 3).trans rfl; have hcz26_4 : w24.cell? ⟨gb294, 4, none⟩ = some (.int .i64 0) := (bc_ BK294.out 4).trans rfl; have hcz26_5 : w24.cell? ⟨gb294, 5, none⟩ = some (.int .i64 0) := (bc_ BK294.out 5).trans rfl; have hcz26_6 : w24.cell? ⟨gb294, 6, none⟩ = some (.int .i64 0) := (bc_ BK294.out 6).trans rfl; have hcz26_7 : w24.cell? ⟨gb294, 7, none⟩ = some (.slice none 0 0) := (bc_ BK294.out 7).trans rfl; have hfz26_0 := bf_ BK294.out 0; have hfz26_1 := bf_ BK294.out 1; have hfz26_2 := bf_ BK294.out 2; have hfz26_3 := bf_ BK294.out 3; have hfz26_4 := bf_ BK294.out 4; have hfz26_5 := bf_ BK294.out 5; have hfz26_6 := bf_ BK294.out 6; have hfz26_7 := bf_ BK294.out 7; obtain ⟨Ao27, co27, eo27⟩ := Kd.R_slice HO291.out; subst eo27) | ((with_reducible refine gs_ (t := 60) (p := 5) rfl ?_); refine se_ (t := 60) (p := 5) (v := ?vo_w28) (w1 := ((((((((w24.setCell ⟨gb294, 0, none⟩ (.int .i64 t282)).setCell ⟨gb294, 1, none⟩ (.int .i64 t283)).setCell ⟨gb294, 2, none⟩ (.int .i64 t284)).setCell ⟨gb294, 3, none⟩ (.int .i64 t285)).setCell ⟨gb294, 4, none⟩ (.int .i64 t286)).setCell ⟨gb294, 5, none⟩ (.int .i64 t287)).setCell ⟨gb294, 6, none⟩ (.int .i64 t288)).setCell ⟨gb294, 7, none⟩ (.slice Ao27 t289.length co27))) ?hg ?ho ?hn ?hr ?_; (case ho => rfl); (case hg => rfl); (case hn => rfl); (case hr => first | (go_simp; done) | (go_simp; rfl)); intro w28 hw; have n0_ : A_ (Kd.S k60 60 w28 w.heap.size (fun k_ => some k_ ≠ (.slice Ao27 t289.length co27 : Value).ownBlock ∧ k_ ≠ gb294) u3 x3_1) := ⟨(by rw [hw]; exact (by (with_reducible repeat (first | apply Kd.S_alloc | apply Kd.S_drewN | apply Kd.S_drew)); exact Kd.S_mono (Kd.S_far (p := ⟨gb294, 7, none⟩) (Kd.S_far (p := ⟨gb294, 6, none⟩) (Kd.S_far (p := ⟨gb294, 5, none⟩) (Kd.S_far (p := ⟨gb294, 4, none⟩) (Kd.S_far (p := ⟨gb294, 3, none⟩) (Kd.S_far (p := ⟨gb294, 2, none⟩) (Kd.S_far (p := ⟨gb294, 1, none⟩) (Kd.S_far (p := ⟨gb294, 0, none⟩) (Kd.S_mono HO_3.out (fun k_ hk => (⟨hk, hk.2⟩ : _ ∧ k_ ≠ gb294))) (fun _ hk => hk.2) (.int .i64 t282)) (fun _ hk => hk.2) (.int .i64 t283)) (fun _ hk => hk.2) (.int .i64 t284)) (fun _ hk => hk.2) (.int .i64 t285)) (fun _ hk => hk.2) (.int .i64 t286)) (fun _ hk => hk.2) (.int .i64 t287)) (fun _ hk => hk.2) (.int .i64 t288)) (fun _ hk => hk.2) (.slice Ao27 t289.length co27)) (fun _ hk => ⟨hk.1.1.2, hk.1.2⟩)))⟩; have n1_ : A_ (Kd.R (Kd.int .i64) 3 w28 w.heap.size (fun _ => True) (.slice Ao27 t289.length co27) t289) := ⟨(by rw [hw]; exact (by (repeat apply rX); exact Kd.R_mono (Kd.R_far (p := ⟨gb294, 7, none⟩) (Kd.R_far (p := ⟨gb294, 6, none⟩) (Kd.R_far (p := ⟨gb294, 5, none⟩) (Kd.R_far (p := ⟨gb294, 4, none⟩) (Kd.R_far (p := ⟨gb294, 3, none⟩) (Kd.R_far (p := ⟨gb294, 2, none⟩) (Kd.R_far (p := ⟨gb294, 1, none⟩) (Kd.R_far (p := ⟨gb294, 0, none⟩) (Kd.R_types HO291.out BK294.out (by decide)) (fun _ hk => hk.2) (.int .i64 t282)) (fun _ hk => hk.2) (.int .i64 t283)) (fun _ hk => hk.2) (.int .i64 t284)) (fun _ hk => hk.2) (.int .i64 t285)) (fun _ hk => hk.2) (.int .i64 t286)) (fun _ hk => hk.2) (.int .i64 t287)) (fun _ hk => hk.2) (.int .i64 t288)) (fun _ hk => hk.2) (.slice Ao27 t289.length co27)) (fun _ hk => trivial)))⟩; have n2_ : A_ (w28.heap[gb294]? = some (.cells #[.int .i64 t282, .int .i64 t283, .int .i64 t284, .int .i64 t285, .int .i64 t286, .int .i64 t287, .int .i64 t288, .slice Ao27 t289.length co27] 60 (0, 0))) := ⟨(by rw [hw]; exact (by (repeat apply bX); refine bp_ (cs := #[.int .i64 t282, .int .i64 t283, .int .i64 t284, .int .i64 t285, .int .i64 t286, .int .i64 t287, .int .i64 t288, .slice none 0 0]) ?_ 7 _ rfl; (repeat apply bX); refine bp_ (cs := #[.int .i64 t282, .int .i64 t283, .int .i64 t284, .int .i64 t285, .int .i64 t286, .int .i64 t287, .int .i64 0, .slice none 0 0]) ?_ 6 _ rfl; (repeat apply bX); refine bp_ (cs := #[.int .i64 t282, .int .i64 t283, .int .i64 t284, .int .i64 t285, .int .i64 t286, .int .i64 0, .int .i64 0, .slice none 0 0]) ?_ 5 _ rfl; (repeat apply bX); refine bp_ (cs := #[.int .i64 t282, .int .i64 t283, .int .i64 t284, .int .i64 t285, .int .i64 0, .int .i64 0, .int .i64 0, .slice none 0 0]) ?_ 4 _ rfl; (repeat apply bX); refine bp_ (cs := #[.int .i64 t282, .int .i64 t283, .int .i64 t284, .int .i64 0, .int .i64 0, .int .i64 0, .int .i64 0, .slice none 0 0]) ?_ 3 _ rfl; (repeat apply bX); refine bp_ (cs := #[.int .i64 t282, .int .i64 t283, .int .i64 0, .int .i64 0, .int .i64 0, .int .i64 0, .int .i64 0, .slice none 0 0]) ?_ 2 _ rfl; (repeat apply bX); refine bp_ (cs := #[.int .i64 t282, .int .i64 0, .int .i64 0, .int .i64 0, .int .i64 0, .int .i64 0, .int .i64 0, .slice none 0 0]) ?_ 1 _ rfl; (repeat apply bX); refine bp_ (cs := #[.int .i64 0, .int .i64 0, .int .i64 0, .int .i64 0, .int .i64 0, .int .i64 0, .int .i64 0, .slice none 0 0]) ?_ 0 _ rfl; (repeat apply bX); exact BK294.out))⟩; have n3_ : A_ (IsS91 w0 w28 g s0_0 t292 t293) := ⟨(by rw [hw]; exact (by repeat (first | (with_reducible first | exact HI0.out | apply IsS91.alloc | apply IsS91.drewN | apply IsS91.drew | apply IsS91.set_1 | apply IsS91.set_2 | refine IsS91.far ?_ NB0_294.out _) | exact HI0.out)))⟩; have n4_ : A_ (KB_ w w28 g none) := ⟨(by rw [hw]; exact (by repeat (first | (with_reducible first | exact HK.out | apply KB_.set_ | apply kn_ | apply kd_ | apply ka_ | refine kf_ ?_ GW294.out _) | exact HK.out)))⟩; have n5_ : A_ (Below w0.heap.size w0 w28) := ⟨(by rw [hw]; exact (by repeat (first | (with_reducible first | exact HB.out | apply ba_ | apply bd_ | apply be_ | refine bs_ ?_ (IsS91.ge HI0.out) | refine bs_ ?_ GE294.out) | exact HB.out)))⟩; clear hw HO_3 HO291 BK294 HI0 HK HB; have HO_3 := n0_; have HO291 := n1_; have BK294 := n2_; have HI0 := n3_; have HK := n4_; have HB := n5_; clear n0_ n1_ n2_ n3_ n4_ n5_; have hcz29_0 : w28.cell? ⟨gb294, 0, none⟩ = some (.int .i64 t282) := (bc_ BK294.out 0).trans rfl; have hcz29_1 : w28.cell? ⟨gb294, 1, none⟩ = some (.int .i64 t283) := (bc_ BK294.out 1).trans rfl; have hcz29_2 : w28.cell? ⟨gb294, 2, none⟩ = some (.int .i64 t284) := (bc_ BK294.out 2).trans rfl; have hcz29_3 : w28.cell? ⟨gb294, 3, none⟩ = some (.int .i64 t285) := (bc_ BK294.out 3).trans rfl; have hcz29_4 : w28.cell? ⟨gb294, 4, none⟩ = some (.int .i64 t286) := (bc_ BK294.out 4).trans rfl; have hcz29_5 : w28.cell? ⟨gb294, 5, none⟩ = some (.int .i64 t287) := (bc_ BK294.out 5).trans rfl; have hcz29_6 : w28.cell? ⟨gb294, 6, none⟩ = some (.int .i64 t288) := (bc_ BK294.out 6).trans rfl; have hcz29_7 : w28.cell? ⟨gb294, 7, none⟩ = some (.slice Ao27 t289.length co27) := (bc_ BK294.out 7).trans rfl; have hfz29_0 := bf_ BK294.out 0; have hfz29_1 := bf_ BK294.out 1; have hfz29_2 := bf_ BK294.out 2; have hfz29_3 := bf_ BK294.out 3; have hfz29_4 := bf_ BK294.out 4; have hfz29_5 := bf_ BK294.out 5; have hfz29_6 := bf_ BK294.out 6; have hfz29_7 := bf_ BK294.out 7) | ((with_reducible refine gate_builtin (b := .append) (xs := #[.tmp 22, .tmp 24]) rfl ?_); at_builtin; refine Kd.S_append k60 w.heap.size rfl (.tmp 22) (.tmp 24) 27 60 (.agg #[(.int .i64 0), (.int .i64 0), (.int .i64 0), (.int .i64 0), (.int .i64 0), (.int .i64 0), (.int .i64 0), (.slice none 0 0)]) 80 rfl Try.underlying27 info60 rfl (by decide) (by omega) u3 x3_1 (⟨t282, t283, t284, t285, t286, t287, t288, t289⟩ : S60) [.int .i64 t282, .int .i64 t283, .int .i64 t284, .int .i64 t285, .int .i64 t286, .int .i64 t287, .int .i64 t288, .slice Ao27 t289.length co27] (fun k_ => k_ ≠ gb294) (fun k_ => some k_ = (.slice Ao27 t289.length co27 : Value).ownBlock) rfl rfl ?aP (fun k_ hk_ => ((Kd.R_mono (ok' := fun k_ => ((fun k_ => k_ ≠ gb294)) k_ ∧ some k_ ≠ (u3 : Value).ownBlock) (Kd.R_types (Kd.R_apart' (HO291.out) (Kd.S_typed HO_3.out) (by decide)) BK294.out (by decide)) (fun k_ hk => ⟨hk.2, hk.1.2⟩))).1 k_ hk_.symm) ?aF ?aO (Below.refl _ _) ?aS ?aL ?_; (case aP => exact k60_mkM _ _ _ (⟨t282, t283, t284, t285, t286, t287, t288, t289⟩ : S60) (Kd.R_mono (Kd.R_tight rfl (Kd.R_mono (ok' := fun k_ => ((fun k_ => k_ ≠ gb294)) k_ ∧ some k_ ≠ (u3 : Value).ownBlock) (Kd.R_types (Kd.R_apart' (HO291.out) (Kd.S_typed HO_3.out) (by decide)) BK294.out (by decide)) (fun k_ hk => ⟨hk.2, hk.1.2⟩))) (fun _ h_ => h_))); (case aF => exact (fun k_ hk => Kd.freshB (g := gb294) (o := .cells #[.int .i64 t282, .int .i64 t283, .int .i64 t284, .int .i64 t285, .int .i64 t286, .int .i64 t287, .int .i64 t288, .slice Ao27 t289.length co27] 60 (0, 0)) (bY BK294.out) k_ hk)); (case aO => exact (by (with_reducible repeat (first | apply Kd.S_alloc | apply Kd.S_drewN | apply Kd.S_drew)); exact Kd.S_mono HO_3.out (fun k_ hk => ⟨hk.2, fun e_ => hk.1 e_⟩))); (case aS => exact (keep_size (w := w) (g := g) (row := none) (by repeat (first | (with_reducible first | exact HK.out | apply KB_.set_ | apply kn_ | apply kd_ | apply ka_ | refine kf_ ?_ GW294.out _) | exact HK.out)))); (case aL => have := LMc21.out; omega); intro v302 w30 ho hb hg hat; rw [← Ny301.out] at ho; have n0_ := A_.mk (IsS91.grown (by repeat (first | (with_reducible first | exact HI0.out | apply IsS91.alloc | apply IsS91.drewN | apply IsS91.drew | apply IsS91.set_1 | apply IsS91.set_2 | refine IsS91.far ?_ NB0_294.out _) | exact HI0.out)) hg (IsS91.own_neS HI0.out HO_3.out (by decide))); have n1_ := A_.mk (blk_grown (g := gb294) (o := .cells #[.int .i64 t282, .int .i64 t283, .int .i64 t284, .int .i64 t285, .int .i64 t286, .int .i64 t287, .int .i64 t288, .slice Ao27 t289.length co27] 60 (0, 0)) (bY BK294.out) hg (Kd.S_away HO_3.out (fun _ hk => hk.2))); have n2_ := A_.mk (below_weaken (by repeat (first | (with_reducible first | exact HB.out | apply ba_ | apply bd_ | apply be_ | refine bs_ ?_ (IsS91.ge HI0.out) | refine bs_ ?_ GE294.out) | exact HB.out)) HL.out hb); have n3_ := A_.mk (KB_.trans (by repeat (first | (with_reducible first | exact HK.out | apply KB_.set_ | apply kn_ | apply kd_ | apply ka_ | refine kf_ ?_ GW294.out _) | exact HK.out)) (KB_.of_grown hg g) (Kd.S_base2 HO_3.out)); have n4_ := A_.mk (ho); clear HI0 BK294 HB HK HO_3 HO291; have HI0 := n0_; have BK294 := n1_; have HB := n2_; have HK := n3_; have HO303 := n4_; clear n0_ n1_ n2_ n3_ n4_ ho hb hg hat))
    go_roundg k1
    case measure => have := HK1.out; omega
    case rel => exact ⟨(y301), (wrap64 (x4_1 + 1)), (t292), (t293), (by first | rfl | (simp; done) | (simp [*]; done)), H', ⟨by have := HK1.out; omega⟩, ⟨by (with_reducible repeat (first | apply Kd.S_alloc | apply Kd.S_drewN | apply Kd.S_drew)); exact Kd.S_mono HO303.out (fun _ hk => trivial)⟩, ⟨by repeat (first | (with_reducible first | exact HI0.out | apply IsS91.alloc | apply IsS91.drewN | apply IsS91.drew | apply IsS91.set_1 | apply IsS91.set_2 | refine IsS91.far ?_ NB0_294.out _) | exact HI0.out)⟩, ⟨by repeat (first | (with_reducible first | exact HK.out | apply KB_.set_ | apply kn_ | apply kd_ | apply ka_ | refine kf_ ?_ GW294.out _) | exact HK.out)⟩, ⟨by repeat (first | (with_reducible first | exact HB.out | apply ba_ | apply bd_ | apply be_ | refine bs_ ?_ (IsS91.ge HI0.out) | refine bs_ ?_ GE294.out) | exact HB.out)⟩⟩
   rw [if_pos c7] at H
   have c7b0 : (t282 == 6) = true := beq_iff_eq.mpr c7
   have c7b1 : (t282 != 6) = false := bne_eq_false_iff_eq.mpr c7
   clear c7
   replace H := ob_ H
   obtain ⟨⟨t295, t296, t297⟩, A80, H⟩ := H
   replace H : (if x3_1.length < 1759218604441 then (spec_l16Queue.l0 k1 (x3_1 ++ [(⟨t282, t283, 16, t285, t286, t295, t288, t289⟩ : S60)]) (wrap64 (x4_1 + 1)) s0_0 t296 t297) else (none)) = some (r1, r2, r3) := H
   have A8 := A_.mk A80
   clear A80
   by_cases c9 : x3_1.length < 1759218604441
   rotate_left
   ·rw [if_neg c9] at H
    exact absurd H (by simp)
   rw [if_pos c9] at H
   have LMc9 := A_.mk c9
   clear c9
   obtain ⟨y298, hy298⟩ : ∃ y_ : List (S60), y_ = (x3_1 ++ [(⟨t282, t283, 16, t285, t286, t295, t288, t289⟩ : S60)]) := ⟨_, rfl⟩
   replace H : (spec_l16Queue.l0 k1 y298 (wrap64 (x4_1 + 1)) s0_0 t296 t297) = some (r1, r2, r3) := by first | (rw [hy298]; with_reducible exact H) | (have H2_ := (Option.bind_some _ _).symm.trans H; rw [hy298]; with_reducible exact H2_) | (have H2_ := (Option.bind_some _ _).symm.trans H; with_reducible exact H2_) | with_reducible exact H | (rw [hy298]; exact H) | exact H
   have Ny298 := A_.mk hy298
   clear hy298
   have H' := A_.mk H
   clear H
   go_wp2_with (first | ((with_reducible refine gc_ (f := 76) rfl ?_); refine gl_ (some 9) Try.func76 #[.pointer (some ⟨g, 0, none⟩), .int .i64 7] ?_; (with_reducible refine (spec_l01Below.calls g s0_0 x1001_1 x1002_1 7 t279 t280 t281 w0 _ ?side1 ?side2 A4.out).mono ?_); (case side1 => repeat (first | (with_reducible first | exact HI0.out | apply IsS91.alloc | apply IsS91.drewN | apply IsS91.drew | apply IsS91.set_1 | apply IsS91.set_2) | exact HI0.out)); (case side2 => repeat (first | (with_reducible first | exact HB.out | apply ba_ | apply bd_ | apply be_ | refine bs_ ?_ (IsS91.ge HI0.out)) | exact HB.out)); rintro e w10 ⟨rfl, hi, hb, hk⟩; refine ⟨_, rfl, ?_⟩; have n0_ := A_.mk (Kd.S_mono (Kd.S_keep (IsS91.apartS (show IsS91 w0 _ g s0_0 x1001_1 x1002_1 from by repeat (first | (with_reducible first | exact HI0.out | apply IsS91.alloc | apply IsS91.drewN | apply IsS91.drew | apply IsS91.set_1 | apply IsS91.set_2) | exact HI0.out)) (by (with_reducible repeat (first | apply Kd.S_alloc | apply Kd.S_drewN | apply Kd.S_drew)); exact HO_3.out) (by decide)) hk (fun _ h => h.2)) (fun _ h => h.1)); have n1_ := A_.mk (KB_.trans (by repeat (first | (with_reducible first | exact HK.out | apply KB_.set_ | apply kn_ | apply kd_ | apply ka_) | exact HK.out)) hk (.inl rfl)); have n2_ := A_.mk (hb); have n3_ := A_.mk (hi); clear HO_3 HK HB HI0; have HO_3 := n0_; have HK := n1_; have HB := n2_; have HI0 := n3_; clear n0_ n1_ n2_ n3_; (try clear hb); (try clear hb2); (try clear hk); (try clear hi)) | ((with_reducible refine gc_ (f := 77) rfl ?_); refine gl_ (some 14) Try.func77 #[.pointer (some ⟨g, 0, none⟩)] ?_; (with_reducible refine (spec_l04Packet.calls k1 g s0_0 t280 t281 t282 t283 t284 t285 t286 t287 t288 t289 t292 t293 w0 _ ?side1 ?side2 A6.out).mono ?_); (case side1 => repeat (first | (with_reducible first | exact HI0.out | apply IsS91.alloc | apply IsS91.drewN | apply IsS91.drew | apply IsS91.set_1 | apply IsS91.set_2) | exact HI0.out)); (case side2 => repeat (first | (with_reducible first | exact HB.out | apply ba_ | apply bd_ | apply be_ | refine bs_ ?_ (IsS91.ge HI0.out)) | exact HB.out)); rintro e w11 ⟨v290, rfl, ho0, hi, hb, hk⟩; refine ⟨_, rfl, ?_⟩; have n0_ := A_.mk (Kd.S_mono (Kd.S_told (Kd.S_oldK (IsS91.apartS (show IsS91 w0 _ g s0_0 t280 t281 from by repeat (first | (with_reducible first | exact HI0.out | apply IsS91.alloc | apply IsS91.drewN | apply IsS91.drew | apply IsS91.set_1 | apply IsS91.set_2) | exact HI0.out)) (by (with_reducible repeat (first | apply Kd.S_alloc | apply Kd.S_drewN | apply Kd.S_drew)); exact HO_3.out) (by decide)) hk) (Kd.R_base ho0)) (fun _ h_ => h_.1)); have n1_ := A_.mk (Kd.R_lower ho0 (keep_size (w := w) (g := g) (row := none) (by repeat (first | (with_reducible first | exact HK.out | apply KB_.set_ | apply kn_ | apply kd_ | apply ka_) | exact HK.out)))); have n2_ := A_.mk (KB_.trans (by repeat (first | (with_reducible first | exact HK.out | apply KB_.set_ | apply kn_ | apply kd_ | apply ka_) | exact HK.out)) hk (.inl rfl)); have n3_ := A_.mk (hb); have n4_ := A_.mk (hi); clear HO_3 HK HB HI0; have HO_3 := n0_; have HO291 := n1_; have HK := n2_; have HB := n3_; have HI0 := n4_; clear n0_ n1_ n2_ n3_ n4_; (try clear hb); (try clear hb2); (try clear hk); (try clear hi); (try clear ho0)) | ((with_reducible refine gd_ (N := 5) rfl ?_); refine by_ 5 (cs := #[.int .i64 0, .int .i64 0, .int .i64 0, .int .i64 0, .int .i64 0, .int .i64 0, .int .i64 0, .slice none 0 0]) (t := 60) ?_; intro gb294 hg w12 hbox hb; have n0_ := A_.mk (Kd.S_below (Kd.S_elderB (by (with_reducible repeat (first | apply Kd.S_alloc | apply Kd.S_drewN | apply Kd.S_drew)); exact HO_3.out) gb294 (Nat.le_of_eq hg.symm)) hb); have n1_ := A_.mk (Kd.R_below (rY HO291.out) hb); have n2_ := A_.mk (IsS91.below (by repeat (first | (with_reducible first | exact HI0.out | apply IsS91.alloc | apply IsS91.drewN | apply IsS91.drew | apply IsS91.set_1 | apply IsS91.set_2) | exact HI0.out)) hb); have n3_ := A_.mk (KB_.trans (by repeat (first | (with_reducible first | exact HK.out | apply KB_.set_ | apply kn_ | apply kd_ | apply ka_) | exact HK.out)) (KB_.of_below hb g none) (.inl rfl)); have n4_ := A_.mk (bt_ (by repeat (first | (with_reducible first | exact HB.out | apply ba_ | apply bd_ | apply be_ | refine bs_ ?_ (IsS91.ge HI0.out)) | exact HB.out)) hb); have n5_ := A_.mk (hbox); have n6_ := A_.mk ((by rw [hg]; exact (keep_size (w := w) (g := g) (row := none) (by repeat (first | (with_reducible first | exact HK.out | apply KB_.set_ | apply kn_ | apply kd_ | apply ka_) | exact HK.out))) : w.heap.size ≤ gb294)); have n7_ := A_.mk ((Nat.le_trans HW0.out (by rw [hg]; exact (keep_size (w := w) (g := g) (row := none) (by repeat (first | (with_reducible first | exact HK.out | apply KB_.set_ | apply kn_ | apply kd_ | apply ka_) | exact HK.out))) : w.heap.size ≤ gb294) : w0.heap.size ≤ gb294)); have n8_ := A_.mk ((by rw [hg]; exact Nat.ne_of_lt (IsS91.lt (show IsS91 w0 _ g s0_0 t292 t293 from by repeat (first | (with_reducible first | exact HI0.out | apply IsS91.alloc | apply IsS91.drewN | apply IsS91.drew | apply IsS91.set_1 | apply IsS91.set_2) | exact HI0.out))) : g ≠ gb294)); have n9_ := A_.mk ((by rw [hg]; exact Nat.ne_of_gt (IsS91.lt (show IsS91 w0 _ g s0_0 t292 t293 from by repeat (first | (with_reducible first | exact HI0.out | apply IsS91.alloc | apply IsS91.drewN | apply IsS91.drew | apply IsS91.set_1 | apply IsS91.set_2) | exact HI0.out))) : gb294 ≠ g)); clear HO_3 HO291 HI0 HK HB; have HO_3 := n0_; have HO291 := n1_; have HI0 := n2_; have HK := n3_; have HB := n4_; have BK294 := n5_; have GW294 := n6_; have GE294 := n7_; have NB0_294 := n8_; have NB294_0 := n9_; clear n0_ n1_ n2_ n3_ n4_ n5_ n6_ n7_ n8_ n9_ hb hbox hg; have hnb13 := NB294_0.out; have hnc13 := NB0_294.out; have hcz14_0 : w12.cell? ⟨gb294, 0, none⟩ = some (.int .i64 0) := (bc_ BK294.out 0).trans rfl; have hcz14_1 : w12.cell? ⟨gb294, 1, none⟩ = some (.int .i64 0) := (bc_ BK294.out 1).trans rfl; have hcz14_2 : w12.cell? ⟨gb294, 2, none⟩ = some (.int .i64 0) := (bc_ BK294.out 2).trans rfl; have hcz14_3 : w12.cell? ⟨gb294, 3, none⟩ = some (.int .i64 0) := (bc_ BK294.out 3).trans rfl; have hcz14_4 : w12.cell? ⟨gb294, 4, none⟩ = some (.int .i64 0) := (bc_ BK294.out 4).trans rfl; have hcz14_5 : w12.cell? ⟨gb294, 5, none⟩ = some (.int .i64 0) := (bc_ BK294.out 5).trans rfl; have hcz14_6 : w12.cell? ⟨gb294, 6, none⟩ = some (.int .i64 0) := (bc_ BK294.out 6).trans rfl; have hcz14_7 : w12.cell? ⟨gb294, 7, none⟩ = some (.slice none 0 0) := (bc_ BK294.out 7).trans rfl; have hfz14_0 := bf_ BK294.out 0; have hfz14_1 := bf_ BK294.out 1; have hfz14_2 := bf_ BK294.out 2; have hfz14_3 := bf_ BK294.out 3; have hfz14_4 := bf_ BK294.out 4; have hfz14_5 := bf_ BK294.out 5; have hfz14_6 := bf_ BK294.out 6; have hfz14_7 := bf_ BK294.out 7; obtain ⟨Ao15, co15, eo15⟩ := Kd.R_slice HO291.out; subst eo15) | ((with_reducible refine gc_ (f := 76) rfl ?_); refine gl_ (some 20) Try.func76 #[.pointer (some ⟨g, 0, none⟩), .int .i64 2] ?_; (with_reducible refine (spec_l01Below.calls g s0_0 t292 t293 2 t295 t296 t297 w0 _ ?side1 ?side2 A8.out).mono ?_); (case side1 => repeat (first | (with_reducible first | exact HI0.out | apply IsS91.alloc | apply IsS91.drewN | apply IsS91.drew | apply IsS91.set_1 | apply IsS91.set_2 | refine IsS91.far ?_ NB0_294.out _) | exact HI0.out)); (case side2 => repeat (first | (with_reducible first | exact HB.out | apply ba_ | apply bd_ | apply be_ | refine bs_ ?_ (IsS91.ge HI0.out) | refine bs_ ?_ GE294.out) | exact HB.out)); rintro e w16 ⟨rfl, hi, hb, hk⟩; refine ⟨_, rfl, ?_⟩; have n0_ := A_.mk (Kd.S_mono (Kd.S_keep (IsS91.apartS (show IsS91 w0 _ g s0_0 t292 t293 from by repeat (first | (with_reducible first | exact HI0.out | apply IsS91.alloc | apply IsS91.drewN | apply IsS91.drew | apply IsS91.set_1 | apply IsS91.set_2 | refine IsS91.far ?_ NB0_294.out _) | exact HI0.out)) (by (with_reducible repeat (first | apply Kd.S_alloc | apply Kd.S_drewN | apply Kd.S_drew)); exact (Kd.S_mono (Kd.S_far (p := ⟨gb294, 2, none⟩) (Kd.S_far (p := ⟨gb294, 7, none⟩) (Kd.S_far (p := ⟨gb294, 6, none⟩) (Kd.S_far (p := ⟨gb294, 5, none⟩) (Kd.S_far (p := ⟨gb294, 4, none⟩) (Kd.S_far (p := ⟨gb294, 3, none⟩) (Kd.S_far (p := ⟨gb294, 2, none⟩) (Kd.S_far (p := ⟨gb294, 1, none⟩) (Kd.S_far (p := ⟨gb294, 0, none⟩) (Kd.S_mono HO_3.out (fun k_ hk => (⟨hk, hk.2⟩ : _ ∧ k_ ≠ gb294))) (fun _ hk => hk.2) (.int .i64 t282)) (fun _ hk => hk.2) (.int .i64 t283)) (fun _ hk => hk.2) (.int .i64 t284)) (fun _ hk => hk.2) (.int .i64 t285)) (fun _ hk => hk.2) (.int .i64 t286)) (fun _ hk => hk.2) (.int .i64 t287)) (fun _ hk => hk.2) (.int .i64 t288)) (fun _ hk => hk.2) (.slice Ao15 t289.length co15)) (fun _ hk => hk.2) (.int .i64 16)) (fun _ h_ => h_.1))) (by decide)) hk (fun _ h => h.2)) (fun _ h => h.1)); have n1_ := A_.mk (Kd.R_mono (Kd.R_keep (IsS91.apart (show IsS91 w0 _ g s0_0 t292 t293 from by repeat (first | (with_reducible first | exact HI0.out | apply IsS91.alloc | apply IsS91.drewN | apply IsS91.drew | apply IsS91.set_1 | apply IsS91.set_2 | refine IsS91.far ?_ NB0_294.out _) | exact HI0.out)) (by (repeat apply rX); exact (Kd.R_mono (Kd.R_far (p := ⟨gb294, 2, none⟩) (Kd.R_far (p := ⟨gb294, 7, none⟩) (Kd.R_far (p := ⟨gb294, 6, none⟩) (Kd.R_far (p := ⟨gb294, 5, none⟩) (Kd.R_far (p := ⟨gb294, 4, none⟩) (Kd.R_far (p := ⟨gb294, 3, none⟩) (Kd.R_far (p := ⟨gb294, 2, none⟩) (Kd.R_far (p := ⟨gb294, 1, none⟩) (Kd.R_far (p := ⟨gb294, 0, none⟩) (Kd.R_types HO291.out BK294.out (by decide)) (fun _ hk => hk.2) (.int .i64 t282)) (fun _ hk => hk.2) (.int .i64 t283)) (fun _ hk => hk.2) (.int .i64 t284)) (fun _ hk => hk.2) (.int .i64 t285)) (fun _ hk => hk.2) (.int .i64 t286)) (fun _ hk => hk.2) (.int .i64 t287)) (fun _ hk => hk.2) (.int .i64 t288)) (fun _ hk => hk.2) (.slice Ao15 t289.length co15)) (fun _ hk => hk.2) (.int .i64 16)) (fun _ h_ => h_.1))) (by decide)) hk (fun _ h => h.2)) (fun _ h => h.1)); have n2_ := A_.mk (KB_.blk hk (g' := gb294) (o := .cells #[.int .i64 t282, .int .i64 t283, .int .i64 16, .int .i64 t285, .int .i64 t286, .int .i64 t287, .int .i64 t288, .slice Ao15 t289.length co15] 60 (0, 0)) (by (repeat apply bX); refine bp_ (cs := #[.int .i64 t282, .int .i64 t283, .int .i64 t284, .int .i64 t285, .int .i64 t286, .int .i64 t287, .int .i64 t288, .slice Ao15 t289.length co15]) ?_ 2 _ rfl; (repeat apply bX); refine bp_ (cs := #[.int .i64 t282, .int .i64 t283, .int .i64 t284, .int .i64 t285, .int .i64 t286, .int .i64 t287, .int .i64 t288, .slice none 0 0]) ?_ 7 _ rfl; (repeat apply bX); refine bp_ (cs := #[.int .i64 t282, .int .i64 t283, .int .i64 t284, .int .i64 t285, .int .i64 t286, .int .i64 t287, .int .i64 0, .slice none 0 0]) ?_ 6 _ rfl; (repeat apply bX); refine bp_ (cs := #[.int .i64 t282, .int .i64 t283, .int .i64 t284, .int .i64 t285, .int .i64 t286, .int .i64 0, .int .i64 0, .slice none 0 0]) ?_ 5 _ rfl; (repeat apply bX); refine bp_ (cs := #[.int .i64 t282, .int .i64 t283, .int .i64 t284, .int .i64 t285, .int .i64 0, .int .i64 0, .int .i64 0, .slice none 0 0]) ?_ 4 _ rfl; (repeat apply bX); refine bp_ (cs := #[.int .i64 t282, .int .i64 t283, .int .i64 t284, .int .i64 0, .int .i64 0, .int .i64 0, .int .i64 0, .slice none 0 0]) ?_ 3 _ rfl; (repeat apply bX); refine bp_ (cs := #[.int .i64 t282, .int .i64 t283, .int .i64 0, .int .i64 0, .int .i64 0, .int .i64 0, .int .i64 0, .slice none 0 0]) ?_ 2 _ rfl; (repeat apply bX); refine bp_ (cs := #[.int .i64 t282, .int .i64 0, .int .i64 0, .int .i64 0, .int .i64 0, .int .i64 0, .int .i64 0, .slice none 0 0]) ?_ 1 _ rfl; (repeat apply bX); refine bp_ (cs := #[.int .i64 0, .int .i64 0, .int .i64 0, .int .i64 0, .int .i64 0, .int .i64 0, .int .i64 0, .slice none 0 0]) ?_ 0 _ rfl; (repeat apply bX); exact BK294.out) NB294_0.out (by simp)); have n3_ := A_.mk (KB_.trans (by repeat (first | (with_reducible first | exact HK.out | apply KB_.set_ | apply kn_ | apply kd_ | apply ka_ | refine kf_ ?_ GW294.out _) | exact HK.out)) hk (.inl rfl)); have n4_ := A_.mk (hb); have n5_ := A_.mk (hi); clear HO_3 HO291 BK294 HK HB HI0; have HO_3 := n0_; have HO291 := n1_; have BK294 := n2_; have HK := n3_; have HB := n4_; have HI0 := n5_; clear n0_ n1_ n2_ n3_ n4_ n5_; (try clear hb); (try clear hb2); (try clear hk); (try clear hi); have hcz17_0 : w16.cell? ⟨gb294, 0, none⟩ = some (.int .i64 t282) := (bc_ BK294.out 0).trans rfl; have hcz17_1 : w16.cell? ⟨gb294, 1, none⟩ = some (.int .i64 t283) := (bc_ BK294.out 1).trans rfl; have hcz17_2 : w16.cell? ⟨gb294, 2, none⟩ = some (.int .i64 16) := (bc_ BK294.out 2).trans rfl; have hcz17_3 : w16.cell? ⟨gb294, 3, none⟩ = some (.int .i64 t285) := (bc_ BK294.out 3).trans rfl; have hcz17_4 : w16.cell? ⟨gb294, 4, none⟩ = some (.int .i64 t286) := (bc_ BK294.out 4).trans rfl; have hcz17_5 : w16.cell? ⟨gb294, 5, none⟩ = some (.int .i64 t287) := (bc_ BK294.out 5).trans rfl; have hcz17_6 : w16.cell? ⟨gb294, 6, none⟩ = some (.int .i64 t288) := (bc_ BK294.out 6).trans rfl; have hcz17_7 : w16.cell? ⟨gb294, 7, none⟩ = some (.slice Ao15 t289.length co15) := (bc_ BK294.out 7).trans rfl; have hfz17_0 := bf_ BK294.out 0; have hfz17_1 := bf_ BK294.out 1; have hfz17_2 := bf_ BK294.out 2; have hfz17_3 := bf_ BK294.out 3; have hfz17_4 := bf_ BK294.out 4; have hfz17_5 := bf_ BK294.out 5; have hfz17_6 := bf_ BK294.out 6; have hfz17_7 := bf_ BK294.out 7) | ((with_reducible refine gs_ (t := 3) (p := 21) rfl ?_); refine se_ (t := 3) (p := 21) (v := ?vo_w18) (w1 := (w16.setCell ⟨gb294, 5, none⟩ (.int .i64 t295))) ?hg ?ho ?hn ?hr ?_; (case ho => rfl); (case hg => rfl); (case hn => rfl); (case hr => first | (go_simp; done) | (go_simp; rfl)); intro w18 hw; have n0_ : A_ (Kd.S k60 60 w18 w.heap.size (fun k_ => some k_ ≠ (.slice Ao15 t289.length co15 : Value).ownBlock ∧ k_ ≠ gb294) u3 x3_1) := ⟨(by rw [hw]; exact (by (with_reducible repeat (first | apply Kd.S_alloc | apply Kd.S_drewN | apply Kd.S_drew)); exact Kd.S_mono (Kd.S_far (p := ⟨gb294, 5, none⟩) (Kd.S_mono HO_3.out (fun k_ hk => (⟨hk, hk.2⟩ : _ ∧ k_ ≠ gb294))) (fun _ hk => hk.2) (.int .i64 t295)) (fun _ hk => ⟨hk.1.1.2, hk.1.2⟩)))⟩; have n1_ : A_ (Kd.R (Kd.int .i64) 3 w18 w.heap.size (fun _ => True) (.slice Ao15 t289.length co15) t289) := ⟨(by rw [hw]; exact (by (repeat apply rX); exact Kd.R_mono (Kd.R_far (p := ⟨gb294, 5, none⟩) (Kd.R_types HO291.out BK294.out (by decide)) (fun _ hk => hk.2) (.int .i64 t295)) (fun _ hk => trivial)))⟩; have n2_ : A_ (w18.heap[gb294]? = some (.cells #[.int .i64 t282, .int .i64 t283, .int .i64 16, .int .i64 t285, .int .i64 t286, .int .i64 t295, .int .i64 t288, .slice Ao15 t289.length co15] 60 (0, 0))) := ⟨(by rw [hw]; exact (by (repeat apply bX); refine bp_ (cs := #[.int .i64 t282, .int .i64 t283, .int .i64 16, .int .i64 t285, .int .i64 t286, .int .i64 t287, .int .i64 t288, .slice Ao15 t289.length co15]) ?_ 5 _ rfl; (repeat apply bX); exact BK294.out))⟩; have n3_ : A_ (IsS91 w0 w18 g s0_0 t296 t297) := ⟨(by rw [hw]; exact (by repeat (first | (with_reducible first | exact HI0.out | apply IsS91.alloc | apply IsS91.drewN | apply IsS91.drew | apply IsS91.set_1 | apply IsS91.set_2 | refine IsS91.far ?_ NB0_294.out _) | exact HI0.out)))⟩; have n4_ : A_ (KB_ w w18 g none) := ⟨(by rw [hw]; exact (by repeat (first | (with_reducible first | exact HK.out | apply KB_.set_ | apply kn_ | apply kd_ | apply ka_ | refine kf_ ?_ GW294.out _) | exact HK.out)))⟩; have n5_ : A_ (Below w0.heap.size w0 w18) := ⟨(by rw [hw]; exact (by repeat (first | (with_reducible first | exact HB.out | apply ba_ | apply bd_ | apply be_ | refine bs_ ?_ (IsS91.ge HI0.out) | refine bs_ ?_ GE294.out) | exact HB.out)))⟩; clear hw HO_3 HO291 BK294 HI0 HK HB; have HO_3 := n0_; have HO291 := n1_; have BK294 := n2_; have HI0 := n3_; have HK := n4_; have HB := n5_; clear n0_ n1_ n2_ n3_ n4_ n5_; have hcz19_0 : w18.cell? ⟨gb294, 0, none⟩ = some (.int .i64 t282) := (bc_ BK294.out 0).trans rfl; have hcz19_1 : w18.cell? ⟨gb294, 1, none⟩ = some (.int .i64 t283) := (bc_ BK294.out 1).trans rfl; have hcz19_2 : w18.cell? ⟨gb294, 2, none⟩ = some (.int .i64 16) := (bc_ BK294.out 2).trans rfl; have hcz19_3 : w18.cell? ⟨gb294, 3, none⟩ = some (.int .i64 t285) := (bc_ BK294.out 3).trans rfl; have hcz19_4 : w18.cell? ⟨gb294, 4, none⟩ = some (.int .i64 t286) := (bc_ BK294.out 4).trans rfl; have hcz19_5 : w18.cell? ⟨gb294, 5, none⟩ = some (.int .i64 t295) := (bc_ BK294.out 5).trans rfl; have hcz19_6 : w18.cell? ⟨gb294, 6, none⟩ = some (.int .i64 t288) := (bc_ BK294.out 6).trans rfl; have hcz19_7 : w18.cell? ⟨gb294, 7, none⟩ = some (.slice Ao15 t289.length co15) := (bc_ BK294.out 7).trans rfl; have hfz19_0 := bf_ BK294.out 0; have hfz19_1 := bf_ BK294.out 1; have hfz19_2 := bf_ BK294.out 2; have hfz19_3 := bf_ BK294.out 3; have hfz19_4 := bf_ BK294.out 4; have hfz19_5 := bf_ BK294.out 5; have hfz19_6 := bf_ BK294.out 6; have hfz19_7 := bf_ BK294.out 7) | ((with_reducible refine gate_builtin (b := .append) (xs := #[.tmp 22, .tmp 24]) rfl ?_); at_builtin; refine Kd.S_append k60 w.heap.size rfl (.tmp 22) (.tmp 24) 27 60 (.agg #[(.int .i64 0), (.int .i64 0), (.int .i64 0), (.int .i64 0), (.int .i64 0), (.int .i64 0), (.int .i64 0), (.slice none 0 0)]) 80 rfl Try.underlying27 info60 rfl (by decide) (by omega) u3 x3_1 (⟨t282, t283, 16, t285, t286, t295, t288, t289⟩ : S60) [.int .i64 t282, .int .i64 t283, .int .i64 16, .int .i64 t285, .int .i64 t286, .int .i64 t295, .int .i64 t288, .slice Ao15 t289.length co15] (fun k_ => k_ ≠ gb294) (fun k_ => some k_ = (.slice Ao15 t289.length co15 : Value).ownBlock) rfl rfl ?aP (fun k_ hk_ => ((Kd.R_mono (ok' := fun k_ => ((fun k_ => k_ ≠ gb294)) k_ ∧ some k_ ≠ (u3 : Value).ownBlock) (Kd.R_types (Kd.R_apart' (HO291.out) (Kd.S_typed HO_3.out) (by decide)) BK294.out (by decide)) (fun k_ hk => ⟨hk.2, hk.1.2⟩))).1 k_ hk_.symm) ?aF ?aO (Below.refl _ _) ?aS ?aL ?_; (case aP => exact k60_mkM _ _ _ (⟨t282, t283, 16, t285, t286, t295, t288, t289⟩ : S60) (Kd.R_mono (Kd.R_tight rfl (Kd.R_mono (ok' := fun k_ => ((fun k_ => k_ ≠ gb294)) k_ ∧ some k_ ≠ (u3 : Value).ownBlock) (Kd.R_types (Kd.R_apart' (HO291.out) (Kd.S_typed HO_3.out) (by decide)) BK294.out (by decide)) (fun k_ hk => ⟨hk.2, hk.1.2⟩))) (fun _ h_ => h_))); (case aF => exact (fun k_ hk => Kd.freshB (g := gb294) (o := .cells #[.int .i64 t282, .int .i64 t283, .int .i64 16, .int .i64 t285, .int .i64 t286, .int .i64 t295, .int .i64 t288, .slice Ao15 t289.length co15] 60 (0, 0)) (bY BK294.out) k_ hk)); (case aO => exact (by (with_reducible repeat (first | apply Kd.S_alloc | apply Kd.S_drewN | apply Kd.S_drew)); exact Kd.S_mono HO_3.out (fun k_ hk => ⟨hk.2, fun e_ => hk.1 e_⟩))); (case aS => exact (keep_size (w := w) (g := g) (row := none) (by repeat (first | (with_reducible first | exact HK.out | apply KB_.set_ | apply kn_ | apply kd_ | apply ka_ | refine kf_ ?_ GW294.out _) | exact HK.out)))); (case aL => have := LMc9.out; omega); intro v299 w20 ho hb hg hat; rw [← Ny298.out] at ho; have n0_ := A_.mk (IsS91.grown (by repeat (first | (with_reducible first | exact HI0.out | apply IsS91.alloc | apply IsS91.drewN | apply IsS91.drew | apply IsS91.set_1 | apply IsS91.set_2 | refine IsS91.far ?_ NB0_294.out _) | exact HI0.out)) hg (IsS91.own_neS HI0.out HO_3.out (by decide))); have n1_ := A_.mk (blk_grown (g := gb294) (o := .cells #[.int .i64 t282, .int .i64 t283, .int .i64 16, .int .i64 t285, .int .i64 t286, .int .i64 t295, .int .i64 t288, .slice Ao15 t289.length co15] 60 (0, 0)) (bY BK294.out) hg (Kd.S_away HO_3.out (fun _ hk => hk.2))); have n2_ := A_.mk (below_weaken (by repeat (first | (with_reducible first | exact HB.out | apply ba_ | apply bd_ | apply be_ | refine bs_ ?_ (IsS91.ge HI0.out) | refine bs_ ?_ GE294.out) | exact HB.out)) HL.out hb); have n3_ := A_.mk (KB_.trans (by repeat (first | (with_reducible first | exact HK.out | apply KB_.set_ | apply kn_ | apply kd_ | apply ka_ | refine kf_ ?_ GW294.out _) | exact HK.out)) (KB_.of_grown hg g) (Kd.S_base2 HO_3.out)); have n4_ := A_.mk (ho); clear HI0 BK294 HB HK HO_3 HO291; have HI0 := n0_; have BK294 := n1_; have HB := n2_; have HK := n3_; have HO300 := n4_; clear n0_ n1_ n2_ n3_ n4_ ho hb hg hat))
   go_roundg k1
   case measure => have := HK1.out; omega
   case rel => exact ⟨(y298), (wrap64 (x4_1 + 1)), (t296), (t297), (by first | rfl | (simp; done) | (simp [*]; done)), H', ⟨by have := HK1.out; omega⟩, ⟨by (with_reducible repeat (first | apply Kd.S_alloc | apply Kd.S_drewN | apply Kd.S_drew)); exact Kd.S_mono HO300.out (fun _ hk => trivial)⟩, ⟨by repeat (first | (with_reducible first | exact HI0.out | apply IsS91.alloc | apply IsS91.drewN | apply IsS91.drew | apply IsS91.set_1 | apply IsS91.set_2 | refine IsS91.far ?_ NB0_294.out _) | exact HI0.out)⟩, ⟨by repeat (first | (with_reducible first | exact HK.out | apply KB_.set_ | apply kn_ | apply kd_ | apply ka_ | refine kf_ ?_ GW294.out _) | exact HK.out)⟩, ⟨by repeat (first | (with_reducible first | exact HB.out | apply ba_ | apply bd_ | apply be_ | refine bs_ ?_ (IsS91.ge HI0.out) | refine bs_ ?_ GE294.out) | exact HB.out)⟩⟩
/-! ### spec_l14Credits: function 80 -/
def spec_l14Credits.l0 : Nat → Int → List Int → Int → Int → List Int → List Int → Option (List Int × List Int × Int × Int)
 | 0, _, _, _, _, _, _ => none
 | k + 1, x4, x1000, x1001, x1002, x306000, x306001 => if x4 < 3 then ((spec_l01PickInt.f x1000 x1001 x1002 (([1, 2, 4, 0, 30] : List Int))).bind fun bt309 => (if x306000.length < 17592186044416 then ((spec_l01PickInt.f x1000 bt309.2.1 bt309.2.2 (([2, 4, 0, 1, 30] : List Int))).bind fun bt318 => (if x306001.length < 17592186044416 then (spec_l14Credits.l0 k (wrap64 (x4 + 1)) x1000 bt318.2.1 bt318.2.2 (x306000 ++ [bt309.1]) (x306001 ++ [bt318.1])) else (none))) else (none))) else (some (x306000, x306001, x1001, x1002))
def spec_l14Credits.f (k : Nat) (s0_0 : List Int) (s0_1 : Int) (s0_2 : Int) : Option (List Int × List Int × Int × Int) := spec_l14Credits.l0 k 0 s0_0 s0_1 s0_2 ([] : List Int) ([] : List Int)
def spec_l14Credits.T5 : Bool × List (List Nat × List Nat) := (true, [([], []), ([0], [0]), ([], []), ([], []), ([2, 3], [2, 3]), ([4], [4]), ([1, 5, 4], [1, 5]), ([0, 1, 2, 3, 4, 5, 6], []), ([7, 6, 6, 0, 1, 2, 3, 4, 5, 6], [6, 7])])
def spec_l14Credits.B5 : List Nat := [0, 1, 0, 0, 12, 28, 63, 127, 255]
theorem spec_l14Credits.tab5 : rtab .any (opsOf Try.f80 5) = spec_l14Credits.T5 := by kernel_rfl
theorem spec_l14Credits.bits5 : waitsOk spec_l14Credits.T5.2 spec_l14Credits.B5 = true := by kernel_rfl
def spec_l14Credits.T6 : Bool × List (List Nat × List Nat) := (true, [([], []), ([0], [0]), ([], []), ([], []), ([2, 3], [2, 3]), ([4], [4]), ([1, 5, 4], [1, 5]), ([0, 1, 2, 3, 4, 5, 6], []), ([7, 6, 6, 0, 1, 2, 3, 4, 5, 6], [6, 7])])
def spec_l14Credits.B6 : List Nat := [0, 1, 0, 0, 12, 28, 63, 127, 255]
theorem spec_l14Credits.tab6 : rtab .any (opsOf Try.f80 6) = spec_l14Credits.T6 := by kernel_rfl
theorem spec_l14Credits.bits6 : waitsOk spec_l14Credits.T6.2 spec_l14Credits.B6 = true := by kernel_rfl
set_option maxHeartbeats 8000000 in
set_option maxRecDepth 100000 in
theorem spec_l14Credits.calls (k : Nat) (g : Nat) (s0_0 : List Int) (s0_1 : Int) (s0_2 : Int) (r1 : List Int) (r2 : List Int) (r3 : Int) (r4 : Int) (w0 w : World) (hI : IsS91 w0 w g s0_0 s0_1 s0_2) (hB : Below w0.heap.size w0 w) (h : spec_l14Credits.f k s0_0 s0_1 s0_2 = some (r1, r2, r3, r4)) :
  Calls Try.prog 80 #[.pointer (some ⟨g, 0, none⟩)] w fun e w' => ∃ v0_ v1_ : Value, e = .returned (.agg #[v0_, v1_]) ∧ Kd.R (Kd.int .i64) 3 w' w.heap.size (fun k_ => some k_ ≠ (v1_ : Value).ownBlock) v0_ r1 ∧ Kd.R (Kd.int .i64) 3 w' w.heap.size (fun k_ => some k_ ≠ (v0_ : Value).ownBlock) v1_ r2 ∧ IsS91 w0 w' g s0_0 r3 r4 ∧ Below w0.heap.size w0 w' ∧ KB_ w w' g none := by
 have hu26 := Try.underlying26
 have HI0 := A_.mk hI
 have HK := A_.mk (KB_.refl w g none)
 have HL := A_.mk hB.size
 clear hI
 have HW0 := A_.mk hB.size
 have HB := A_.mk hB
 clear hB
 have H : (spec_l14Credits.l0 k 0 s0_0 s0_1 s0_2 ([] : List Int) ([] : List Int)) = some (r1, r2, r3, r4) := h
 clear h
 have H' := A_.mk H
 clear H
 go_enter Try.func80, Try.ntmps80
 go_wp2_with (first | ((with_reducible refine gd_ (N := 2) rfl ?_); refine by_ 2 (cs := #[.slice none 0 0, .slice none 0 0]) (t := 26) ?_; intro gb304 hg w2 hbox hb; have n0_ := A_.mk (IsS91.below (by repeat (first | (with_reducible first | exact HI0.out | apply IsS91.alloc | apply IsS91.drewN | apply IsS91.drew | apply IsS91.set_1 | apply IsS91.set_2) | exact HI0.out)) hb); have n1_ := A_.mk (KB_.trans (by repeat (first | (with_reducible first | exact HK.out | apply KB_.set_ | apply kn_ | apply kd_ | apply ka_) | exact HK.out)) (KB_.of_below hb g none) (.inl rfl)); have n2_ := A_.mk (bt_ (by repeat (first | (with_reducible first | exact HB.out | apply ba_ | apply bd_ | apply be_ | refine bs_ ?_ (IsS91.ge HI0.out)) | exact HB.out)) hb); have n3_ := A_.mk (hbox); have n4_ := A_.mk ((by rw [hg]; exact (keep_size (w := w) (g := g) (row := none) (by repeat (first | (with_reducible first | exact HK.out | apply KB_.set_ | apply kn_ | apply kd_ | apply ka_) | exact HK.out))) : w.heap.size ≤ gb304)); have n5_ := A_.mk ((Nat.le_trans HW0.out (by rw [hg]; exact (keep_size (w := w) (g := g) (row := none) (by repeat (first | (with_reducible first | exact HK.out | apply KB_.set_ | apply kn_ | apply kd_ | apply ka_) | exact HK.out))) : w.heap.size ≤ gb304) : w0.heap.size ≤ gb304)); have n6_ := A_.mk ((by rw [hg]; exact Nat.ne_of_lt (IsS91.lt (show IsS91 w0 _ g s0_0 s0_1 s0_2 from by repeat (first | (with_reducible first | exact HI0.out | apply IsS91.alloc | apply IsS91.drewN | apply IsS91.drew | apply IsS91.set_1 | apply IsS91.set_2) | exact HI0.out))) : g ≠ gb304)); have n7_ := A_.mk ((by rw [hg]; exact Nat.ne_of_gt (IsS91.lt (show IsS91 w0 _ g s0_0 s0_1 s0_2 from by repeat (first | (with_reducible first | exact HI0.out | apply IsS91.alloc | apply IsS91.drewN | apply IsS91.drew | apply IsS91.set_1 | apply IsS91.set_2) | exact HI0.out))) : gb304 ≠ g)); clear HI0 HK HB; have HI0 := n0_; have HK := n1_; have HB := n2_; have BK304 := n3_; have GW304 := n4_; have GE304 := n5_; have NB0_304 := n6_; have NB304_0 := n7_; clear n0_ n1_ n2_ n3_ n4_ n5_ n6_ n7_ hb hbox hg) | ((with_reducible refine gd_ (N := 3) rfl ?_); refine by_ 3 (cs := #[.slice none 0 0, .slice none 0 0]) (t := 26) ?_; intro gb305 hg w3 hbox hb; have n0_ := A_.mk (IsS91.below (by repeat (first | (with_reducible first | exact HI0.out | apply IsS91.alloc | apply IsS91.drewN | apply IsS91.drew | apply IsS91.set_1 | apply IsS91.set_2 | refine IsS91.far ?_ NB0_304.out _) | exact HI0.out)) hb); have n1_ := A_.mk (bb_ (bY BK304.out) hb); have n2_ := A_.mk (KB_.trans (by repeat (first | (with_reducible first | exact HK.out | apply KB_.set_ | apply kn_ | apply kd_ | apply ka_ | refine kf_ ?_ GW304.out _) | exact HK.out)) (KB_.of_below hb g none) (.inl rfl)); have n3_ := A_.mk (bt_ (by repeat (first | (with_reducible first | exact HB.out | apply ba_ | apply bd_ | apply be_ | refine bs_ ?_ (IsS91.ge HI0.out) | refine bs_ ?_ GE304.out) | exact HB.out)) hb); have n4_ := A_.mk (hbox); have n5_ := A_.mk ((by rw [hg]; exact (keep_size (w := w) (g := g) (row := none) (by repeat (first | (with_reducible first | exact HK.out | apply KB_.set_ | apply kn_ | apply kd_ | apply ka_ | refine kf_ ?_ GW304.out _) | exact HK.out))) : w.heap.size ≤ gb305)); have n6_ := A_.mk ((Nat.le_trans HW0.out (by rw [hg]; exact (keep_size (w := w) (g := g) (row := none) (by repeat (first | (with_reducible first | exact HK.out | apply KB_.set_ | apply kn_ | apply kd_ | apply ka_ | refine kf_ ?_ GW304.out _) | exact HK.out))) : w.heap.size ≤ gb305) : w0.heap.size ≤ gb305)); have n7_ := A_.mk ((by rw [hg]; exact Nat.ne_of_lt (blk_lt (bY BK304.out)) : gb304 ≠ gb305)); have n8_ := A_.mk ((by rw [hg]; exact Nat.ne_of_gt (blk_lt (bY BK304.out)) : gb305 ≠ gb304)); have n9_ := A_.mk ((by rw [hg]; exact Nat.ne_of_lt (IsS91.lt (show IsS91 w0 _ g s0_0 s0_1 s0_2 from by repeat (first | (with_reducible first | exact HI0.out | apply IsS91.alloc | apply IsS91.drewN | apply IsS91.drew | apply IsS91.set_1 | apply IsS91.set_2 | refine IsS91.far ?_ NB0_304.out _) | exact HI0.out))) : g ≠ gb305)); have n10_ := A_.mk ((by rw [hg]; exact Nat.ne_of_gt (IsS91.lt (show IsS91 w0 _ g s0_0 s0_1 s0_2 from by repeat (first | (with_reducible first | exact HI0.out | apply IsS91.alloc | apply IsS91.drewN | apply IsS91.drew | apply IsS91.set_1 | apply IsS91.set_2 | refine IsS91.far ?_ NB0_304.out _) | exact HI0.out))) : gb305 ≠ g)); clear HI0 BK304 HK HB; have HI0 := n0_; have BK304 := n1_; have HK := n2_; have HB := n3_; have BK305 := n4_; have GW305 := n5_; have GE305 := n6_; have NB304_305 := n7_; have NB305_304 := n8_; have NB0_305 := n9_; have NB305_0 := n10_; clear n0_ n1_ n2_ n3_ n4_ n5_ n6_ n7_ n8_ n9_ n10_ hb hbox hg; have hnb4 := NB305_304.out; have hnc4 := NB304_305.out; have hnb5 := NB305_0.out; have hnc5 := NB0_305.out; have hcz6_0 : w3.cell? ⟨gb305, 0, none⟩ = some (.slice none 0 0) := (bc_ BK305.out 0).trans rfl; have hcz6_1 : w3.cell? ⟨gb305, 1, none⟩ = some (.slice none 0 0) := (bc_ BK305.out 1).trans rfl; have hfz6_0 := bf_ BK305.out 0; have hfz6_1 := bf_ BK305.out 1))
 go_loopg [4] k (fun kq v4 w' => ∃ (x4_1 : Int) (x1001_1 : Int) (x1002_1 : Int) (x306000_1 : List Int) (x306001_1 : List Int) (u306000 : Value) (u306001 : Value), v4 = .int .i64 x4_1 ∧ A_ (spec_l14Credits.l0 kq x4_1 s0_0 x1001_1 x1002_1 x306000_1 x306001_1 = some (r1, r2, r3, r4)) ∧ A_ (kq ≤ k) ∧ A_ (Kd.R (Kd.int .i64) 3 w' w.heap.size (fun k_ => some k_ ≠ (u306001 : Value).ownBlock) u306000 x306000_1) ∧ A_ (Kd.R (Kd.int .i64) 3 w' w.heap.size (fun k_ => some k_ ≠ (u306000 : Value).ownBlock) u306001 x306001_1) ∧ A_ (w'.heap[gb304]? = some (.cells #[(.slice none 0 0), (.slice none 0 0)] 26 (0, 0))) ∧ A_ (w'.heap[gb305]? = some (.cells #[u306000, u306001] 26 (0, 0))) ∧ A_ (IsS91 w0 w' g s0_0 x1001_1 x1002_1) ∧ A_ (KB_ w w' g none) ∧ A_ (Below w0.heap.size w0 w'))
 case atStart => exact ⟨(0), (s0_1), (s0_2), (([] : List Int)), (([] : List Int)), (.slice none 0 0), (.slice none 0 0), (by first | rfl | (simp; done) | (simp [*]; done)), H', ⟨Nat.le_refl _⟩, ⟨by first | exact Kd.R_nil _ _ _ _ _ | exact Kd.N_nil _ _ _ _ _ | exact Kd.V_nil _ _ _ _ _ | exact Kd.Q_nil _ _ _ _ _ | exact Kd.S_nil _ _ _ _ _⟩, ⟨by first | exact Kd.R_nil _ _ _ _ _ | exact Kd.N_nil _ _ _ _ _ | exact Kd.V_nil _ _ _ _ _ | exact Kd.Q_nil _ _ _ _ _ | exact Kd.S_nil _ _ _ _ _⟩, ⟨by (repeat apply bX); refine blk_far ?_ NB304_305.out _; (repeat apply bX); refine blk_far ?_ NB304_305.out _; (repeat apply bX); exact BK304.out⟩, ⟨by (repeat apply bX); refine bp_ (cs := #[.slice none 0 0, .slice none 0 0]) ?_ 1 _ rfl; (repeat apply bX); refine bp_ (cs := #[.slice none 0 0, .slice none 0 0]) ?_ 0 _ rfl; (repeat apply bX); exact BK305.out⟩, ⟨by repeat (first | (with_reducible first | exact HI0.out | apply IsS91.alloc | apply IsS91.drewN | apply IsS91.drew | apply IsS91.set_1 | apply IsS91.set_2 | refine IsS91.far ?_ NB0_304.out _ | refine IsS91.far ?_ NB0_305.out _) | exact HI0.out)⟩, ⟨by repeat (first | (with_reducible first | exact HK.out | apply KB_.set_ | apply kn_ | apply kd_ | apply ka_ | refine kf_ ?_ GW304.out _ | refine kf_ ?_ GW305.out _) | exact HK.out)⟩, ⟨by repeat (first | (with_reducible first | exact HB.out | apply ba_ | apply bd_ | apply be_ | refine bs_ ?_ (IsS91.ge HI0.out) | refine bs_ ?_ GE304.out | refine bs_ ?_ GE305.out) | exact HB.out)⟩⟩
 case round =>
  clear H'
  obtain ⟨x4_1, x1001_1, x1002_1, x306000_1, x306001_1, u306000, u306001, rfl, HA, HK1, HO_306000, HO_306001, BK304, BK305, HI0, HK, HB⟩ := hrel
  cases gk with
  | zero => exact absurd HA.out (by simp [spec_l14Credits.l0])
  | succ k1 =>
   have H := HA.out
   clear HA
   simp only [spec_l14Credits.l0] at H
   by_cases c7 : x4_1 < 3
   rotate_left
   ·rw [if_neg c7] at H
    have c7b0 : decide (x4_1 < 3) = false := decide_eq_false c7
    clear c7
    simp only [Option.some.injEq, Prod.mk.injEq] at H
    obtain ⟨rfl, rfl, rfl, rfl⟩ := H
    have hnb29 := NB305_304.out
    have hnc29 := NB304_305.out
    have hnb30 := NB305_0.out
    have hnc30 := NB0_305.out
    obtain ⟨hcz31_0, hcz31_1, hfz31_0, hfz31_1⟩ := b2 BK305.out
    obtain ⟨Ao32, co32, eo32⟩ := Kd.R_slice HO_306000.out
    subst eo32
    have hnb33 := NB304_0.out
    have hnc33 := NB0_304.out
    obtain ⟨hcz34_0, hcz34_1, hfz34_0, hfz34_1⟩ := b2 BK304.out
    obtain ⟨Ao35, co35, eo35⟩ := Kd.R_slice HO_306001.out
    subst eo35
    go_wp2
    refine bodyPost_ret (results_cell_row rfl _ _ gb304 26 #[.slice Ao32 x306000_1.length co32, .slice Ao35 x306001_1.length co35] (0, 0) _ rfl (by (repeat apply bX); refine bp_ (cs := #[.slice Ao32 x306000_1.length co32, .slice none 0 0]) ?_ 1 _ rfl; (repeat apply bX); refine bp_ (cs := #[.slice none 0 0, .slice none 0 0]) ?_ 0 _ rfl; (repeat apply bX); exact BK304.out) Try.underlying26 rfl (by kernel_rfl)) rfl ?_
    exact ⟨_, _, by first | rfl | (simp [errW_none, errW_some] <;> rfl) | (simp [*, errW_none, errW_some] <;> rfl), by (repeat apply rX); exact Kd.R_mono (Kd.R_far (p := ⟨gb304, 1, none⟩) (Kd.R_far (p := ⟨gb304, 0, none⟩) (Kd.R_types HO_306000.out BK304.out (by decide)) (fun _ hk => hk.2) (.slice Ao32 x306000_1.length co32)) (fun _ hk => hk.2) (.slice Ao35 x306001_1.length co35)) (fun _ hk => hk.1), by (repeat apply rX); exact Kd.R_mono (Kd.R_far (p := ⟨gb304, 1, none⟩) (Kd.R_far (p := ⟨gb304, 0, none⟩) (Kd.R_types HO_306001.out BK304.out (by decide)) (fun _ hk => hk.2) (.slice Ao32 x306000_1.length co32)) (fun _ hk => hk.2) (.slice Ao35 x306001_1.length co35)) (fun _ hk => hk.1), by repeat (first | (with_reducible first | exact HI0.out | apply IsS91.alloc | apply IsS91.drewN | apply IsS91.drew | apply IsS91.set_1 | apply IsS91.set_2 | refine IsS91.far ?_ NB0_304.out _ | refine IsS91.far ?_ NB0_305.out _) | exact HI0.out), by repeat (first | (with_reducible first | exact HB.out | apply ba_ | apply bd_ | apply be_ | refine bs_ ?_ (IsS91.ge HI0.out) | refine bs_ ?_ GE304.out | refine bs_ ?_ GE305.out) | exact HB.out), by repeat (first | (with_reducible first | exact HK.out | apply KB_.set_ | apply kn_ | apply kd_ | apply ka_ | refine kf_ ?_ GW304.out _ | refine kf_ ?_ GW305.out _) | exact HK.out)⟩
   rw [if_pos c7] at H
   have c7b0 : decide (x4_1 < 3) = true := decide_eq_true c7
   clear c7
   obtain ⟨y306, hy306⟩ : ∃ y_ : List Int, y_ = (([1, 2, 4, 0, 30] : List Int)) := ⟨_, rfl⟩
   replace H : ((spec_l01PickInt.f s0_0 x1001_1 x1002_1 y306).bind fun bt309 => (if x306000_1.length < 17592186044416 then ((spec_l01PickInt.f s0_0 bt309.2.1 bt309.2.2 (([2, 4, 0, 1, 30] : List Int))).bind fun bt318 => (if x306001_1.length < 17592186044416 then (spec_l14Credits.l0 k1 (wrap64 (x4_1 + 1)) s0_0 bt318.2.1 bt318.2.2 (x306000_1 ++ [bt309.1]) (x306001_1 ++ [bt318.1])) else (none))) else (none))) = some (r1, r2, r3, r4) := by first | (rw [hy306]; with_reducible exact H) | (have H2_ := (Option.bind_some _ _).symm.trans H; rw [hy306]; with_reducible exact H2_) | (have H2_ := (Option.bind_some _ _).symm.trans H; with_reducible exact H2_) | with_reducible exact H | (rw [hy306]; exact H) | exact H
   have Ny306 := A_.mk hy306
   clear hy306
   replace H := ob_ H
   obtain ⟨⟨t309, t310, t311⟩, A80, H⟩ := H
   replace H : (if x306000_1.length < 17592186044416 then ((spec_l01PickInt.f s0_0 t310 t311 (([2, 4, 0, 1, 30] : List Int))).bind fun bt318 => (if x306001_1.length < 17592186044416 then (spec_l14Credits.l0 k1 (wrap64 (x4_1 + 1)) s0_0 bt318.2.1 bt318.2.2 (x306000_1 ++ [t309]) (x306001_1 ++ [bt318.1])) else (none))) else (none)) = some (r1, r2, r3, r4) := H
   have A8 := A_.mk A80
   clear A80
   by_cases c9 : x306000_1.length < 17592186044416
   rotate_left
   ·rw [if_neg c9] at H
    exact absurd H (by simp)
   rw [if_pos c9] at H
   have LMc9 := A_.mk c9
   clear c9
   obtain ⟨y312, hy312⟩ : ∃ y_ : List Int, y_ = (x306000_1 ++ [t309]) := ⟨_, rfl⟩
   replace H : ((spec_l01PickInt.f s0_0 t310 t311 (([2, 4, 0, 1, 30] : List Int))).bind fun bt318 => (if x306001_1.length < 17592186044416 then (spec_l14Credits.l0 k1 (wrap64 (x4_1 + 1)) s0_0 bt318.2.1 bt318.2.2 y312 (x306001_1 ++ [bt318.1])) else (none))) = some (r1, r2, r3, r4) := by first | (rw [hy312]; with_reducible exact H) | (have H2_ := (Option.bind_some _ _).symm.trans H; rw [hy312]; with_reducible exact H2_) | (have H2_ := (Option.bind_some _ _).symm.trans H; with_reducible exact H2_) | with_reducible exact H | (rw [hy312]; exact H) | exact H
   have Ny312 := A_.mk hy312
   clear hy312
   obtain ⟨y315, hy315⟩ : ∃ y_ : List Int, y_ = (([2, 4, 0, 1, 30] : List Int)) := ⟨_, rfl⟩
   replace H : ((spec_l01PickInt.f s0_0 t310 t311 y315).bind fun bt318 => (if x306001_1.length < 17592186044416 then (spec_l14Credits.l0 k1 (wrap64 (x4_1 + 1)) s0_0 bt318.2.1 bt318.2.2 y312 (x306001_1 ++ [bt318.1])) else (none))) = some (r1, r2, r3, r4) := by first | (rw [hy315]; with_reducible exact H) | (have H2_ := (Option.bind_some _ _).symm.trans H; rw [hy315]; with_reducible exact H2_) | (have H2_ := (Option.bind_some _ _).symm.trans H; with_reducible exact H2_) | with_reducible exact H | (rw [hy315]; exact H) | exact H
   have Ny315 := A_.mk hy315
   clear hy315
   replace H := ob_ H
   obtain ⟨⟨t318, t319, t320⟩, A100, H⟩ := H
   replace H : (if x306001_1.length < 17592186044416 then (spec_l14Credits.l0 k1 (wrap64 (x4_1 + 1)) s0_0 t319 t320 y312 (x306001_1 ++ [t318])) else (none)) = some (r1, r2, r3, r4) := H
   have A10 := A_.mk A100
   clear A100
   by_cases c11 : x306001_1.length < 17592186044416
   rotate_left
   ·rw [if_neg c11] at H
    exact absurd H (by simp)
   rw [if_pos c11] at H
   have LMc11 := A_.mk c11
   clear c11
   obtain ⟨y321, hy321⟩ : ∃ y_ : List Int, y_ = (x306001_1 ++ [t318]) := ⟨_, rfl⟩
   replace H : (spec_l14Credits.l0 k1 (wrap64 (x4_1 + 1)) s0_0 t319 t320 y312 y321) = some (r1, r2, r3, r4) := by first | (rw [hy321]; with_reducible exact H) | (have H2_ := (Option.bind_some _ _).symm.trans H; rw [hy321]; with_reducible exact H2_) | (have H2_ := (Option.bind_some _ _).symm.trans H; with_reducible exact H2_) | with_reducible exact H | (rw [hy321]; exact H) | exact H
   have Ny321 := A_.mk hy321
   clear hy321
   have H' := A_.mk H
   clear H
   try go_wp2
   have n0_ := A_.mk (Kd.R_drew HO_306000.out)
   have n1_ := A_.mk (Kd.R_drew HO_306001.out)
   have n2_ := A_.mk (bw_ BK304.out)
   have n3_ := A_.mk (bw_ BK305.out)
   have n4_ := A_.mk (IsS91.drew HI0.out)
   have n5_ := A_.mk (kd_ HK.out)
   have n6_ := A_.mk (be_ HB.out)
   clear HO_306000 HO_306001 BK304 BK305 HI0 HK HB
   have HO_306000 := n0_
   have HO_306001 := n1_
   have BK304 := n2_
   have BK305 := n3_
   have HI0 := n4_
   have HK := n5_
   have HB := n6_
   clear n0_ n1_ n2_ n3_ n4_ n5_ n6_
   refine start_ (n := 9) (S := fun w' => w'.cell? ⟨gb305, 0, none⟩ = some (u306000) ∧ w'.cell? ⟨gb305, 1, none⟩ = some (u306001)) (ds := [8]) #[F, F, F, F, F, F, F, F, F] (by kernel_rfl) rfl rfl ⟨(bc_ BK305.out 0).trans rfl, (bc_ BK305.out 1).trans rfl⟩ (fun hHeld => ?_); refine with_tabW spec_l14Credits.tab5 spec_l14Credits.bits5 (fun HT_ HW_ => ?_)
   generalize wr.drew = w12 at HO_306000 HO_306001 BK304 BK305 HI0 HK HB hHeld ⊢
   refine pr_ (i := 0) (N := some 10) #[T, F, F, F, F, F, F, F, F] rfl HT_.out ?_
   refine pr_ (i := 2) (N := some 12) #[T, F, T, F, F, F, F, F, F] rfl HT_.out ?_
   refine take_ (i := 1) (N := some 11) (v := ?_) (a' := ?_) #[T, T, T, F, F, F, F, F, F] rfl rfl (take_ofW HT_.out HW_.out (by kernel_rfl)) (fun _ _ _ h => h) (Or.inl ⟨by rfl, ?_⟩) hHeld ?_ ?_
   rotate_left
   ·rintro w' ⟨s0, s1⟩
    go_simp
    with_reducible rfl
   rotate_left
   ·simp only [pS]
    rfl
   refine one_ (i := 3) (N := some 13) #[T, T, T, T, F, F, F, F, F] rfl rfl (one_of HT_.out (by kernel_rfl)) (by decide) (fun K hK => ?_)
   refine Kd.R_lit_step (Kd.int .i64) _ 3 ?hg (N := 13) ?hd (xs := ([1, 2, 4, 0, 30] : List Int)) (inner := [.int .i64 1, .int .i64 2, .int .i64 4, .int .i64 0, .int .i64 30]) (ok := fun _ => True) (okp := fun _ => True) ?hr ?hp (fun _ hk => hk) trivial (Below.refl _ _) (Nat.le_refl _) (by simp) ?_; (case hd => rfl); (case hg => rfl); (case hr => first | (go_simp; done) | (go_simp; rfl)); (case hp => exact (Reps.one (show Kd.M (Kd.int .i64) _ _ _ 1 [.int .i64 1] from rfl) (Reps.one (show Kd.M (Kd.int .i64) _ _ _ 2 [.int .i64 2] from rfl) (Reps.one (show Kd.M (Kd.int .i64) _ _ _ 4 [.int .i64 4] from rfl) (Reps.one (show Kd.M (Kd.int .i64) _ _ _ 0 [.int .i64 0] from rfl) (Reps.one (show Kd.M (Kd.int .i64) _ _ _ 30 [.int .i64 30] from rfl) (Reps.none _ _)))))))
   intro v307 w13 ho14 hb hg_ hnew_
   clear hg_ hnew_
   (first | rw [← Ny306.out] at ho14 | (simp only [Int.reduceToNat] at ho14; rw [← Ny306.out] at ho14))
   have n0_ := A_.mk (Kd.R_elder' (rY HO_306000.out) (Kd.R_base ho14) hb)
   have n1_ := A_.mk (Kd.R_elder' (rY HO_306001.out) (Kd.R_base ho14) hb)
   have n2_ := A_.mk (Kd.R_lower (Kd.R_new' (Kd.R_new' ho14 (Kd.R_lt (rY HO_306000.out))) (Kd.R_lt (rY HO_306001.out))) (keep_size (w := w) (g := g) (row := none) (by repeat (first | (with_reducible first | exact HK.out | apply KB_.set_ | apply kn_ | apply kd_ | apply ka_ | refine kf_ ?_ GW304.out _ | refine kf_ ?_ GW305.out _) | exact HK.out))))
   have n3_ := A_.mk (bb_ (bY BK304.out) hb)
   have n4_ := A_.mk (bb_ (bY BK305.out) hb)
   have n5_ := A_.mk (IsS91.below (by repeat (first | (with_reducible first | exact HI0.out | apply IsS91.alloc | apply IsS91.drewN | apply IsS91.drew | apply IsS91.set_1 | apply IsS91.set_2 | refine IsS91.far ?_ NB0_304.out _ | refine IsS91.far ?_ NB0_305.out _) | exact HI0.out)) hb)
   have n6_ := A_.mk (KB_.trans (by repeat (first | (with_reducible first | exact HK.out | apply KB_.set_ | apply kn_ | apply kd_ | apply ka_ | refine kf_ ?_ GW304.out _ | refine kf_ ?_ GW305.out _) | exact HK.out)) (KB_.of_below hb g none) (.inl rfl))
   have n7_ := A_.mk (bt_ (by repeat (first | (with_reducible first | exact HB.out | apply ba_ | apply bd_ | apply be_ | refine bs_ ?_ (IsS91.ge HI0.out) | refine bs_ ?_ GE304.out | refine bs_ ?_ GE305.out) | exact HB.out)) hb)
   clear HO_306000 HO_306001 BK304 BK305 HI0 HK HB
   have HO_306000 := n0_
   have HO_306001 := n1_
   have HO308 := n2_
   have BK304 := n3_
   have BK305 := n4_
   have HI0 := n5_
   have HK := n6_
   have HB := n7_
   clear n0_ n1_ n2_ n3_ n4_ n5_ n6_ n7_ hb ho14
   obtain ⟨Ao15, co15, eo15⟩ := Kd.R_slice HO308.out
   (first | subst eo15 | (injection eo15 with f1_ f2_ f3_; have f4_ := f1_.symm; have f5_ := f3_.symm; clear f1_ f2_ f3_; subst f4_; subst f5_))
   refine hK.out _ _ ⟨(bc_ BK305.out 0).trans rfl, (bc_ BK305.out 1).trans rfl⟩ (fun hHeld => ?_)
   clear hK K
   refine norm_ (a' := ?_) ?_ ?_
   rotate_left
   ·show Act.put _ (some 13) _ = _
    simp only [pS]
    rfl
   refine one_ (i := 4) (N := some 14) #[T, T, T, T, T, F, F, F, F] rfl rfl (one_of HT_.out (by kernel_rfl)) (by decide) (fun K hK => ?_)
   refine goes_ Try.func95 (by kernel_rfl) rfl #[.pointer (some ⟨g, 0, none⟩), .slice Ao15 y306.length co15] (by rfl) rfl rfl (by (try simp only [List.map_toArray, List.map_cons, List.map_nil]); first | done | rfl) ?_
   with_reducible refine (spec_l01PickInt.calls g s0_0 x1001_1 x1002_1 _ _ y306 t309 t310 t311 w0 _ ?side1 ?side2 ?side3 ?side4 ?side5 A8.out).mono ?_
   (case side1 => repeat (first | (with_reducible first | exact HI0.out | apply IsS91.alloc | apply IsS91.drewN | apply IsS91.drew | apply IsS91.set_1 | apply IsS91.set_2 | refine IsS91.far ?_ NB0_304.out _ | refine IsS91.far ?_ NB0_305.out _) | exact HI0.out))
   (case side2 => repeat (first | (with_reducible first | exact HB.out | apply ba_ | apply bd_ | apply be_ | refine bs_ ?_ (IsS91.ge HI0.out) | refine bs_ ?_ GE304.out | refine bs_ ?_ GE305.out) | exact HB.out))
   (case side3 => exact cY ((Kd.R_reads' HO308.out).2.2))
   (case side4 => exact (Kd.R_reads' HO308.out).2.1)
   (case side5 => exact far_slice (IsS91.own_ne HI0.out HO308.out (by decide)))
   rintro e w16 ⟨rfl, hi, hb, hk⟩
   refine ⟨_, rfl, ?_⟩
   have n0_ := A_.mk (Kd.R_mono (Kd.R_keep (IsS91.apart (show IsS91 w0 _ g s0_0 x1001_1 x1002_1 from by repeat (first | (with_reducible first | exact HI0.out | apply IsS91.alloc | apply IsS91.drewN | apply IsS91.drew | apply IsS91.set_1 | apply IsS91.set_2 | refine IsS91.far ?_ NB0_304.out _ | refine IsS91.far ?_ NB0_305.out _) | exact HI0.out)) (rY HO_306000.out) (by decide)) hk (fun _ h => h.2)) (fun _ h => h.1))
   have n1_ := A_.mk (Kd.R_mono (Kd.R_keep (IsS91.apart (show IsS91 w0 _ g s0_0 x1001_1 x1002_1 from by repeat (first | (with_reducible first | exact HI0.out | apply IsS91.alloc | apply IsS91.drewN | apply IsS91.drew | apply IsS91.set_1 | apply IsS91.set_2 | refine IsS91.far ?_ NB0_304.out _ | refine IsS91.far ?_ NB0_305.out _) | exact HI0.out)) (rY HO_306001.out) (by decide)) hk (fun _ h => h.2)) (fun _ h => h.1))
   have n2_ := A_.mk (KB_.blk hk (g' := gb304) (o := .cells #[.slice none 0 0, .slice none 0 0] 26 (0, 0)) (bY BK304.out) NB304_0.out (by simp))
   have n3_ := A_.mk (KB_.blk hk (g' := gb305) (o := .cells #[u306000, u306001] 26 (0, 0)) (bY BK305.out) NB305_0.out (by simp))
   have n4_ := A_.mk (Kd.R_mono (Kd.R_keep (IsS91.apart (show IsS91 w0 _ g s0_0 x1001_1 x1002_1 from by repeat (first | (with_reducible first | exact HI0.out | apply IsS91.alloc | apply IsS91.drewN | apply IsS91.drew | apply IsS91.set_1 | apply IsS91.set_2 | refine IsS91.far ?_ NB0_304.out _ | refine IsS91.far ?_ NB0_305.out _) | exact HI0.out)) (rY HO308.out) (by decide)) hk (fun _ h => h.2)) (fun _ h => h.1))
   have n5_ := A_.mk (KB_.trans (by repeat (first | (with_reducible first | exact HK.out | apply KB_.set_ | apply kn_ | apply kd_ | apply ka_ | refine kf_ ?_ GW304.out _ | refine kf_ ?_ GW305.out _) | exact HK.out)) hk (.inl rfl))
   have n6_ := A_.mk (hb)
   have n7_ := A_.mk (hi)
   clear HO_306000 HO_306001 BK304 BK305 HO308 HK HB HI0
   have HO_306000 := n0_
   have HO_306001 := n1_
   have BK304 := n2_
   have BK305 := n3_
   have HO308 := n4_
   have HK := n5_
   have HB := n6_
   have HI0 := n7_
   clear n0_ n1_ n2_ n3_ n4_ n5_ n6_ n7_
   refine hK.out _ _ ⟨(bc_ BK305.out 0).trans rfl, (bc_ BK305.out 1).trans rfl⟩ (fun hHeld => ?_)
   clear hK K
   refine norm_ (a' := ?_) ?_ ?_
   rotate_left
   ·show Act.put _ (some 14) _ = _
    simp only [pS]
    rfl
   refine one_ (i := 5) (N := some 15) #[T, T, T, T, T, T, F, F, F] rfl rfl (one_of HT_.out (by kernel_rfl)) (by decide) (fun K hK => ?_)
   refine value_ (w1 := ?_) (v := ?_) (by rfl) rfl ?_ ?_
   rotate_left 2
   ·go_simp
    constructor
    ·rfl
    ·rfl
   refine hK.out _ _ ⟨(bc_ (bl_ BK305.out _) 0).trans rfl, (bc_ (bl_ BK305.out _) 1).trans rfl⟩ (fun hHeld => ?_)
   clear hK K
   refine norm_ (a' := ?_) ?_ ?_
   rotate_left
   ·show Act.put _ (some 15) _ = _
    simp only [pS]
    rfl
   refine one_ (i := 6) (N := some 16) #[T, T, T, T, T, T, T, F, F] rfl rfl (one_of HT_.out (by kernel_rfl)) (by decide) (fun K hK => ?_)
   refine Kd.R_append_step (Kd.int .i64) w.heap.size (by rfl) (.tmp 11) (.tmp 15) 22 3 (.int .i64 0) 8 rfl Try.underlying22 info3 rfl (by decide) (by omega) u306000 x306000_1 t309 [.int .i64 t309] (fun k_ => some k_ ≠ (u306001 : Value).ownBlock ∧ some k_ ≠ (.slice Ao15 y306.length co15 : Value).ownBlock) (fun _ => False) rfl rfl ?aP (fun _ hk => hk.elim) ?aF ?aO (Below.refl _ _) ?aS ?aL ?_
   (case aP => exact rfl)
   (case aF => exact (fun k_ hk => ⟨Kd.fresh' (Kd.R_lt (rY HO_306001.out)) k_ hk, Kd.fresh' (Kd.R_lt (rY HO308.out)) k_ hk⟩))
   (case aO => exact (rY HO_306000.out))
   (case aS => exact (keep_size (w := w) (g := g) (row := none) (by repeat (first | (with_reducible first | exact HK.out | apply KB_.set_ | apply kn_ | apply kd_ | apply ka_ | refine kf_ ?_ GW304.out _ | refine kf_ ?_ GW305.out _) | exact HK.out))))
   (case aL => have := LMc9.out; omega)
   intro v313 w17 ho hb hg hat
   rw [← Ny312.out] at ho
   have n0_ := A_.mk (Kd.R_after (ok := (fun k_ => some k_ ≠ (.slice Ao15 y306.length co15 : Value).ownBlock)) (by (repeat apply rX); exact Kd.R_mono HO_306001.out (fun _ hk => ⟨hk.2, hk.1⟩)) hg hat)
   have n1_ := A_.mk (blk_grown (g := gb304) (o := .cells #[.slice none 0 0, .slice none 0 0] 26 (0, 0)) (bY BK304.out) hg (Kd.R_ne HO_306000.out BK304.out (by decide)))
   have n2_ := A_.mk (blk_grown (g := gb305) (o := .cells #[u306000, u306001] 26 (0, 0)) (bY BK305.out) hg (Kd.R_ne HO_306000.out BK305.out (by decide)))
   have n3_ := A_.mk (IsS91.grown (by repeat (first | (with_reducible first | exact HI0.out | apply IsS91.alloc | apply IsS91.drewN | apply IsS91.drew | apply IsS91.set_1 | apply IsS91.set_2 | refine IsS91.far ?_ NB0_304.out _ | refine IsS91.far ?_ NB0_305.out _) | exact HI0.out)) hg (IsS91.own_ne HI0.out HO_306000.out (by decide)))
   have n4_ := A_.mk (Kd.R_after (ok := (fun k_ => some k_ ≠ (u306001 : Value).ownBlock)) (by (repeat apply rX); exact Kd.R_mono HO308.out (fun _ hk => ⟨hk.2, hk.1.2⟩)) hg hat)
   have n5_ := A_.mk (below_weaken (by repeat (first | (with_reducible first | exact HB.out | apply ba_ | apply bd_ | apply be_ | refine bs_ ?_ (IsS91.ge HI0.out) | refine bs_ ?_ GE304.out | refine bs_ ?_ GE305.out) | exact HB.out)) HL.out hb)
   have n6_ := A_.mk (KB_.trans (by repeat (first | (with_reducible first | exact HK.out | apply KB_.set_ | apply kn_ | apply kd_ | apply ka_ | refine kf_ ?_ GW304.out _ | refine kf_ ?_ GW305.out _) | exact HK.out)) (KB_.of_grown hg g) (Kd.R_base2 HO_306000.out))
   have n7_ := A_.mk (ho)
   clear HO_306001 BK304 BK305 HI0 HO308 HB HK HO_306000
   have HO_306001 := n0_
   have BK304 := n1_
   have BK305 := n2_
   have HI0 := n3_
   have HO308 := n4_
   have HB := n5_
   have HK := n6_
   have HO314 := n7_
   clear n0_ n1_ n2_ n3_ n4_ n5_ n6_ n7_ ho hb hg hat
   obtain ⟨Ao18, co18, eo18⟩ := Kd.R_slice HO314.out
   (first | subst eo18 | (injection eo18 with f1_ f2_ f3_; have f4_ := f1_.symm; have f5_ := f3_.symm; clear f1_ f2_ f3_; subst f4_; subst f5_))
   refine hK.out _ _ ⟨(bc_ BK305.out 0).trans rfl, (bc_ BK305.out 1).trans rfl⟩ (fun hHeld => ?_)
   clear hK K
   refine norm_ (a' := ?_) ?_ ?_
   rotate_left
   ·show Act.put _ (some 16) _ = _
    simp only [pS]
    rfl
   refine pr_ (i := 7) (N := some 17) #[T, T, T, T, T, T, T, T, F] rfl HT_.out ?_
   refine last_ (i := 8) (N := none) #[T, T, T, T, T, T, T, T, T] rfl rfl (one_of HT_.out (by kernel_rfl)) (by decide) (fun K hK => ?_)
   have hs19 : w17.cell? ⟨gb305, 0, none⟩ = some (u306000) := (bc_ BK305.out 0).trans rfl
   have hfs19 := bf_ BK305.out 0
   have hns19_0 := NB304_305.out
   have hms19_0 := NB305_304.out
   refine skip_ (w1 := ?_) (by rfl) rfl ?_ ?_
   rotate_left
   ·go_simp
    rfl
   refine hK.out _ _ ?_
   clear hK K
   refine done_ (done_of HT_.out (by kernel_rfl)) ?_
   try go_wp2
   have n0_ : A_ (Kd.R (Kd.int .i64) 3 (w17.setCell ⟨gb305, 0, none⟩ (.slice Ao18 y312.length co18)) w.heap.size (fun k_ => some k_ ≠ (.slice Ao15 y306.length co15 : Value).ownBlock ∧ some k_ ≠ (.slice Ao18 y312.length co18 : Value).ownBlock) u306001 x306001_1) := ⟨by (repeat apply rX); exact Kd.R_mono (Kd.R_far (p := ⟨gb305, 0, none⟩) (Kd.R_types HO_306001.out BK305.out (by decide)) (fun _ hk => hk.2) (.slice Ao18 y312.length co18)) (fun _ hk => ⟨hk.1.1, hk.1.2⟩)⟩
   have n1_ : A_ (Kd.R (Kd.int .i64) 3 (w17.setCell ⟨gb305, 0, none⟩ (.slice Ao18 y312.length co18)) w.heap.size (fun k_ => some k_ ≠ (u306001 : Value).ownBlock ∧ some k_ ≠ (.slice Ao18 y312.length co18 : Value).ownBlock) (.slice Ao15 y306.length co15) y306) := ⟨by (repeat apply rX); exact Kd.R_mono (Kd.R_far (p := ⟨gb305, 0, none⟩) (Kd.R_types HO308.out BK305.out (by decide)) (fun _ hk => hk.2) (.slice Ao18 y312.length co18)) (fun _ hk => ⟨hk.1.1, hk.1.2⟩)⟩
   have n2_ : A_ (Kd.R (Kd.int .i64) 3 (w17.setCell ⟨gb305, 0, none⟩ (.slice Ao18 y312.length co18)) w.heap.size (fun k_ => some k_ ≠ (u306001 : Value).ownBlock ∧ some k_ ≠ (.slice Ao15 y306.length co15 : Value).ownBlock) (.slice Ao18 y312.length co18) y312) := ⟨by (repeat apply rX); exact Kd.R_mono (Kd.R_far (p := ⟨gb305, 0, none⟩) (Kd.R_types HO314.out BK305.out (by decide)) (fun _ hk => hk.2) (.slice Ao18 y312.length co18)) (fun _ hk => ⟨hk.1.1, hk.1.2⟩)⟩
   have n3_ : A_ ((w17.setCell ⟨gb305, 0, none⟩ (.slice Ao18 y312.length co18)).heap[gb304]? = some (.cells #[.slice none 0 0, .slice none 0 0] 26 (0, 0))) := ⟨by (repeat apply bX); refine blk_far ?_ NB304_305.out _; (repeat apply bX); exact BK304.out⟩
   have n4_ : A_ ((w17.setCell ⟨gb305, 0, none⟩ (.slice Ao18 y312.length co18)).heap[gb305]? = some (.cells #[.slice Ao18 y312.length co18, u306001] 26 (0, 0))) := ⟨by (repeat apply bX); refine bp_ (cs := #[u306000, u306001]) ?_ 0 _ rfl; (repeat apply bX); exact BK305.out⟩
   have n5_ : A_ (IsS91 w0 (w17.setCell ⟨gb305, 0, none⟩ (.slice Ao18 y312.length co18)) g s0_0 t310 t311) := ⟨by repeat (first | (with_reducible first | exact HI0.out | apply IsS91.alloc | apply IsS91.drewN | apply IsS91.drew | apply IsS91.set_1 | apply IsS91.set_2 | refine IsS91.far ?_ NB0_304.out _ | refine IsS91.far ?_ NB0_305.out _) | exact HI0.out)⟩
   have n6_ : A_ (KB_ w (w17.setCell ⟨gb305, 0, none⟩ (.slice Ao18 y312.length co18)) g none) := ⟨by repeat (first | (with_reducible first | exact HK.out | apply KB_.set_ | apply kn_ | apply kd_ | apply ka_ | refine kf_ ?_ GW304.out _ | refine kf_ ?_ GW305.out _) | exact HK.out)⟩
   have n7_ : A_ (Below w0.heap.size w0 (w17.setCell ⟨gb305, 0, none⟩ (.slice Ao18 y312.length co18))) := ⟨by repeat (first | (with_reducible first | exact HB.out | apply ba_ | apply bd_ | apply be_ | refine bs_ ?_ (IsS91.ge HI0.out) | refine bs_ ?_ GE304.out | refine bs_ ?_ GE305.out) | exact HB.out)⟩
   generalize (w17.setCell ⟨gb305, 0, none⟩ (.slice Ao18 y312.length co18)) = w20 at n0_ n1_ n2_ n3_ n4_ n5_ n6_ n7_ ⊢
   have HO_306001 := n0_
   have HO308 := n1_
   have HO314 := n2_
   have BK304 := n3_
   have BK305 := n4_
   have HI0 := n5_
   have HK := n6_
   have HB := n7_
   clear n0_ n1_ n2_ n3_ n4_ n5_ n6_ n7_
   have n0_ := A_.mk (Kd.R_drew HO_306001.out)
   have n1_ := A_.mk (Kd.R_drew HO308.out)
   have n2_ := A_.mk (Kd.R_drew HO314.out)
   have n3_ := A_.mk (bw_ BK304.out)
   have n4_ := A_.mk (bw_ BK305.out)
   have n5_ := A_.mk (IsS91.drew HI0.out)
   have n6_ := A_.mk (kd_ HK.out)
   have n7_ := A_.mk (be_ HB.out)
   clear HO_306001 HO308 HO314 BK304 BK305 HI0 HK HB
   have HO_306001 := n0_
   have HO308 := n1_
   have HO314 := n2_
   have BK304 := n3_
   have BK305 := n4_
   have HI0 := n5_
   have HK := n6_
   have HB := n7_
   clear n0_ n1_ n2_ n3_ n4_ n5_ n6_ n7_
   refine start_ (n := 9) (S := fun w' => w'.cell? ⟨gb305, 0, none⟩ = some (.slice Ao18 y312.length co18) ∧ w'.cell? ⟨gb305, 1, none⟩ = some (u306001)) (ds := [8]) #[F, F, F, F, F, F, F, F, F] (by kernel_rfl) rfl rfl ⟨(bc_ BK305.out 0).trans rfl, (bc_ BK305.out 1).trans rfl⟩ (fun hHeld => ?_); refine with_tabW spec_l14Credits.tab6 spec_l14Credits.bits6 (fun HT_ HW_ => ?_)
   generalize w20.drew = w21 at HO_306001 HO308 HO314 BK304 BK305 HI0 HK HB hHeld ⊢
   refine pr_ (i := 0) (N := some 18) #[T, F, F, F, F, F, F, F, F] rfl HT_.out ?_
   refine pr_ (i := 2) (N := some 20) #[T, F, T, F, F, F, F, F, F] rfl HT_.out ?_
   refine take_ (i := 1) (N := some 19) (v := ?_) (a' := ?_) #[T, T, T, F, F, F, F, F, F] rfl rfl (take_ofW HT_.out HW_.out (by kernel_rfl)) (fun _ _ _ h => h) (Or.inl ⟨by rfl, ?_⟩) hHeld ?_ ?_
   rotate_left
   ·rintro w' ⟨s0, s1⟩
    go_simp
    with_reducible rfl
   rotate_left
   ·simp only [pS]
    rfl
   refine one_ (i := 3) (N := some 21) #[T, T, T, T, F, F, F, F, F] rfl rfl (one_of HT_.out (by kernel_rfl)) (by decide) (fun K hK => ?_)
   refine Kd.R_lit_step (Kd.int .i64) _ 3 ?hg (N := 21) ?hd (xs := ([2, 4, 0, 1, 30] : List Int)) (inner := [.int .i64 2, .int .i64 4, .int .i64 0, .int .i64 1, .int .i64 30]) (ok := fun _ => True) (okp := fun _ => True) ?hr ?hp (fun _ hk => hk) trivial (Below.refl _ _) (Nat.le_refl _) (by simp) ?_; (case hd => rfl); (case hg => rfl); (case hr => first | (go_simp; done) | (go_simp; rfl)); (case hp => exact (Reps.one (show Kd.M (Kd.int .i64) _ _ _ 2 [.int .i64 2] from rfl) (Reps.one (show Kd.M (Kd.int .i64) _ _ _ 4 [.int .i64 4] from rfl) (Reps.one (show Kd.M (Kd.int .i64) _ _ _ 0 [.int .i64 0] from rfl) (Reps.one (show Kd.M (Kd.int .i64) _ _ _ 1 [.int .i64 1] from rfl) (Reps.one (show Kd.M (Kd.int .i64) _ _ _ 30 [.int .i64 30] from rfl) (Reps.none _ _)))))))
   intro v316 w22 ho23 hb hg_ hnew_
   clear hg_ hnew_
   (first | rw [← Ny315.out] at ho23 | (simp only [Int.reduceToNat] at ho23; rw [← Ny315.out] at ho23))
   have n0_ := A_.mk (Kd.R_elder' (rY HO_306001.out) (Kd.R_base ho23) hb)
   have n1_ := A_.mk (Kd.R_elder' (rY HO308.out) (Kd.R_base ho23) hb)
   have n2_ := A_.mk (Kd.R_elder' (rY HO314.out) (Kd.R_base ho23) hb)
   have n3_ := A_.mk (Kd.R_lower (Kd.R_new' (Kd.R_new' (Kd.R_new' ho23 (Kd.R_lt (rY HO_306001.out))) (Kd.R_lt (rY HO308.out))) (Kd.R_lt (rY HO314.out))) (keep_size (w := w) (g := g) (row := none) (by repeat (first | (with_reducible first | exact HK.out | apply KB_.set_ | apply kn_ | apply kd_ | apply ka_ | refine kf_ ?_ GW304.out _ | refine kf_ ?_ GW305.out _) | exact HK.out))))
   have n4_ := A_.mk (bb_ (bY BK304.out) hb)
   have n5_ := A_.mk (bb_ (bY BK305.out) hb)
   have n6_ := A_.mk (IsS91.below (by repeat (first | (with_reducible first | exact HI0.out | apply IsS91.alloc | apply IsS91.drewN | apply IsS91.drew | apply IsS91.set_1 | apply IsS91.set_2 | refine IsS91.far ?_ NB0_304.out _ | refine IsS91.far ?_ NB0_305.out _) | exact HI0.out)) hb)
   have n7_ := A_.mk (KB_.trans (by repeat (first | (with_reducible first | exact HK.out | apply KB_.set_ | apply kn_ | apply kd_ | apply ka_ | refine kf_ ?_ GW304.out _ | refine kf_ ?_ GW305.out _) | exact HK.out)) (KB_.of_below hb g none) (.inl rfl))
   have n8_ := A_.mk (bt_ (by repeat (first | (with_reducible first | exact HB.out | apply ba_ | apply bd_ | apply be_ | refine bs_ ?_ (IsS91.ge HI0.out) | refine bs_ ?_ GE304.out | refine bs_ ?_ GE305.out) | exact HB.out)) hb)
   clear HO_306001 HO308 HO314 BK304 BK305 HI0 HK HB
   have HO_306001 := n0_
   have HO308 := n1_
   have HO314 := n2_
   have HO317 := n3_
   have BK304 := n4_
   have BK305 := n5_
   have HI0 := n6_
   have HK := n7_
   have HB := n8_
   clear n0_ n1_ n2_ n3_ n4_ n5_ n6_ n7_ n8_ hb ho23
   obtain ⟨Ao24, co24, eo24⟩ := Kd.R_slice HO317.out
   (first | subst eo24 | (injection eo24 with f1_ f2_ f3_; have f4_ := f1_.symm; have f5_ := f3_.symm; clear f1_ f2_ f3_; subst f4_; subst f5_))
   refine hK.out _ _ ⟨(bc_ BK305.out 0).trans rfl, (bc_ BK305.out 1).trans rfl⟩ (fun hHeld => ?_)
   clear hK K
   refine norm_ (a' := ?_) ?_ ?_
   rotate_left
   ·show Act.put _ (some 21) _ = _
    simp only [pS]
    rfl
   refine one_ (i := 4) (N := some 22) #[T, T, T, T, T, F, F, F, F] rfl rfl (one_of HT_.out (by kernel_rfl)) (by decide) (fun K hK => ?_)
   refine goes_ Try.func95 (by kernel_rfl) rfl #[.pointer (some ⟨g, 0, none⟩), .slice Ao24 y315.length co24] (by rfl) rfl rfl (by (try simp only [List.map_toArray, List.map_cons, List.map_nil]); first | done | rfl) ?_
   with_reducible refine (spec_l01PickInt.calls g s0_0 t310 t311 _ _ y315 t318 t319 t320 w0 _ ?side1 ?side2 ?side3 ?side4 ?side5 A10.out).mono ?_
   (case side1 => repeat (first | (with_reducible first | exact HI0.out | apply IsS91.alloc | apply IsS91.drewN | apply IsS91.drew | apply IsS91.set_1 | apply IsS91.set_2 | refine IsS91.far ?_ NB0_304.out _ | refine IsS91.far ?_ NB0_305.out _) | exact HI0.out))
   (case side2 => repeat (first | (with_reducible first | exact HB.out | apply ba_ | apply bd_ | apply be_ | refine bs_ ?_ (IsS91.ge HI0.out) | refine bs_ ?_ GE304.out | refine bs_ ?_ GE305.out) | exact HB.out))
   (case side3 => exact cY ((Kd.R_reads' HO317.out).2.2))
   (case side4 => exact (Kd.R_reads' HO317.out).2.1)
   (case side5 => exact far_slice (IsS91.own_ne HI0.out HO317.out (by decide)))
   rintro e w25 ⟨rfl, hi, hb, hk⟩
   refine ⟨_, rfl, ?_⟩
   have n0_ := A_.mk (Kd.R_mono (Kd.R_keep (IsS91.apart (show IsS91 w0 _ g s0_0 t310 t311 from by repeat (first | (with_reducible first | exact HI0.out | apply IsS91.alloc | apply IsS91.drewN | apply IsS91.drew | apply IsS91.set_1 | apply IsS91.set_2 | refine IsS91.far ?_ NB0_304.out _ | refine IsS91.far ?_ NB0_305.out _) | exact HI0.out)) (rY HO_306001.out) (by decide)) hk (fun _ h => h.2)) (fun _ h => h.1))
   have n1_ := A_.mk (KB_.blk hk (g' := gb304) (o := .cells #[.slice none 0 0, .slice none 0 0] 26 (0, 0)) (bY BK304.out) NB304_0.out (by simp))
   have n2_ := A_.mk (KB_.blk hk (g' := gb305) (o := .cells #[.slice Ao18 y312.length co18, u306001] 26 (0, 0)) (bY BK305.out) NB305_0.out (by simp))
   have n3_ := A_.mk (Kd.R_mono (Kd.R_keep (IsS91.apart (show IsS91 w0 _ g s0_0 t310 t311 from by repeat (first | (with_reducible first | exact HI0.out | apply IsS91.alloc | apply IsS91.drewN | apply IsS91.drew | apply IsS91.set_1 | apply IsS91.set_2 | refine IsS91.far ?_ NB0_304.out _ | refine IsS91.far ?_ NB0_305.out _) | exact HI0.out)) (rY HO308.out) (by decide)) hk (fun _ h => h.2)) (fun _ h => h.1))
   have n4_ := A_.mk (Kd.R_mono (Kd.R_keep (IsS91.apart (show IsS91 w0 _ g s0_0 t310 t311 from by repeat (first | (with_reducible first | exact HI0.out | apply IsS91.alloc | apply IsS91.drewN | apply IsS91.drew | apply IsS91.set_1 | apply IsS91.set_2 | refine IsS91.far ?_ NB0_304.out _ | refine IsS91.far ?_ NB0_305.out _) | exact HI0.out)) (rY HO314.out) (by decide)) hk (fun _ h => h.2)) (fun _ h => h.1))
   have n5_ := A_.mk (Kd.R_mono (Kd.R_keep (IsS91.apart (show IsS91 w0 _ g s0_0 t310 t311 from by repeat (first | (with_reducible first | exact HI0.out | apply IsS91.alloc | apply IsS91.drewN | apply IsS91.drew | apply IsS91.set_1 | apply IsS91.set_2 | refine IsS91.far ?_ NB0_304.out _ | refine IsS91.far ?_ NB0_305.out _) | exact HI0.out)) (rY HO317.out) (by decide)) hk (fun _ h => h.2)) (fun _ h => h.1))
   have n6_ := A_.mk (KB_.trans (by repeat (first | (with_reducible first | exact HK.out | apply KB_.set_ | apply kn_ | apply kd_ | apply ka_ | refine kf_ ?_ GW304.out _ | refine kf_ ?_ GW305.out _) | exact HK.out)) hk (.inl rfl))
   have n7_ := A_.mk (hb)
   have n8_ := A_.mk (hi)
   clear HO_306001 BK304 BK305 HO308 HO314 HO317 HK HB HI0
   have HO_306001 := n0_
   have BK304 := n1_
   have BK305 := n2_
   have HO308 := n3_
   have HO314 := n4_
   have HO317 := n5_
   have HK := n6_
   have HB := n7_
   have HI0 := n8_
   clear n0_ n1_ n2_ n3_ n4_ n5_ n6_ n7_ n8_
   refine hK.out _ _ ⟨(bc_ BK305.out 0).trans rfl, (bc_ BK305.out 1).trans rfl⟩ (fun hHeld => ?_)
   clear hK K
   refine norm_ (a' := ?_) ?_ ?_
   rotate_left
   ·show Act.put _ (some 22) _ = _
    simp only [pS]
    rfl
   refine one_ (i := 5) (N := some 23) #[T, T, T, T, T, T, F, F, F] rfl rfl (one_of HT_.out (by kernel_rfl)) (by decide) (fun K hK => ?_)
   refine value_ (w1 := ?_) (v := ?_) (by rfl) rfl ?_ ?_
   rotate_left 2
   ·go_simp
    constructor
    ·rfl
    ·rfl
   refine hK.out _ _ ⟨(bc_ (bl_ BK305.out _) 0).trans rfl, (bc_ (bl_ BK305.out _) 1).trans rfl⟩ (fun hHeld => ?_)
   clear hK K
   refine norm_ (a' := ?_) ?_ ?_
   rotate_left
   ·show Act.put _ (some 23) _ = _
    simp only [pS]
    rfl
   refine one_ (i := 6) (N := some 24) #[T, T, T, T, T, T, T, F, F] rfl rfl (one_of HT_.out (by kernel_rfl)) (by decide) (fun K hK => ?_)
   refine Kd.R_append_step (Kd.int .i64) w.heap.size (by rfl) (.tmp 19) (.tmp 23) 22 3 (.int .i64 0) 8 rfl Try.underlying22 info3 rfl (by decide) (by omega) u306001 x306001_1 t318 [.int .i64 t318] (fun k_ => some k_ ≠ (.slice Ao15 y306.length co15 : Value).ownBlock ∧ some k_ ≠ (.slice Ao18 y312.length co18 : Value).ownBlock ∧ some k_ ≠ (.slice Ao24 y315.length co24 : Value).ownBlock) (fun _ => False) rfl rfl ?aP (fun _ hk => hk.elim) ?aF ?aO (Below.refl _ _) ?aS ?aL ?_
   (case aP => exact rfl)
   (case aF => exact (fun k_ hk => ⟨Kd.fresh' (Kd.R_lt (rY HO308.out)) k_ hk, Kd.fresh' (Kd.R_lt (rY HO314.out)) k_ hk, Kd.fresh' (Kd.R_lt (rY HO317.out)) k_ hk⟩))
   (case aO => exact (by (repeat apply rX); exact Kd.R_mono HO_306001.out (fun _ hk => ⟨hk.1.1, ⟨hk.1.2, hk.2⟩⟩)))
   (case aS => exact (keep_size (w := w) (g := g) (row := none) (by repeat (first | (with_reducible first | exact HK.out | apply KB_.set_ | apply kn_ | apply kd_ | apply ka_ | refine kf_ ?_ GW304.out _ | refine kf_ ?_ GW305.out _) | exact HK.out))))
   (case aL => have := LMc11.out; omega)
   intro v322 w26 ho hb hg hat
   rw [← Ny321.out] at ho
   have n0_ := A_.mk (blk_grown (g := gb304) (o := .cells #[.slice none 0 0, .slice none 0 0] 26 (0, 0)) (bY BK304.out) hg (Kd.R_ne HO_306001.out BK304.out (by decide)))
   have n1_ := A_.mk (blk_grown (g := gb305) (o := .cells #[.slice Ao18 y312.length co18, u306001] 26 (0, 0)) (bY BK305.out) hg (Kd.R_ne HO_306001.out BK305.out (by decide)))
   have n2_ := A_.mk (IsS91.grown (by repeat (first | (with_reducible first | exact HI0.out | apply IsS91.alloc | apply IsS91.drewN | apply IsS91.drew | apply IsS91.set_1 | apply IsS91.set_2 | refine IsS91.far ?_ NB0_304.out _ | refine IsS91.far ?_ NB0_305.out _) | exact HI0.out)) hg (IsS91.own_ne HI0.out HO_306001.out (by decide)))
   have n3_ := A_.mk (Kd.R_after (ok := (fun k_ => some k_ ≠ (.slice Ao18 y312.length co18 : Value).ownBlock ∧ some k_ ≠ (.slice Ao24 y315.length co24 : Value).ownBlock)) (by (repeat apply rX); exact Kd.R_mono HO308.out (fun _ hk => ⟨⟨hk.1.2, hk.2⟩, hk.1.1⟩)) hg hat)
   have n4_ := A_.mk (Kd.R_after (ok := (fun k_ => some k_ ≠ (.slice Ao15 y306.length co15 : Value).ownBlock ∧ some k_ ≠ (.slice Ao24 y315.length co24 : Value).ownBlock)) (by (repeat apply rX); exact Kd.R_mono HO314.out (fun _ hk => ⟨⟨hk.1.2, hk.2⟩, hk.1.1⟩)) hg hat)
   have n5_ := A_.mk (Kd.R_after (ok := (fun k_ => some k_ ≠ (.slice Ao15 y306.length co15 : Value).ownBlock ∧ some k_ ≠ (.slice Ao18 y312.length co18 : Value).ownBlock)) (by (repeat apply rX); exact Kd.R_mono HO317.out (fun _ hk => ⟨⟨hk.1.2, hk.2⟩, hk.1.1.2⟩)) hg hat)
   have n6_ := A_.mk (below_weaken (by repeat (first | (with_reducible first | exact HB.out | apply ba_ | apply bd_ | apply be_ | refine bs_ ?_ (IsS91.ge HI0.out) | refine bs_ ?_ GE304.out | refine bs_ ?_ GE305.out) | exact HB.out)) HL.out hb)
   have n7_ := A_.mk (KB_.trans (by repeat (first | (with_reducible first | exact HK.out | apply KB_.set_ | apply kn_ | apply kd_ | apply ka_ | refine kf_ ?_ GW304.out _ | refine kf_ ?_ GW305.out _) | exact HK.out)) (KB_.of_grown hg g) (Kd.R_base2 HO_306001.out))
   have n8_ := A_.mk (ho)
   clear BK304 BK305 HI0 HO308 HO314 HO317 HB HK HO_306001
   have BK304 := n0_
   have BK305 := n1_
   have HI0 := n2_
   have HO308 := n3_
   have HO314 := n4_
   have HO317 := n5_
   have HB := n6_
   have HK := n7_
   have HO323 := n8_
   clear n0_ n1_ n2_ n3_ n4_ n5_ n6_ n7_ n8_ ho hb hg hat
   obtain ⟨Ao27, co27, eo27⟩ := Kd.R_slice HO323.out
   (first | subst eo27 | (injection eo27 with f1_ f2_ f3_; have f4_ := f1_.symm; have f5_ := f3_.symm; clear f1_ f2_ f3_; subst f4_; subst f5_))
   refine hK.out _ _ ⟨(bc_ BK305.out 0).trans rfl, (bc_ BK305.out 1).trans rfl⟩ (fun hHeld => ?_)
   clear hK K
   refine norm_ (a' := ?_) ?_ ?_
   rotate_left
   ·show Act.put _ (some 24) _ = _
    simp only [pS]
    rfl
   refine pr_ (i := 7) (N := some 25) #[T, T, T, T, T, T, T, T, F] rfl HT_.out ?_
   refine last_ (i := 8) (N := none) #[T, T, T, T, T, T, T, T, T] rfl rfl (one_of HT_.out (by kernel_rfl)) (by decide) (fun K hK => ?_)
   have hs28 : w26.cell? ⟨gb305, 1, none⟩ = some (u306001) := (bc_ BK305.out 1).trans rfl
   have hfs28 := bf_ BK305.out 1
   have hns28_0 := NB304_305.out
   have hms28_0 := NB305_304.out
   refine skip_ (w1 := ?_) (by rfl) rfl ?_ ?_
   rotate_left
   ·go_simp
    rfl
   refine hK.out _ _ ?_
   clear hK K
   refine done_ (done_of HT_.out (by kernel_rfl)) ?_
   try go_wp2
   go_roundg k1
   case measure => have := HK1.out; omega
   case rel => exact ⟨(wrap64 (x4_1 + 1)), (t319), (t320), (y312), (y321), (.slice Ao18 y312.length co18), (.slice Ao27 y321.length co27), (by first | rfl | (simp; done) | (simp [*]; done)), H', ⟨by have := HK1.out; omega⟩, ⟨by (repeat apply rX); exact Kd.R_mono (Kd.R_far (p := ⟨gb305, 1, none⟩) (Kd.R_types HO314.out BK305.out (by decide)) (fun _ hk => hk.2) (.slice Ao27 y321.length co27)) (fun _ hk => hk.1.2)⟩, ⟨by (repeat apply rX); exact Kd.R_mono (Kd.R_far (p := ⟨gb305, 1, none⟩) (Kd.R_types HO323.out BK305.out (by decide)) (fun _ hk => hk.2) (.slice Ao27 y321.length co27)) (fun _ hk => hk.1.2.1)⟩, ⟨by (repeat apply bX); refine blk_far ?_ NB304_305.out _; (repeat apply bX); exact BK304.out⟩, ⟨by (repeat apply bX); refine bp_ (cs := #[.slice Ao18 y312.length co18, u306001]) ?_ 1 _ rfl; (repeat apply bX); exact BK305.out⟩, ⟨by repeat (first | (with_reducible first | exact HI0.out | apply IsS91.alloc | apply IsS91.drewN | apply IsS91.drew | apply IsS91.set_1 | apply IsS91.set_2 | refine IsS91.far ?_ NB0_304.out _ | refine IsS91.far ?_ NB0_305.out _) | exact HI0.out)⟩, ⟨by repeat (first | (with_reducible first | exact HK.out | apply KB_.set_ | apply kn_ | apply kd_ | apply ka_ | refine kf_ ?_ GW304.out _ | refine kf_ ?_ GW305.out _) | exact HK.out)⟩, ⟨by repeat (first | (with_reducible first | exact HB.out | apply ba_ | apply bd_ | apply be_ | refine bs_ ?_ (IsS91.ge HI0.out) | refine bs_ ?_ GE304.out | refine bs_ ?_ GE305.out) | exact HB.out)⟩⟩
/-! ### spec_l17Queue: function 58 -/
def spec_l17Queue.f (k : Nat) (s0_0 : List Int) (s0_1 : Int) (s0_2 : Int) : Option ((List (S60)) × List Int × List Int × (List (S60)) × Int × Int) := (spec_l16Queue.f k s0_0 s0_1 s0_2).bind fun bt325 => ((spec_l14Credits.f k s0_0 bt325.2.1 bt325.2.2).bind fun bt330 => (some (bt325.1, bt330.1, bt330.2.1, ([] : List (S60)), bt330.2.2.1, bt330.2.2.2)))
set_option maxHeartbeats 8000000 in
set_option maxRecDepth 100000 in
theorem spec_l17Queue.calls (k : Nat) (g : Nat) (s0_0 : List Int) (s0_1 : Int) (s0_2 : Int) (r1 : List (S60)) (r2 : List Int) (r3 : List Int) (r4 : List (S60)) (r5 : Int) (r6 : Int) (w0 w : World) (hI : IsS91 w0 w g s0_0 s0_1 s0_2) (hB : Below w0.heap.size w0 w) (h : spec_l17Queue.f k s0_0 s0_1 s0_2 = some (r1, r2, r3, r4, r5, r6)) :
  Calls Try.prog 58 #[.pointer (some ⟨g, 0, none⟩)] w fun e w' => ∃ v0_ v1_ v2_ v3_ : Value, e = .returned (.agg #[v0_, v1_, v2_, v3_]) ∧ Kd.S k60 60 w' w.heap.size (fun k_ => some k_ ≠ (v1_ : Value).ownBlock ∧ some k_ ≠ (v2_ : Value).ownBlock ∧ some k_ ≠ (v3_ : Value).ownBlock) v0_ r1 ∧ Kd.R (Kd.int .i64) 3 w' w.heap.size (fun k_ => some k_ ≠ (v2_ : Value).ownBlock) v1_ r2 ∧ Kd.R (Kd.int .i64) 3 w' w.heap.size (fun k_ => some k_ ≠ (v1_ : Value).ownBlock) v2_ r3 ∧ Kd.S k60 60 w' w.heap.size (fun k_ => some k_ ≠ (v0_ : Value).ownBlock ∧ some k_ ≠ (v1_ : Value).ownBlock ∧ some k_ ≠ (v2_ : Value).ownBlock) v3_ r4 ∧ IsS91 w0 w' g s0_0 r5 r6 ∧ Below w0.heap.size w0 w' ∧ KB_ w w' g none := by
 have hu53 := Try.underlying53
 have HI0 := A_.mk hI
 have HK := A_.mk (KB_.refl w g none)
 have HL := A_.mk hB.size
 clear hI
 have HW0 := A_.mk hB.size
 have HB := A_.mk hB
 clear hB
 have H : ((spec_l16Queue.f k s0_0 s0_1 s0_2).bind fun bt325 => ((spec_l14Credits.f k s0_0 bt325.2.1 bt325.2.2).bind fun bt330 => (some (bt325.1, bt330.1, bt330.2.1, ([] : List (S60)), bt330.2.2.1, bt330.2.2.2)))) = some (r1, r2, r3, r4, r5, r6) := h
 clear h
 replace H := ob_ H
 obtain ⟨⟨t325, t328, t329⟩, A20, H⟩ := H
 replace H : ((spec_l14Credits.f k s0_0 t328 t329).bind fun bt330 => (some (t325, bt330.1, bt330.2.1, ([] : List (S60)), bt330.2.2.1, bt330.2.2.2))) = some (r1, r2, r3, r4, r5, r6) := H
 have A2 := A_.mk A20
 clear A20
 replace H := ob_ H
 obtain ⟨⟨t330, t333, t336, t337⟩, A30, H⟩ := H
 replace H : (some (t325, t330, t333, ([] : List (S60)), t336, t337)) = some (r1, r2, r3, r4, r5, r6) := H
 have A3 := A_.mk A30
 clear A30
 simp only [Option.some.injEq, Prod.mk.injEq] at H
 obtain ⟨rfl, rfl, rfl, rfl, rfl, rfl⟩ := H
 go_enter Try.func58, Try.ntmps58
 go_wp2_with (first | ((with_reducible refine gd_ (N := 2) rfl ?_); refine by_ 2 (cs := #[.slice none 0 0, .slice none 0 0, .slice none 0 0, .slice none 0 0]) (t := 53) ?_; intro gb324 hg w4 hbox hb; have n0_ := A_.mk (IsS91.below (by repeat (first | (with_reducible first | exact HI0.out | apply IsS91.alloc | apply IsS91.drewN | apply IsS91.drew | apply IsS91.set_1 | apply IsS91.set_2) | exact HI0.out)) hb); have n1_ := A_.mk (KB_.trans (by repeat (first | (with_reducible first | exact HK.out | apply KB_.set_ | apply kn_ | apply kd_ | apply ka_) | exact HK.out)) (KB_.of_below hb g none) (.inl rfl)); have n2_ := A_.mk (bt_ (by repeat (first | (with_reducible first | exact HB.out | apply ba_ | apply bd_ | apply be_ | refine bs_ ?_ (IsS91.ge HI0.out)) | exact HB.out)) hb); have n3_ := A_.mk (hbox); have n4_ := A_.mk ((by rw [hg]; exact (keep_size (w := w) (g := g) (row := none) (by repeat (first | (with_reducible first | exact HK.out | apply KB_.set_ | apply kn_ | apply kd_ | apply ka_) | exact HK.out))) : w.heap.size ≤ gb324)); have n5_ := A_.mk ((Nat.le_trans HW0.out (by rw [hg]; exact (keep_size (w := w) (g := g) (row := none) (by repeat (first | (with_reducible first | exact HK.out | apply KB_.set_ | apply kn_ | apply kd_ | apply ka_) | exact HK.out))) : w.heap.size ≤ gb324) : w0.heap.size ≤ gb324)); have n6_ := A_.mk ((by rw [hg]; exact Nat.ne_of_lt (IsS91.lt (show IsS91 w0 _ g s0_0 s0_1 s0_2 from by repeat (first | (with_reducible first | exact HI0.out | apply IsS91.alloc | apply IsS91.drewN | apply IsS91.drew | apply IsS91.set_1 | apply IsS91.set_2) | exact HI0.out))) : g ≠ gb324)); have n7_ := A_.mk ((by rw [hg]; exact Nat.ne_of_gt (IsS91.lt (show IsS91 w0 _ g s0_0 s0_1 s0_2 from by repeat (first | (with_reducible first | exact HI0.out | apply IsS91.alloc | apply IsS91.drewN | apply IsS91.drew | apply IsS91.set_1 | apply IsS91.set_2) | exact HI0.out))) : gb324 ≠ g)); clear HI0 HK HB; have HI0 := n0_; have HK := n1_; have HB := n2_; have BK324 := n3_; have GW324 := n4_; have GE324 := n5_; have NB0_324 := n6_; have NB324_0 := n7_; clear n0_ n1_ n2_ n3_ n4_ n5_ n6_ n7_ hb hbox hg) | ((with_reducible refine gc_ (f := 53) rfl ?_); refine gl_ (some 4) Try.func53 #[.pointer (some ⟨g, 0, none⟩)] ?_; (with_reducible refine (spec_l16Queue.calls k g s0_0 s0_1 s0_2 t325 t328 t329 w0 _ ?side1 ?side2 A2.out).mono ?_); (case side1 => repeat (first | (with_reducible first | exact HI0.out | apply IsS91.alloc | apply IsS91.drewN | apply IsS91.drew | apply IsS91.set_1 | apply IsS91.set_2 | refine IsS91.far ?_ NB0_324.out _) | exact HI0.out)); (case side2 => repeat (first | (with_reducible first | exact HB.out | apply ba_ | apply bd_ | apply be_ | refine bs_ ?_ (IsS91.ge HI0.out) | refine bs_ ?_ GE324.out) | exact HB.out)); rintro e w5 ⟨v326, rfl, ho0, hi, hb, hk⟩; refine ⟨_, rfl, ?_⟩; have n0_ := A_.mk (KB_.blk hk (g' := gb324) (o := .cells #[.slice none 0 0, .slice none 0 0, .slice none 0 0, .slice none 0 0] 53 (0, 0)) (bY BK324.out) NB324_0.out (by simp)); have n1_ := A_.mk (Kd.S_lower ho0 (keep_size (w := w) (g := g) (row := none) (by repeat (first | (with_reducible first | exact HK.out | apply KB_.set_ | apply kn_ | apply kd_ | apply ka_ | refine kf_ ?_ GW324.out _) | exact HK.out)))); have n2_ := A_.mk (KB_.trans (by repeat (first | (with_reducible first | exact HK.out | apply KB_.set_ | apply kn_ | apply kd_ | apply ka_ | refine kf_ ?_ GW324.out _) | exact HK.out)) hk (.inl rfl)); have n3_ := A_.mk (hb); have n4_ := A_.mk (hi); clear BK324 HK HB HI0; have BK324 := n0_; have HO327 := n1_; have HK := n2_; have HB := n3_; have HI0 := n4_; clear n0_ n1_ n2_ n3_ n4_; (try clear hb); (try clear hb2); (try clear hk); (try clear hi); (try clear ho0)) | ((with_reducible refine gc_ (f := 80) rfl ?_); refine gl_ (some 6) Try.func80 #[.pointer (some ⟨g, 0, none⟩)] ?_; (with_reducible refine (spec_l14Credits.calls k g s0_0 t328 t329 t330 t333 t336 t337 w0 _ ?side1 ?side2 A3.out).mono ?_); (case side1 => repeat (first | (with_reducible first | exact HI0.out | apply IsS91.alloc | apply IsS91.drewN | apply IsS91.drew | apply IsS91.set_1 | apply IsS91.set_2 | refine IsS91.far ?_ NB0_324.out _) | exact HI0.out)); (case side2 => repeat (first | (with_reducible first | exact HB.out | apply ba_ | apply bd_ | apply be_ | refine bs_ ?_ (IsS91.ge HI0.out) | refine bs_ ?_ GE324.out) | exact HB.out)); rintro e w6 ⟨v331, v334, rfl, ho0, ho1, hi, hb, hk⟩; refine ⟨_, rfl, ?_⟩; have n0_ := A_.mk (KB_.blk hk (g' := gb324) (o := .cells #[.slice none 0 0, .slice none 0 0, .slice none 0 0, .slice none 0 0] 53 (0, 0)) (bY BK324.out) NB324_0.out (by simp)); have n1_ := A_.mk (Kd.S_mono (Kd.S_told (Kd.S_told (Kd.S_oldK (IsS91.apartS (show IsS91 w0 _ g s0_0 t328 t329 from by repeat (first | (with_reducible first | exact HI0.out | apply IsS91.alloc | apply IsS91.drewN | apply IsS91.drew | apply IsS91.set_1 | apply IsS91.set_2 | refine IsS91.far ?_ NB0_324.out _) | exact HI0.out)) (by (with_reducible repeat (first | apply Kd.S_alloc | apply Kd.S_drewN | apply Kd.S_drew)); exact HO327.out) (by decide)) hk) (Kd.R_base ho0)) (Kd.R_base ho1)) (fun _ h_ => h_.1)); have n2_ := A_.mk (Kd.R_lower ho0 (keep_size (w := w) (g := g) (row := none) (by repeat (first | (with_reducible first | exact HK.out | apply KB_.set_ | apply kn_ | apply kd_ | apply ka_ | refine kf_ ?_ GW324.out _) | exact HK.out)))); have n3_ := A_.mk (Kd.R_lower ho1 (keep_size (w := w) (g := g) (row := none) (by repeat (first | (with_reducible first | exact HK.out | apply KB_.set_ | apply kn_ | apply kd_ | apply ka_ | refine kf_ ?_ GW324.out _) | exact HK.out)))); have n4_ := A_.mk (KB_.trans (by repeat (first | (with_reducible first | exact HK.out | apply KB_.set_ | apply kn_ | apply kd_ | apply ka_ | refine kf_ ?_ GW324.out _) | exact HK.out)) hk (.inl rfl)); have n5_ := A_.mk (hb); have n6_ := A_.mk (hi); clear BK324 HO327 HK HB HI0; have BK324 := n0_; have HO327 := n1_; have HO332 := n2_; have HO335 := n3_; have HK := n4_; have HB := n5_; have HI0 := n6_; clear n0_ n1_ n2_ n3_ n4_ n5_ n6_; (try clear hb); (try clear hb2); (try clear hk); (try clear hi); (try clear ho0); (try clear ho1); obtain ⟨Ao7, co7, eo7⟩ := Kd.R_slice HO335.out; subst eo7; obtain ⟨Ao8, co8, eo8⟩ := Kd.R_slice HO332.out; subst eo8; obtain ⟨Ao9, co9, eo9⟩ := Kd.S_slice HO327.out; subst eo9; have hnb10 := NB324_0.out; have hnc10 := NB0_324.out; have hcz11_0 : w6.cell? ⟨gb324, 0, none⟩ = some (.slice none 0 0) := (bc_ BK324.out 0).trans rfl; have hcz11_1 : w6.cell? ⟨gb324, 1, none⟩ = some (.slice none 0 0) := (bc_ BK324.out 1).trans rfl; have hcz11_2 : w6.cell? ⟨gb324, 2, none⟩ = some (.slice none 0 0) := (bc_ BK324.out 2).trans rfl; have hcz11_3 : w6.cell? ⟨gb324, 3, none⟩ = some (.slice none 0 0) := (bc_ BK324.out 3).trans rfl; have hfz11_0 := bf_ BK324.out 0; have hfz11_1 := bf_ BK324.out 1; have hfz11_2 := bf_ BK324.out 2; have hfz11_3 := bf_ BK324.out 3))
 refine bodyPost_ret (results_cell_row rfl _ _ gb324 53 #[.slice Ao9 t325.length co9, .slice Ao8 t330.length co8, .slice Ao7 t333.length co7, .slice none 0 0] (0, 0) _ rfl (by (repeat apply bX); refine bp_ (cs := #[.slice Ao9 t325.length co9, .slice Ao8 t330.length co8, .slice Ao7 t333.length co7, .slice none 0 0]) ?_ 3 _ rfl; (repeat apply bX); refine bp_ (cs := #[.slice Ao9 t325.length co9, .slice Ao8 t330.length co8, .slice none 0 0, .slice none 0 0]) ?_ 2 _ rfl; (repeat apply bX); refine bp_ (cs := #[.slice Ao9 t325.length co9, .slice none 0 0, .slice none 0 0, .slice none 0 0]) ?_ 1 _ rfl; (repeat apply bX); refine bp_ (cs := #[.slice none 0 0, .slice none 0 0, .slice none 0 0, .slice none 0 0]) ?_ 0 _ rfl; (repeat apply bX); exact BK324.out) Try.underlying53 rfl (by kernel_rfl)) rfl ?_
 exact ⟨_, _, _, _, by first | rfl | (simp [errW_none, errW_some] <;> rfl) | (simp [*, errW_none, errW_some] <;> rfl), by (with_reducible repeat (first | apply Kd.S_alloc | apply Kd.S_drewN | apply Kd.S_drew)); exact Kd.S_mono (Kd.S_far (p := ⟨gb324, 3, none⟩) (Kd.S_far (p := ⟨gb324, 2, none⟩) (Kd.S_far (p := ⟨gb324, 1, none⟩) (Kd.S_far (p := ⟨gb324, 0, none⟩) (Kd.S_types HO327.out BK324.out (by decide)) (fun _ hk => hk.2) (.slice Ao9 t325.length co9)) (fun _ hk => hk.2) (.slice Ao8 t330.length co8)) (fun _ hk => hk.2) (.slice Ao7 t333.length co7)) (fun _ hk => hk.2) (.slice none 0 0)) (fun _ hk => ⟨hk.1.1.2, ⟨hk.1.2, (by simp [Value.ownBlock])⟩⟩), by (repeat apply rX); exact Kd.R_mono (Kd.R_far (p := ⟨gb324, 3, none⟩) (Kd.R_far (p := ⟨gb324, 2, none⟩) (Kd.R_far (p := ⟨gb324, 1, none⟩) (Kd.R_far (p := ⟨gb324, 0, none⟩) (Kd.R_types HO332.out BK324.out (by decide)) (fun _ hk => hk.2) (.slice Ao9 t325.length co9)) (fun _ hk => hk.2) (.slice Ao8 t330.length co8)) (fun _ hk => hk.2) (.slice Ao7 t333.length co7)) (fun _ hk => hk.2) (.slice none 0 0)) (fun _ hk => hk.1), by (repeat apply rX); exact Kd.R_mono (Kd.R_far (p := ⟨gb324, 3, none⟩) (Kd.R_far (p := ⟨gb324, 2, none⟩) (Kd.R_far (p := ⟨gb324, 1, none⟩) (Kd.R_far (p := ⟨gb324, 0, none⟩) (Kd.R_types HO335.out BK324.out (by decide)) (fun _ hk => hk.2) (.slice Ao9 t325.length co9)) (fun _ hk => hk.2) (.slice Ao8 t330.length co8)) (fun _ hk => hk.2) (.slice Ao7 t333.length co7)) (fun _ hk => hk.2) (.slice none 0 0)) (fun _ hk => hk.1), by first | exact Kd.S_nil _ _ _ _ _ | exact Kd.N_nil _ _ _ _ _ | exact Kd.V_nil _ _ _ _ _ | exact Kd.Q_nil _ _ _ _ _ | exact Kd.R_nil _ _ _ _ _, by repeat (first | (with_reducible first | exact HI0.out | apply IsS91.alloc | apply IsS91.drewN | apply IsS91.drew | apply IsS91.set_1 | apply IsS91.set_2 | refine IsS91.far ?_ NB0_324.out _) | exact HI0.out), by repeat (first | (with_reducible first | exact HB.out | apply ba_ | apply bd_ | apply be_ | refine bs_ ?_ (IsS91.ge HI0.out) | refine bs_ ?_ GE324.out) | exact HB.out), by repeat (first | (with_reducible first | exact HK.out | apply KB_.set_ | apply kn_ | apply kd_ | apply ka_ | refine kf_ ?_ GW324.out _) | exact HK.out)⟩
/-! ### spec_DrawWaiting: function 30 -/
def spec_DrawWaiting.f (k : Nat) (l0 : List Int) : Option ((List (S60)) × List Int × List Int × (List (S60))) := (spec_l01New.f k l0).bind fun bt339 => ((spec_l17Queue.f k bt339.1 bt339.2.1 bt339.2.2).bind fun bt343 => (some (bt343.1, bt343.2.1, bt343.2.2.1, bt343.2.2.2.1)))
set_option maxHeartbeats 8000000 in
set_option maxRecDepth 100000 in
theorem spec_DrawWaiting.calls (k : Nat) (A0 : Option Addr) (c0 : Nat) (l0 : List Int) (r1 : List (S60)) (r2 : List Int) (r3 : List Int) (r4 : List (S60)) (w : World) (hr0 : Kd.C (Kd.int .u8) w A0 l0.length l0) (hc0 : l0.length ≤ c0) (h : spec_DrawWaiting.f k l0 = some (r1, r2, r3, r4)) :
  Calls Try.prog 30 #[.slice A0 l0.length c0] w fun e w' => ∃ v0_ v1_ v2_ v3_ : Value, e = .returned (.agg #[v0_, v1_, v2_, v3_]) ∧ Kd.S k60 60 w' w.heap.size (fun k_ => some k_ ≠ (v1_ : Value).ownBlock ∧ some k_ ≠ (v2_ : Value).ownBlock ∧ some k_ ≠ (v3_ : Value).ownBlock) v0_ r1 ∧ Kd.R (Kd.int .i64) 3 w' w.heap.size (fun k_ => some k_ ≠ (v2_ : Value).ownBlock) v1_ r2 ∧ Kd.R (Kd.int .i64) 3 w' w.heap.size (fun k_ => some k_ ≠ (v1_ : Value).ownBlock) v2_ r3 ∧ Kd.S k60 60 w' w.heap.size (fun k_ => some k_ ≠ (v0_ : Value).ownBlock ∧ some k_ ≠ (v1_ : Value).ownBlock ∧ some k_ ≠ (v2_ : Value).ownBlock) v3_ r4 ∧ Below w.heap.size w w' := by
 have hu53 := Try.underlying53
 have HR0 := A_.mk hr0
 have HC0 := A_.mk hc0
 clear hr0 hc0
 have HB := A_.mk (Below.refl w.heap.size w)
 have H : ((spec_l01New.f k l0).bind fun bt339 => ((spec_l17Queue.f k bt339.1 bt339.2.1 bt339.2.2).bind fun bt343 => (some (bt343.1, bt343.2.1, bt343.2.2.1, bt343.2.2.2.1)))) = some (r1, r2, r3, r4) := h
 clear h
 replace H := ob_ H
 obtain ⟨⟨t339, t340, t341⟩, A20, H⟩ := H
 replace H : ((spec_l17Queue.f k t339 t340 t341).bind fun bt343 => (some (bt343.1, bt343.2.1, bt343.2.2.1, bt343.2.2.2.1))) = some (r1, r2, r3, r4) := H
 have A2 := A_.mk A20
 clear A20
 replace H := ob_ H
 obtain ⟨⟨t343, t346, t349, t352, t355, t356⟩, A30, H⟩ := H
 replace H : (some (t343, t346, t349, t352)) = some (r1, r2, r3, r4) := H
 have A3 := A_.mk A30
 clear A30
 simp only [Option.some.injEq, Prod.mk.injEq] at H
 obtain ⟨rfl, rfl, rfl, rfl⟩ := H
 go_enter Try.func30, Try.ntmps30
 go_wp2_with (first | ((with_reducible refine gd_ (N := 2) rfl ?_); refine by_ 2 (cs := #[.slice none 0 0, .slice none 0 0, .slice none 0 0, .slice none 0 0]) (t := 53) ?_; intro gb338 hg w4 hbox hb; have n0_ := A_.mk (bt_ (beY HB.out) hb); have n1_ := A_.mk (hbox); have n2_ := A_.mk ((by rw [hg]; exact (bz_ (beY HB.out)) : w.heap.size ≤ gb338)); have n3_ := A_.mk ((by rw [hg]; exact (bz_ (beY HB.out)) : w.heap.size ≤ gb338)); clear HB; have HB := n0_; have BK338 := n1_; have GW338 := n2_; have GE338 := n3_; clear n0_ n1_ n2_ n3_ hb hbox hg) | ((with_reducible refine gc_ (f := 54) rfl ?_); refine gl_ (some 4) Try.func54 #[.slice A0 l0.length c0] ?_; (with_reducible refine (spec_l01New.calls k _ _ l0 t339 t340 t341 w _ ?side1 ?side2 ?side3 A2.out).mono ?_); (case side1 => repeat (first | (with_reducible first | exact HB.out | apply ba_ | apply bd_ | apply be_ | refine bs_ ?_ GE338.out) | exact HB.out)); (case side2 => exact HR0.out); (case side3 => exact HC0.out); rintro e w5 ⟨g342, rfl, hi, hb, hb2⟩; refine ⟨_, rfl, ?_⟩; have n0_ := A_.mk (bb_ (bY BK338.out) hb2); have n1_ := A_.mk (hb); have n2_ := A_.mk (hi); have n3_ := A_.mk (IsS91.ne_blk hi (bb_ (bY BK338.out) hb2) (by decide)); have n4_ := A_.mk (Ne.symm (IsS91.ne_blk hi (bb_ (bY BK338.out) hb2) (by decide))); clear BK338 HB; have BK338 := n0_; have HB := n1_; have HI342 := n2_; have NB342_338 := n3_; have NB338_342 := n4_; clear n0_ n1_ n2_ n3_ n4_; (try clear hb); (try clear hb2); (try clear hk); (try clear hi)) | ((with_reducible refine gc_ (f := 58) rfl ?_); refine gl_ (some 5) Try.func58 #[.pointer (some ⟨g342, 0, none⟩)] ?_; (with_reducible refine (spec_l17Queue.calls k g342 t339 t340 t341 t343 t346 t349 t352 t355 t356 w _ ?side1 ?side2 A3.out).mono ?_); (case side1 => repeat (first | (with_reducible first | exact HI342.out | apply IsS91.alloc | apply IsS91.drewN | apply IsS91.drew | apply IsS91.set_1 | apply IsS91.set_2 | refine IsS91.far ?_ NB342_338.out _) | exact HI342.out)); (case side2 => repeat (first | (with_reducible first | exact HB.out | apply ba_ | apply bd_ | apply be_ | refine bs_ ?_ (IsS91.ge HI342.out) | refine bs_ ?_ GE338.out) | exact HB.out)); rintro e w6 ⟨v344, v347, v350, v353, rfl, ho0, ho1, ho2, ho3, hi, hb, hk⟩; refine ⟨_, rfl, ?_⟩; have n0_ := A_.mk (KB_.blk hk (g' := gb338) (o := .cells #[.slice none 0 0, .slice none 0 0, .slice none 0 0, .slice none 0 0] 53 (0, 0)) (bY BK338.out) NB338_342.out (by simp)); have n1_ := A_.mk (Kd.S_lower ho0 (bz_ (by repeat (first | (with_reducible first | exact HB.out | apply ba_ | apply bd_ | apply be_ | refine bs_ ?_ (IsS91.ge HI342.out) | refine bs_ ?_ GE338.out) | exact HB.out)))); have n2_ := A_.mk (Kd.R_lower ho1 (bz_ (by repeat (first | (with_reducible first | exact HB.out | apply ba_ | apply bd_ | apply be_ | refine bs_ ?_ (IsS91.ge HI342.out) | refine bs_ ?_ GE338.out) | exact HB.out)))); have n3_ := A_.mk (Kd.R_lower ho2 (bz_ (by repeat (first | (with_reducible first | exact HB.out | apply ba_ | apply bd_ | apply be_ | refine bs_ ?_ (IsS91.ge HI342.out) | refine bs_ ?_ GE338.out) | exact HB.out)))); have n4_ := A_.mk (Kd.S_lower ho3 (bz_ (by repeat (first | (with_reducible first | exact HB.out | apply ba_ | apply bd_ | apply be_ | refine bs_ ?_ (IsS91.ge HI342.out) | refine bs_ ?_ GE338.out) | exact HB.out)))); have n5_ := A_.mk (hb); have n6_ := A_.mk (hi); clear BK338 HB HI342; have BK338 := n0_; have HO345 := n1_; have HO348 := n2_; have HO351 := n3_; have HO354 := n4_; have HB := n5_; have HI342 := n6_; clear n0_ n1_ n2_ n3_ n4_ n5_ n6_; (try clear hb); (try clear hb2); (try clear hk); (try clear hi); (try clear ho0); (try clear ho1); (try clear ho2); (try clear ho3); obtain ⟨Ao7, co7, eo7⟩ := Kd.S_slice HO345.out; subst eo7; have hnb8 := NB338_342.out; have hnc8 := NB342_338.out; have hcz9_0 : w6.cell? ⟨gb338, 0, none⟩ = some (.slice none 0 0) := (bc_ BK338.out 0).trans rfl; have hcz9_1 : w6.cell? ⟨gb338, 1, none⟩ = some (.slice none 0 0) := (bc_ BK338.out 1).trans rfl; have hcz9_2 : w6.cell? ⟨gb338, 2, none⟩ = some (.slice none 0 0) := (bc_ BK338.out 2).trans rfl; have hcz9_3 : w6.cell? ⟨gb338, 3, none⟩ = some (.slice none 0 0) := (bc_ BK338.out 3).trans rfl; have hfz9_0 := bf_ BK338.out 0; have hfz9_1 := bf_ BK338.out 1; have hfz9_2 := bf_ BK338.out 2; have hfz9_3 := bf_ BK338.out 3; obtain ⟨Ao10, co10, eo10⟩ := Kd.R_slice HO348.out; subst eo10; obtain ⟨Ao11, co11, eo11⟩ := Kd.R_slice HO351.out; subst eo11; obtain ⟨Ao12, co12, eo12⟩ := Kd.S_slice HO354.out; subst eo12))
 refine bodyPost_ret (results_cell_row rfl _ _ gb338 53 #[.slice Ao7 t343.length co7, .slice Ao10 t346.length co10, .slice Ao11 t349.length co11, .slice Ao12 t352.length co12] (0, 0) _ rfl (by (repeat apply bX); refine bp_ (cs := #[.slice Ao7 t343.length co7, .slice Ao10 t346.length co10, .slice Ao11 t349.length co11, .slice none 0 0]) ?_ 3 _ rfl; (repeat apply bX); refine bp_ (cs := #[.slice Ao7 t343.length co7, .slice Ao10 t346.length co10, .slice none 0 0, .slice none 0 0]) ?_ 2 _ rfl; (repeat apply bX); refine bp_ (cs := #[.slice Ao7 t343.length co7, .slice none 0 0, .slice none 0 0, .slice none 0 0]) ?_ 1 _ rfl; (repeat apply bX); refine bp_ (cs := #[.slice none 0 0, .slice none 0 0, .slice none 0 0, .slice none 0 0]) ?_ 0 _ rfl; (repeat apply bX); exact BK338.out) Try.underlying53 rfl (by kernel_rfl)) rfl ?_
 exact ⟨_, _, _, _, by first | rfl | (simp [errW_none, errW_some] <;> rfl) | (simp [*, errW_none, errW_some] <;> rfl), by (with_reducible repeat (first | apply Kd.S_alloc | apply Kd.S_drewN | apply Kd.S_drew)); exact Kd.S_mono (Kd.S_far (p := ⟨gb338, 3, none⟩) (Kd.S_far (p := ⟨gb338, 2, none⟩) (Kd.S_far (p := ⟨gb338, 1, none⟩) (Kd.S_far (p := ⟨gb338, 0, none⟩) (Kd.S_types HO345.out BK338.out (by decide)) (fun _ hk => hk.2) (.slice Ao7 t343.length co7)) (fun _ hk => hk.2) (.slice Ao10 t346.length co10)) (fun _ hk => hk.2) (.slice Ao11 t349.length co11)) (fun _ hk => hk.2) (.slice Ao12 t352.length co12)) (fun _ hk => ⟨hk.1.1, ⟨hk.1.2.1, hk.1.2.2⟩⟩), by (repeat apply rX); exact Kd.R_mono (Kd.R_far (p := ⟨gb338, 3, none⟩) (Kd.R_far (p := ⟨gb338, 2, none⟩) (Kd.R_far (p := ⟨gb338, 1, none⟩) (Kd.R_far (p := ⟨gb338, 0, none⟩) (Kd.R_types HO348.out BK338.out (by decide)) (fun _ hk => hk.2) (.slice Ao7 t343.length co7)) (fun _ hk => hk.2) (.slice Ao10 t346.length co10)) (fun _ hk => hk.2) (.slice Ao11 t349.length co11)) (fun _ hk => hk.2) (.slice Ao12 t352.length co12)) (fun _ hk => hk.1), by (repeat apply rX); exact Kd.R_mono (Kd.R_far (p := ⟨gb338, 3, none⟩) (Kd.R_far (p := ⟨gb338, 2, none⟩) (Kd.R_far (p := ⟨gb338, 1, none⟩) (Kd.R_far (p := ⟨gb338, 0, none⟩) (Kd.R_types HO351.out BK338.out (by decide)) (fun _ hk => hk.2) (.slice Ao7 t343.length co7)) (fun _ hk => hk.2) (.slice Ao10 t346.length co10)) (fun _ hk => hk.2) (.slice Ao11 t349.length co11)) (fun _ hk => hk.2) (.slice Ao12 t352.length co12)) (fun _ hk => hk.1), by (with_reducible repeat (first | apply Kd.S_alloc | apply Kd.S_drewN | apply Kd.S_drew)); exact Kd.S_mono (Kd.S_far (p := ⟨gb338, 3, none⟩) (Kd.S_far (p := ⟨gb338, 2, none⟩) (Kd.S_far (p := ⟨gb338, 1, none⟩) (Kd.S_far (p := ⟨gb338, 0, none⟩) (Kd.S_types HO354.out BK338.out (by decide)) (fun _ hk => hk.2) (.slice Ao7 t343.length co7)) (fun _ hk => hk.2) (.slice Ao10 t346.length co10)) (fun _ hk => hk.2) (.slice Ao11 t349.length co11)) (fun _ hk => hk.2) (.slice Ao12 t352.length co12)) (fun _ hk => ⟨hk.1.1, ⟨hk.1.2.1, hk.1.2.2⟩⟩), by repeat (first | (with_reducible first | exact HB.out | apply ba_ | apply bd_ | apply be_ | refine bs_ ?_ (IsS91.ge HI342.out) | refine bs_ ?_ GE338.out) | exact HB.out)⟩
/-! ### impl_areCredits_1: function 91 -/
def impl_areCredits_1.f (a0 : Int) : Option (Bool) := (impl_within.f a0 0 30).bind fun t357 => (some (!t357))
set_option maxHeartbeats 8000000 in
set_option maxRecDepth 100000 in
theorem impl_areCredits_1.calls (a0 : Int) (r : Bool) (w : World) (h : impl_areCredits_1.f a0 = some r) :
  Calls Try.prog 91 #[.int .i64 a0] w fun e w' => e = .returned (.bool r) ∧ Drawn0 w w' := by
 have H : ((impl_within.f a0 0 30).bind fun t357 => (some (!t357))) = some r := h
 clear h
 replace H := ob_ H
 obtain ⟨t357, A20, H⟩ := H
 have A2 := A_.mk A20
 clear A20
 obtain rfl := Option.some.inj H
 go_enter Try.func91, Try.ntmps91
 go_wp2_with (first | ((with_reducible refine gc_ (f := 55) rfl ?_); refine gl_ (some 4) Try.func55 #[.int .i64 a0, .int .i64 0, .int .i64 30] ?_; (with_reducible refine (impl_within.calls a0 0 30 t357 _ A2.out).mono ?_); rintro e w' ⟨rfl, ⟨nd, rfl⟩⟩; refine ⟨_, rfl, ?_⟩))
 go_ret
 exact ⟨by first | rfl | (simp; done) | (simp [*]; done), by repeat (first | exact Drawn0.refl _ | apply Drawn0.step)⟩

end Go.Proofs.Ytbdehpmfemgooaa.PFnQueues
