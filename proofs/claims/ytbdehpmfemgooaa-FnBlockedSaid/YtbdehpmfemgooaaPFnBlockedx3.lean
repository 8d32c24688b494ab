-- Written by a program of this session (wip/xp): not trusted, Lean checks it.
import Derived.Test.YtbdehpmfemgooaaPFnBlockedx0
import Derived.Test.YtbdehpmfemgooaaPFnBlockedx1
import Derived.Test.YtbdehpmfemgooaaPFnBlockedx2
namespace Go.Proofs.Ytbdehpmfemgooaa.PFnBlocked
open Go.RowKit Go.Proofs.YtbdehpmfemgooaaW.PrintWords Go.Proofs.YtbdehpmfemgooaaW.PrintLast Go.Proofs.YtbdehpmfemgooaaW.PrintMore
attribute [local go_sem] max2_int min2_int max_two min_two max_three min_three max_four min_four   -- for this text's walks alone
set_option linter.unusedVariables false
set_option linter.unusedSimpArgs false

/-! ### spec_l16Queue: function 53 -/
def spec_l16Queue.l0 : Nat → List (S60) → Int → List Int → Int → Int → Option ((List (S60)) × Int × Int)
 | 0, _, _, _, _, _ => none
 | k + 1, x3, x4, x1000, x1001, x1002 => (spec_l01Below.f x1000 x1001 x1002 7).bind fun bt228 => (if x4 < bt228.1 then ((spec_l04Packet.f k x1000 bt228.2.1 bt228.2.2).bind fun bt231 => (if bt231.1 = 6 then ((spec_l01Below.f x1000 bt231.2.2.2.2.2.2.2.2.1 bt231.2.2.2.2.2.2.2.2.2 2).bind fun bt244 => (if x3.length < 1759218604441 then (spec_l16Queue.l0 k (x3 ++ [(⟨bt231.1, bt231.2.1, 16, bt231.2.2.2.1, bt231.2.2.2.2.1, bt244.1, bt231.2.2.2.2.2.2.1, bt231.2.2.2.2.2.2.2.1⟩ : S60)]) (wrap64 (x4 + 1)) x1000 bt244.2.1 bt244.2.2) else (none))) else (if x3.length < 1759218604441 then (spec_l16Queue.l0 k (x3 ++ [(⟨bt231.1, bt231.2.1, bt231.2.2.1, bt231.2.2.2.1, bt231.2.2.2.2.1, bt231.2.2.2.2.2.1, bt231.2.2.2.2.2.2.1, bt231.2.2.2.2.2.2.2.1⟩ : S60)]) (wrap64 (x4 + 1)) x1000 bt231.2.2.2.2.2.2.2.2.1 bt231.2.2.2.2.2.2.2.2.2) else (none)))) else (some (x3, bt228.2.1, bt228.2.2)))
def spec_l16Queue.f (k : Nat) (s0_0 : List Int) (s0_1 : Int) (s0_2 : Int) : Option ((List (S60)) × Int × Int) := spec_l16Queue.l0 k (([] : List (S60))) 0 s0_0 s0_1 s0_2
set_option maxHeartbeats 8000000 in
set_option maxRecDepth 100000 in
theorem spec_l16Queue.calls (k : Nat) (g : Nat) (s0_0 : List Int) (s0_1 : Int) (s0_2 : Int) (r1 : List (S60)) (r2 : Int) (r3 : Int) (w0 w : World) (hI : IsS91 w0 w g s0_0 s0_1 s0_2) (hB : Below w0.heap.size w0 w) (h : spec_l16Queue.f k s0_0 s0_1 s0_2 = some (r1, r2, r3)) :
  Calls Try.prog 53 #[.pointer (some ⟨g, 0, none⟩)] w fun e w' => ∃ v0_ : Value, e = .returned (v0_) ∧ Kd.S k60 60 w' w.heap.size (fun _ => True) v0_ r1 ∧ IsS91 w0 w' g s0_0 r2 r3 ∧ Below w0.heap.size w0 w' ∧ KeepBut w w' g none := by
 have hu60 := Try.underlying60
 have HI0 := Aside0.mk hI
 have HK := Aside0.mk (KeepBut.refl w g none)
 have HL := Aside0.mk hB.size
 clear hI
 have HW0 := Aside0.mk hB.size
 have HB := Aside0.mk hB
 clear hB
 have H : (spec_l16Queue.l0 k (([] : List (S60))) 0 s0_0 s0_1 s0_2) = some (r1, r2, r3) := h
 clear h
 obtain ⟨y225, hy225⟩ : ∃ y_ : List (S60), y_ = (([] : List (S60))) := ⟨_, rfl⟩
 replace H : (spec_l16Queue.l0 k y225 0 s0_0 s0_1 s0_2) = some (r1, r2, r3) := by first | (rw [hy225]; with_reducible exact H) | (have H2_ := (Option.bind_some _ _).symm.trans H; rw [hy225]; with_reducible exact H2_) | (have H2_ := (Option.bind_some _ _).symm.trans H; with_reducible exact H2_) | with_reducible exact H | (rw [hy225]; exact H) | exact H
 have Ny225 := Aside0.mk hy225
 clear hy225
 have H' := Aside0.mk H
 clear H
 go_enter Try.func53, Try.ntmps53
 go_wp2_with (first | ((with_reducible refine gd_ (N := 6) rfl ?_); refine Kd.S_lit k60 _ 60 ?hg (N := 6) ?hd (xs := ([] : List (S60))) (inner := []) (ok := fun _ => True) (okp := fun _ => True) ?hr ?hp (fun _ hk => hk) trivial (Below.refl _ _) (Nat.le_refl _) (by simp) ?_; (case hd => rfl); (case hg => rfl); (case hr => first | (go_simp; done) | (go_simp; rfl)); (case hp => exact (Reps.none _ _)); intro v226 w2 ho3 hb hg_ hnew_; clear hg_ hnew_; (first | rw [← Ny225.out] at ho3 | (simp only [Int.reduceToNat] at ho3; rw [← Ny225.out] at ho3)); have n0_ := Aside0.mk (Kd.S_lower ho3 (keep_size (w := w) (g := g) (row := none) (by repeat (first | (with_reducible first | exact HK.out | apply KeepBut.set_ | apply keep_drewN | apply keep_drew | apply keep_alloc) | exact HK.out)))); have n1_ := Aside0.mk (IsS91.below (by repeat (first | (with_reducible first | exact HI0.out | apply IsS91.alloc | apply IsS91.drewN | apply IsS91.drew | apply IsS91.set_1 | apply IsS91.set_2) | exact HI0.out)) hb); have n2_ := Aside0.mk (KeepBut.trans (by repeat (first | (with_reducible first | exact HK.out | apply KeepBut.set_ | apply keep_drewN | apply keep_drew | apply keep_alloc) | exact HK.out)) (KeepBut.of_below hb g none) (.inl rfl)); have n3_ := Aside0.mk (bt_ (by repeat (first | (with_reducible first | exact HB.out | apply ba_ | apply bd_ | apply be_ | refine bs_ ?_ (IsS91.ge HI0.out)) | exact HB.out)) hb); clear HI0 HK HB; have HO227 := n0_; have HI0 := n1_; have HK := n2_; have HB := n3_; clear n0_ n1_ n2_ n3_ hb ho3))
 go_loopg [3, 4] k (fun kq v3 v4 w' => ∃ (x3_1 : List (S60)) (x4_1 : Int) (x1001_1 : Int) (x1002_1 : Int), v4 = .int .i64 x4_1 ∧ Aside0 (spec_l16Queue.l0 kq x3_1 x4_1 s0_0 x1001_1 x1002_1 = some (r1, r2, r3)) ∧ Aside0 (kq ≤ k) ∧ Aside0 (Kd.S k60 60 w' w.heap.size (fun _ => True) v3 x3_1) ∧ Aside0 (IsS91 w0 w' g s0_0 x1001_1 x1002_1) ∧ Aside0 (KeepBut w w' g none) ∧ Aside0 (Below w0.heap.size w0 w'))
 case atStart => exact ⟨(y225), (0), (s0_1), (s0_2), (by first | rfl | (simp; done) | (simp [*]; done)), H', ⟨Nat.le_refl _⟩, ⟨by (with_reducible repeat (first | apply Kd.S_alloc | apply Kd.S_drewN | apply Kd.S_drew)); exact HO227.out⟩, ⟨by repeat (first | (with_reducible first | exact HI0.out | apply IsS91.alloc | apply IsS91.drewN | apply IsS91.drew | apply IsS91.set_1 | apply IsS91.set_2) | exact HI0.out)⟩, ⟨by repeat (first | (with_reducible first | exact HK.out | apply KeepBut.set_ | apply keep_drewN | apply keep_drew | apply keep_alloc) | exact HK.out)⟩, ⟨by repeat (first | (with_reducible first | exact HB.out | apply ba_ | apply bd_ | apply be_ | refine bs_ ?_ (IsS91.ge HI0.out)) | exact HB.out)⟩⟩
 case round =>
  clear H'
  obtain ⟨x3_1, x4_1, x1001_1, x1002_1, rfl, HA, HK1, HO_3, HI0, HK, HB⟩ := hrel
  cases gk with
  | zero => exact absurd HA.out (by simp [spec_l16Queue.l0])
  | succ k1 =>
   have H := HA.out
   clear HA
   simp only [spec_l16Queue.l0] at H
   replace H := Option.bind_eq_some_iff.mp H
   obtain ⟨⟨t228, t229, t230⟩, A40, H⟩ := H
   replace H : (if x4_1 < t228 then ((spec_l04Packet.f k1 s0_0 t229 t230).bind fun bt231 => (if bt231.1 = 6 then ((spec_l01Below.f s0_0 bt231.2.2.2.2.2.2.2.2.1 bt231.2.2.2.2.2.2.2.2.2 2).bind fun bt244 => (if x3_1.length < 1759218604441 then (spec_l16Queue.l0 k1 (x3_1 ++ [(⟨bt231.1, bt231.2.1, 16, bt231.2.2.2.1, bt231.2.2.2.2.1, bt244.1, bt231.2.2.2.2.2.2.1, bt231.2.2.2.2.2.2.2.1⟩ : S60)]) (wrap64 (x4_1 + 1)) s0_0 bt244.2.1 bt244.2.2) else (none))) else (if x3_1.length < 1759218604441 then (spec_l16Queue.l0 k1 (x3_1 ++ [(⟨bt231.1, bt231.2.1, bt231.2.2.1, bt231.2.2.2.1, bt231.2.2.2.2.1, bt231.2.2.2.2.2.1, bt231.2.2.2.2.2.2.1, bt231.2.2.2.2.2.2.2.1⟩ : S60)]) (wrap64 (x4_1 + 1)) s0_0 bt231.2.2.2.2.2.2.2.2.1 bt231.2.2.2.2.2.2.2.2.2) else (none)))) else (some (x3_1, t229, t230))) = some (r1, r2, r3) := H
   have A4 := Aside0.mk A40
   clear A40
   by_cases c5 : x4_1 < t228
   rotate_left
   ·rw [if_neg c5] at H
    have c5b0 : decide (x4_1 < t228) = false := decide_eq_false c5
    clear c5
    simp only [Option.some.injEq, Prod.mk.injEq] at H
    obtain ⟨rfl, rfl, rfl⟩ := H
    go_wp2_with (first | ((with_reducible refine gc_ (f := 76) rfl ?_); refine goesL_ (some 9) rfl rfl Try.func76 (by kernel_rfl) rfl #[.pointer (some ⟨g, 0, none⟩), .int .i64 7] rfl (by (try simp only [List.map_toArray, List.map_cons, List.map_nil]); first | done | rfl) ?_; (with_reducible refine (spec_l01Below.calls g s0_0 x1001_1 x1002_1 7 t228 t229 t230 w0 _ ?side1 ?side2 A4.out).mono ?_); (case side1 => repeat (first | (with_reducible first | exact HI0.out | apply IsS91.alloc | apply IsS91.drewN | apply IsS91.drew | apply IsS91.set_1 | apply IsS91.set_2) | exact HI0.out)); (case side2 => repeat (first | (with_reducible first | exact HB.out | apply ba_ | apply bd_ | apply be_ | refine bs_ ?_ (IsS91.ge HI0.out)) | exact HB.out)); rintro e w31 ⟨rfl, hi, hb, hk⟩; refine ⟨_, rfl, ?_⟩; have n0_ := Aside0.mk (Kd.S_mono (Kd.S_keep (IsS91.apartS (show IsS91 w0 _ g s0_0 x1001_1 x1002_1 from by repeat (first | (with_reducible first | exact HI0.out | apply IsS91.alloc | apply IsS91.drewN | apply IsS91.drew | apply IsS91.set_1 | apply IsS91.set_2) | exact HI0.out)) (by (with_reducible repeat (first | apply Kd.S_alloc | apply Kd.S_drewN | apply Kd.S_drew)); exact HO_3.out) (by decide)) hk (fun _ h => h.2)) (fun _ h => h.1)); have n1_ := Aside0.mk (KeepBut.trans (by repeat (first | (with_reducible first | exact HK.out | apply KeepBut.set_ | apply keep_drewN | apply keep_drew | apply keep_alloc) | exact HK.out)) hk (.inl rfl)); have n2_ := Aside0.mk (hb); have n3_ := Aside0.mk (hi); clear HO_3 HK HB HI0; have HO_3 := n0_; have HK := n1_; have HB := n2_; have HI0 := n3_; clear n0_ n1_ n2_ n3_; (try clear hb); (try clear hb2); (try clear hk); (try clear hi)))
    go_ret
    exact ⟨_, by first | rfl | (simp [errW_none, errW_some] <;> rfl) | (simp [*, errW_none, errW_some] <;> rfl), by (with_reducible repeat (first | apply Kd.S_alloc | apply Kd.S_drewN | apply Kd.S_drew)); exact HO_3.out, by repeat (first | (with_reducible first | exact HI0.out | apply IsS91.alloc | apply IsS91.drewN | apply IsS91.drew | apply IsS91.set_1 | apply IsS91.set_2) | exact HI0.out), by repeat (first | (with_reducible first | exact HB.out | apply ba_ | apply bd_ | apply be_ | refine bs_ ?_ (IsS91.ge HI0.out)) | exact HB.out), by repeat (first | (with_reducible first | exact HK.out | apply KeepBut.set_ | apply keep_drewN | apply keep_drew | apply keep_alloc) | exact HK.out)⟩
   rw [if_pos c5] at H
   have c5b0 : decide (x4_1 < t228) = true := decide_eq_true c5
   clear c5
   replace H := Option.bind_eq_some_iff.mp H
   obtain ⟨⟨t231, t232, t233, t234, t235, t236, t237, t238, t241, t242⟩, A60, H⟩ := H
   replace H : (if t231 = 6 then ((spec_l01Below.f s0_0 t241 t242 2).bind fun bt244 => (if x3_1.length < 1759218604441 then (spec_l16Queue.l0 k1 (x3_1 ++ [(⟨t231, t232, 16, t234, t235, bt244.1, t237, t238⟩ : S60)]) (wrap64 (x4_1 + 1)) s0_0 bt244.2.1 bt244.2.2) else (none))) else (if x3_1.length < 1759218604441 then (spec_l16Queue.l0 k1 (x3_1 ++ [(⟨t231, t232, t233, t234, t235, t236, t237, t238⟩ : S60)]) (wrap64 (x4_1 + 1)) s0_0 t241 t242) else (none))) = some (r1, r2, r3) := H
   have A6 := Aside0.mk A60
   clear A60
   by_cases c7 : t231 = 6
   rotate_left
   ·rw [if_neg c7] at H
    have c7b0 : (t231 == 6) = false := beq_eq_false_iff_ne.mpr c7
    have c7b1 : (t231 != 6) = true := bne_iff_ne.mpr c7
    by_cases c21 : x3_1.length < 1759218604441
    rotate_left
    ·rw [if_neg c21] at H
     exact absurd H (by simp)
    rw [if_pos c21] at H
    have LMc21 := Aside0.mk c21
    clear c21
    obtain ⟨y250, hy250⟩ : ∃ y_ : List (S60), y_ = (x3_1 ++ [(⟨t231, t232, t233, t234, t235, t236, t237, t238⟩ : S60)]) := ⟨_, rfl⟩
    replace H : (spec_l16Queue.l0 k1 y250 (wrap64 (x4_1 + 1)) s0_0 t241 t242) = some (r1, r2, r3) := by first | (rw [hy250]; with_reducible exact H) | (have H2_ := (Option.bind_some _ _).symm.trans H; rw [hy250]; with_reducible exact H2_) | (have H2_ := (Option.bind_some _ _).symm.trans H; with_reducible exact H2_) | with_reducible exact H | (rw [hy250]; exact H) | exact H
    have Ny250 := Aside0.mk hy250
    clear hy250
    have H' := Aside0.mk H
    clear H
    go_wp2_with (first | ((with_reducible refine gc_ (f := 76) rfl ?_); refine goesL_ (some 9) rfl rfl Try.func76 (by kernel_rfl) rfl #[.pointer (some ⟨g, 0, none⟩), .int .i64 7] rfl (by (try simp only [List.map_toArray, List.map_cons, List.map_nil]); first | done | rfl) ?_; (with_reducible refine (spec_l01Below.calls g s0_0 x1001_1 x1002_1 7 t228 t229 t230 w0 _ ?side1 ?side2 A4.out).mono ?_); (case side1 => repeat (first | (with_reducible first | exact HI0.out | apply IsS91.alloc | apply IsS91.drewN | apply IsS91.drew | apply IsS91.set_1 | apply IsS91.set_2) | exact HI0.out)); (case side2 => repeat (first | (with_reducible first | exact HB.out | apply ba_ | apply bd_ | apply be_ | refine bs_ ?_ (IsS91.ge HI0.out)) | exact HB.out)); rintro e w22 ⟨rfl, hi, hb, hk⟩; refine ⟨_, rfl, ?_⟩; have n0_ := Aside0.mk (Kd.S_mono (Kd.S_keep (IsS91.apartS (show IsS91 w0 _ g s0_0 x1001_1 x1002_1 from by repeat (first | (with_reducible first | exact HI0.out | apply IsS91.alloc | apply IsS91.drewN | apply IsS91.drew | apply IsS91.set_1 | apply IsS91.set_2) | exact HI0.out)) (by (with_reducible repeat (first | apply Kd.S_alloc | apply Kd.S_drewN | apply Kd.S_drew)); exact HO_3.out) (by decide)) hk (fun _ h => h.2)) (fun _ h => h.1)); have n1_ := Aside0.mk (KeepBut.trans (by repeat (first | (with_reducible first | exact HK.out | apply KeepBut.set_ | apply keep_drewN | apply keep_drew | apply keep_alloc) | exact HK.out)) hk (.inl rfl)); have n2_ := Aside0.mk (hb); have n3_ := Aside0.mk (hi); clear HO_3 HK HB HI0; have HO_3 := n0_; have HK := n1_; have HB := n2_; have HI0 := n3_; clear n0_ n1_ n2_ n3_; (try clear hb); (try clear hb2); (try clear hk); (try clear hi)) | ((with_reducible refine gc_ (f := 77) rfl ?_); refine goesL_ (some 14) rfl rfl Try.func77 (by kernel_rfl) rfl #[.pointer (some ⟨g, 0, none⟩)] rfl (by (try simp only [List.map_toArray, List.map_cons, List.map_nil]); first | done | rfl) ?_; (with_reducible refine (spec_l04Packet.calls k1 g s0_0 t229 t230 t231 t232 t233 t234 t235 t236 t237 t238 t241 t242 w0 _ ?side1 ?side2 A6.out).mono ?_); (case side1 => repeat (first | (with_reducible first | exact HI0.out | apply IsS91.alloc | apply IsS91.drewN | apply IsS91.drew | apply IsS91.set_1 | apply IsS91.set_2) | exact HI0.out)); (case side2 => repeat (first | (with_reducible first | exact HB.out | apply ba_ | apply bd_ | apply be_ | refine bs_ ?_ (IsS91.ge HI0.out)) | exact HB.out)); rintro e w23 ⟨v239, rfl, ho0, hi, hb, hk⟩; refine ⟨_, rfl, ?_⟩; have n0_ := Aside0.mk (Kd.S_mono (Kd.S_told (Kd.S_oldK (IsS91.apartS (show IsS91 w0 _ g s0_0 t229 t230 from by repeat (first | (with_reducible first | exact HI0.out | apply IsS91.alloc | apply IsS91.drewN | apply IsS91.drew | apply IsS91.set_1 | apply IsS91.set_2) | exact HI0.out)) (by (with_reducible repeat (first | apply Kd.S_alloc | apply Kd.S_drewN | apply Kd.S_drew)); exact HO_3.out) (by decide)) hk) (Kd.R_base ho0)) (fun _ h_ => h_.1)); have n1_ := Aside0.mk (Kd.R_lower ho0 (keep_size (w := w) (g := g) (row := none) (by repeat (first | (with_reducible first | exact HK.out | apply KeepBut.set_ | apply keep_drewN | apply keep_drew | apply keep_alloc) | exact HK.out)))); have n2_ := Aside0.mk (KeepBut.trans (by repeat (first | (with_reducible first | exact HK.out | apply KeepBut.set_ | apply keep_drewN | apply keep_drew | apply keep_alloc) | exact HK.out)) hk (.inl rfl)); have n3_ := Aside0.mk (hb); have n4_ := Aside0.mk (hi); clear HO_3 HK HB HI0; have HO_3 := n0_; have HO240 := n1_; have HK := n2_; have HB := n3_; have HI0 := n4_; clear n0_ n1_ n2_ n3_ n4_; (try clear hb); (try clear hb2); (try clear hk); (try clear hi); (try clear ho0)) | ((with_reducible refine gd_ (N := 5) rfl ?_); refine bx_ ?hg (N := 5) ?hd (cs := #[.int .i64 0, .int .i64 0, .int .i64 0, .int .i64 0, .int .i64 0, .int .i64 0, .int .i64 0, .slice none 0 0]) (t := 60) ?hr ?_; (case hd => rfl); (case hg => rfl); (case hr => first | (go_simp; done) | (go_simp; rfl)); intro gb243 hg w24 hbox hb; have n0_ := Aside0.mk (Kd.S_below (Kd.S_elderB (by (with_reducible repeat (first | apply Kd.S_alloc | apply Kd.S_drewN | apply Kd.S_drew)); exact HO_3.out) gb243 (Nat.le_of_eq hg.symm)) hb); have n1_ := Aside0.mk (Kd.R_below (rY HO240.out) hb); have n2_ := Aside0.mk (IsS91.below (by repeat (first | (with_reducible first | exact HI0.out | apply IsS91.alloc | apply IsS91.drewN | apply IsS91.drew | apply IsS91.set_1 | apply IsS91.set_2) | exact HI0.out)) hb); have n3_ := Aside0.mk (KeepBut.trans (by repeat (first | (with_reducible first | exact HK.out | apply KeepBut.set_ | apply keep_drewN | apply keep_drew | apply keep_alloc) | exact HK.out)) (KeepBut.of_below hb g none) (.inl rfl)); have n4_ := Aside0.mk (bt_ (by repeat (first | (with_reducible first | exact HB.out | apply ba_ | apply bd_ | apply be_ | refine bs_ ?_ (IsS91.ge HI0.out)) | exact HB.out)) hb); have n5_ := Aside0.mk (hbox); have n6_ := Aside0.mk ((by rw [hg]; exact (keep_size (w := w) (g := g) (row := none) (by repeat (first | (with_reducible first | exact HK.out | apply KeepBut.set_ | apply keep_drewN | apply keep_drew | apply keep_alloc) | exact HK.out))) : w.heap.size ≤ gb243)); have n7_ := Aside0.mk ((Nat.le_trans HW0.out (by rw [hg]; exact (keep_size (w := w) (g := g) (row := none) (by repeat (first | (with_reducible first | exact HK.out | apply KeepBut.set_ | apply keep_drewN | apply keep_drew | apply keep_alloc) | exact HK.out))) : w.heap.size ≤ gb243) : w0.heap.size ≤ gb243)); have n8_ := Aside0.mk ((by rw [hg]; exact Nat.ne_of_lt (IsS91.lt (show IsS91 w0 _ g s0_0 t241 t242 from by repeat (first | (with_reducible first | exact HI0.out | apply IsS91.alloc | apply IsS91.drewN | apply IsS91.drew | apply IsS91.set_1 | apply IsS91.set_2) | exact HI0.out))) : g ≠ gb243)); have n9_ := Aside0.mk ((by rw [hg]; exact Nat.ne_of_gt (IsS91.lt (show IsS91 w0 _ g s0_0 t241 t242 from by repeat (first | (with_reducible first | exact HI0.out | apply IsS91.alloc | apply IsS91.drewN | apply IsS91.drew | apply IsS91.set_1 | apply IsS91.set_2) | exact HI0.out))) : gb243 ≠ g)); clear HO_3 HO240 HI0 HK HB; have HO_3 := n0_; have HO240 := n1_; have HI0 := n2_; have HK := n3_; have HB := n4_; have BK243 := n5_; have GW243 := n6_; have GE243 := n7_; have NB0_243 := n8_; have NB243_0 := n9_; clear n0_ n1_ n2_ n3_ n4_ n5_ n6_ n7_ n8_ n9_ hb hbox hg; have hnb25 := NB243_0.out; have hnc25 := NB0_243.out; have hcz26_0 : w24.cell? ⟨gb243, 0, none⟩ = some (.int .i64 0) := (bc_ BK243.out 0).trans rfl; have hcz26_1 : w24.cell? ⟨gb243, 1, none⟩ = some (.int .i64 0) := (bc_ BK243.out 1).trans rfl; have hcz26_2 : w24.cell? ⟨gb243, 2, none⟩ = some (.int .i64 0) := (bc_ BK243.out 2).trans rfl; have hcz26_3 : w24.cell? ⟨gb243, 3, none⟩ = some (.int .i64 0) := (bc_ BK243.out 3).trans rfl; have hcz26_4 : w24.cell? ⟨gb243, 4, none⟩ = some (.int .i64 0) := (bc_ BK243.out 4).trans rfl; have hcz26_5 : w24.cell? ⟨gb243, 5, none⟩ = some (.int .i64 0) := (bc_ BK243.out 5).trans rfl; have hcz26_6 : w24.cell? ⟨gb243, 6, none⟩ = some (.int .i64 0) := (bc_ BK243.out 6).trans rfl; have hcz26_7 : w24.cell? ⟨gb243, 7, none⟩ = some (.slice none 0 0) := (bc_ BK243.out 7).trans rfl; have hfz26_0 := bf_ BK243.out 0; have hfz26_1 := bf_ BK243.out 1; have hfz26_2 := bf_ BK243.out 2; have hfz26_3 := bf_ BK243.out 3; have hfz26_4 := bf_ BK243.out 4; have hfz26_5 := bf_ BK243.out 5; have hfz26_6 := bf_ BK243.out 6; have hfz26_7 := bf_ BK243.out 7; obtain ⟨Ao27, co27, eo27⟩ := Kd.R_slice HO240.out; subst eo27) | ((with_reducible refine gs_ (t := 60) (p := 5) rfl ?_); refine se_ (t := 60) (p := 5) (v := ?vo_w28) (w1 := ((((((((w24.setCell ⟨gb243, 0, none⟩ (.int .i64 t231)).setCell ⟨gb243, 1, none⟩ (.int .i64 t232)).setCell ⟨gb243, 2, none⟩ (.int .i64 t233)).setCell ⟨gb243, 3, none⟩ (.int .i64 t234)).setCell ⟨gb243, 4, none⟩ (.int .i64 t235)).setCell ⟨gb243, 5, none⟩ (.int .i64 t236)).setCell ⟨gb243, 6, none⟩ (.int .i64 t237)).setCell ⟨gb243, 7, none⟩ (.slice Ao27 t238.length co27))) ?hg ?ho ?hn ?hr ?_; (case ho => rfl); (case hg => rfl); (case hn => rfl); (case hr => first | (go_simp; done) | (go_simp; rfl)); intro w28 hw; have n0_ : Aside0 (Kd.S k60 60 w28 w.heap.size (fun k_ => some k_ ≠ (.slice Ao27 t238.length co27 : Value).ownBlock ∧ k_ ≠ gb243) u3 x3_1) := ⟨(by rw [hw]; exact (by (with_reducible repeat (first | apply Kd.S_alloc | apply Kd.S_drewN | apply Kd.S_drew)); exact Kd.S_mono (Kd.S_far (p := ⟨gb243, 7, none⟩) (Kd.S_far (p := ⟨gb243, 6, none⟩) (Kd.S_far (p := ⟨gb243, 5, none⟩) (Kd.S_far (p := ⟨gb243, 4, none⟩) (Kd.S_far (p := ⟨gb243, 3, none⟩) (Kd.S_far (p := ⟨gb243, 2, none⟩) (Kd.S_far (p := ⟨gb243, 1, none⟩) (Kd.S_far (p := ⟨gb243, 0, none⟩) (Kd.S_mono HO_3.out (fun k_ hk => (⟨hk, hk.2⟩ : _ ∧ k_ ≠ gb243))) (fun _ hk => hk.2) (.int .i64 t231)) (fun _ hk => hk.2) (.int .i64 t232)) (fun _ hk => hk.2) (.int .i64 t233)) (fun _ hk => hk.2) (.int .i64 t234)) (fun _ hk => hk.2) (.int .i64 t235)) (fun _ hk => hk.2) (.int .i64 t236)) (fun _ hk => hk.2) (.int .i64 t237)) (fun _ hk => hk.2) (.slice Ao27 t238.length co27)) (fun _ hk => ⟨hk.1.1.2, hk.1.2⟩)))⟩; have n1_ : Aside0 (Kd.R (Kd.int .i64) 3 w28 w.heap.size (fun _ => True) (.slice Ao27 t238.length co27) t238) := ⟨(by rw [hw]; exact (by (repeat apply rX); exact Kd.R_mono (Kd.R_far (p := ⟨gb243, 7, none⟩) (Kd.R_far (p := ⟨gb243, 6, none⟩) (Kd.R_far (p := ⟨gb243, 5, none⟩) (Kd.R_far (p := ⟨gb243, 4, none⟩) (Kd.R_far (p := ⟨gb243, 3, none⟩) (Kd.R_far (p := ⟨gb243, 2, none⟩) (Kd.R_far (p := ⟨gb243, 1, none⟩) (Kd.R_far (p := ⟨gb243, 0, none⟩) (Kd.R_types HO240.out BK243.out (by decide)) (fun _ hk => hk.2) (.int .i64 t231)) (fun _ hk => hk.2) (.int .i64 t232)) (fun _ hk => hk.2) (.int .i64 t233)) (fun _ hk => hk.2) (.int .i64 t234)) (fun _ hk => hk.2) (.int .i64 t235)) (fun _ hk => hk.2) (.int .i64 t236)) (fun _ hk => hk.2) (.int .i64 t237)) (fun _ hk => hk.2) (.slice Ao27 t238.length co27)) (fun _ hk => trivial)))⟩; have n2_ : Aside0 (w28.heap[gb243]? = some (.cells #[.int .i64 t231, .int .i64 t232, .int .i64 t233, .int .i64 t234, .int .i64 t235, .int .i64 t236, .int .i64 t237, .slice Ao27 t238.length co27] 60 (0, 0))) := ⟨(by rw [hw]; exact (by (repeat apply bX); refine bp_ (cs := #[.int .i64 t231, .int .i64 t232, .int .i64 t233, .int .i64 t234, .int .i64 t235, .int .i64 t236, .int .i64 t237, .slice none 0 0]) ?_ 7 _ rfl; (repeat apply bX); refine bp_ (cs := #[.int .i64 t231, .int .i64 t232, .int .i64 t233, .int .i64 t234, .int .i64 t235, .int .i64 t236, .int .i64 0, .slice none 0 0]) ?_ 6 _ rfl; (repeat apply bX); refine bp_ (cs := #[.int .i64 t231, .int .i64 t232, .int .i64 t233, .int .i64 t234, .int .i64 t235, .int .i64 0, .int .i64 0, .slice none 0 0]) ?_ 5 _ rfl; (repeat apply bX); refine bp_ (cs := #[.int .i64 t231, .int .i64 t232, .int .i64 t233, .int .i64 t234, .int .i64 0, .int .i64 0, .int .i64 0, .slice none 0 0]) ?_ 4 _ rfl; (repeat apply bX); refine bp_ (cs := #[.int .i64 t231, .int .i64 t232, .int .i64 t233, .int .i64 0, .int .i64 0, .int .i64 0, .int .i64 0, .slice none 0 0]) ?_ 3 _ rfl; (repeat apply bX); refine bp_ (cs := #[.int .i64 t231, .int .i64 t232, .int .i64 0, .int .i64 0, .int .i64 0, .int .i64 0, .int .i64 0, .slice none 0 0]) ?_ 2 _ rfl; (repeat apply bX); refine bp_ (cs := #[.int .i64 t231, .int .i64 0, .int .i64 0, .int .i64 0, .int .i64 0, .int .i64 0, .int .i64 0, .slice none 0 0]) ?_ 1 _ rfl; (repeat apply bX); refine bp_ (cs := #[.int .i64 0, .int .i64 0, .int .i64 0, .int .i64 0, .int .i64 0, .int .i64 0, .int .i64 0, .slice none 0 0]) ?_ 0 _ rfl; (repeat apply bX); exact BK243.out))⟩; have n3_ : Aside0 (IsS91 w0 w28 g s0_0 t241 t242) := ⟨(by rw [hw]; exact (by repeat (first | (with_reducible first | exact HI0.out | apply IsS91.alloc | apply IsS91.drewN | apply IsS91.drew | apply IsS91.set_1 | apply IsS91.set_2 | refine IsS91.far ?_ NB0_243.out _) | exact HI0.out)))⟩; have n4_ : Aside0 (KeepBut w w28 g none) := ⟨(by rw [hw]; exact (by repeat (first | (with_reducible first | exact HK.out | apply KeepBut.set_ | apply keep_drewN | apply keep_drew | apply keep_alloc | refine keep_far ?_ GW243.out _) | exact HK.out)))⟩; have n5_ : Aside0 (Below w0.heap.size w0 w28) := ⟨(by rw [hw]; exact (by repeat (first | (with_reducible first | exact HB.out | apply ba_ | apply bd_ | apply be_ | refine bs_ ?_ (IsS91.ge HI0.out) | refine bs_ ?_ GE243.out) | exact HB.out)))⟩; clear hw HO_3 HO240 BK243 HI0 HK HB; have HO_3 := n0_; have HO240 := n1_; have BK243 := n2_; have HI0 := n3_; have HK := n4_; have HB := n5_; clear n0_ n1_ n2_ n3_ n4_ n5_; have hcz29_0 : w28.cell? ⟨gb243, 0, none⟩ = some (.int .i64 t231) := (bc_ BK243.out 0).trans rfl; have hcz29_1 : w28.cell? ⟨gb243, 1, none⟩ = some (.int .i64 t232) := (bc_ BK243.out 1).trans rfl; have hcz29_2 : w28.cell? ⟨gb243, 2, none⟩ = some (.int .i64 t233) := (bc_ BK243.out 2).trans rfl; have hcz29_3 : w28.cell? ⟨gb243, 3, none⟩ = some (.int .i64 t234) := (bc_ BK243.out 3).trans rfl; have hcz29_4 : w28.cell? ⟨gb243, 4, none⟩ = some (.int .i64 t235) := (bc_ BK243.out 4).trans rfl; have hcz29_5 : w28.cell? ⟨gb243, 5, none⟩ = some (.int .i64 t236) := (bc_ BK243.out 5).trans rfl; have hcz29_6 : w28.cell? ⟨gb243, 6, none⟩ = some (.int .i64 t237) := (bc_ BK243.out 6).trans rfl; have hcz29_7 : w28.cell? ⟨gb243, 7, none⟩ = some (.slice Ao27 t238.length co27) := (bc_ BK243.out 7).trans rfl; have hfz29_0 := bf_ BK243.out 0; have hfz29_1 := bf_ BK243.out 1; have hfz29_2 := bf_ BK243.out 2; have hfz29_3 := bf_ BK243.out 3; have hfz29_4 := bf_ BK243.out 4; have hfz29_5 := bf_ BK243.out 5; have hfz29_6 := bf_ BK243.out 6; have hfz29_7 := bf_ BK243.out 7) | ((with_reducible refine gate_builtin (b := .append) (xs := #[.tmp 22, .tmp 24]) rfl ?_); at_builtin; refine Kd.S_append k60 w.heap.size rfl (.tmp 22) (.tmp 24) 27 60 (.agg #[(.int .i64 0), (.int .i64 0), (.int .i64 0), (.int .i64 0), (.int .i64 0), (.int .i64 0), (.int .i64 0), (.slice none 0 0)]) 80 rfl Try.underlying27 info60 rfl (by decide) (by omega) u3 x3_1 (⟨t231, t232, t233, t234, t235, t236, t237, t238⟩ : S60) [.int .i64 t231, .int .i64 t232, .int .i64 t233, .int .i64 t234, .int .i64 t235, .int .i64 t236, .int .i64 t237, .slice Ao27 t238.length co27] (fun k_ => k_ ≠ gb243) (fun k_ => some k_ = (.slice Ao27 t238.length co27 : Value).ownBlock) rfl rfl ?aP (fun k_ hk_ => ((Kd.R_mono (ok' := fun k_ => ((fun k_ => k_ ≠ gb243)) k_ ∧ some k_ ≠ (u3 : Value).ownBlock) (Kd.R_types (Kd.R_apart' (HO240.out) (Kd.S_typed HO_3.out) (by decide)) BK243.out (by decide)) (fun k_ hk => ⟨hk.2, hk.1.2⟩))).1 k_ hk_.symm) ?aF ?aO (Below.refl _ _) ?aS ?aL ?_; (case aP => exact k60_mkM _ _ _ (⟨t231, t232, t233, t234, t235, t236, t237, t238⟩ : S60) (Kd.R_mono (Kd.R_tight rfl (Kd.R_mono (ok' := fun k_ => ((fun k_ => k_ ≠ gb243)) k_ ∧ some k_ ≠ (u3 : Value).ownBlock) (Kd.R_types (Kd.R_apart' (HO240.out) (Kd.S_typed HO_3.out) (by decide)) BK243.out (by decide)) (fun k_ hk => ⟨hk.2, hk.1.2⟩))) (fun _ h_ => h_))); (case aF => exact (fun k_ hk => Kd.freshB (g := gb243) (o := .cells #[.int .i64 t231, .int .i64 t232, .int .i64 t233, .int .i64 t234, .int .i64 t235, .int .i64 t236, .int .i64 t237, .slice Ao27 t238.length co27] 60 (0, 0)) (bY BK243.out) k_ hk)); (case aO => exact (by (with_reducible repeat (first | apply Kd.S_alloc | apply Kd.S_drewN | apply Kd.S_drew)); exact Kd.S_mono HO_3.out (fun k_ hk => ⟨hk.2, fun e_ => hk.1 e_⟩))); (case aS => exact (keep_size (w := w) (g := g) (row := none) (by repeat (first | (with_reducible first | exact HK.out | apply KeepBut.set_ | apply keep_drewN | apply keep_drew | apply keep_alloc | refine keep_far ?_ GW243.out _) | exact HK.out)))); (case aL => have := LMc21.out; omega); intro v251 w30 ho hb hg hat; rw [← Ny250.out] at ho; have n0_ := Aside0.mk (IsS91.grown (by repeat (first | (with_reducible first | exact HI0.out | apply IsS91.alloc | apply IsS91.drewN | apply IsS91.drew | apply IsS91.set_1 | apply IsS91.set_2 | refine IsS91.far ?_ NB0_243.out _) | exact HI0.out)) hg (IsS91.own_neS HI0.out HO_3.out (by decide))); have n1_ := Aside0.mk (blk_grown (g := gb243) (o := .cells #[.int .i64 t231, .int .i64 t232, .int .i64 t233, .int .i64 t234, .int .i64 t235, .int .i64 t236, .int .i64 t237, .slice Ao27 t238.length co27] 60 (0, 0)) (bY BK243.out) hg (Kd.S_away HO_3.out (fun _ hk => hk.2))); have n2_ := Aside0.mk (below_weaken (by repeat (first | (with_reducible first | exact HB.out | apply ba_ | apply bd_ | apply be_ | refine bs_ ?_ (IsS91.ge HI0.out) | refine bs_ ?_ GE243.out) | exact HB.out)) HL.out hb); have n3_ := Aside0.mk (KeepBut.trans (by repeat (first | (with_reducible first | exact HK.out | apply KeepBut.set_ | apply keep_drewN | apply keep_drew | apply keep_alloc | refine keep_far ?_ GW243.out _) | exact HK.out)) (KeepBut.of_grown hg g) (Kd.S_base2 HO_3.out)); have n4_ := Aside0.mk (ho); clear HI0 BK243 HB HK HO_3 HO240; have HI0 := n0_; have BK243 := n1_; have HB := n2_; have HK := n3_; have HO252 := n4_; clear n0_ n1_ n2_ n3_ n4_ ho hb hg hat))
    go_roundg k1
    case measure => have := HK1.out; omega
    case rel => exact ⟨(y250), (wrap64 (x4_1 + 1)), (t241), (t242), (by first | rfl | (simp; done) | (simp [*]; done)), H', ⟨by have := HK1.out; omega⟩, ⟨by (with_reducible repeat (first | apply Kd.S_alloc | apply Kd.S_drewN | apply Kd.S_drew)); exact Kd.S_mono HO252.out (fun _ hk => trivial)⟩, ⟨by repeat (first | (with_reducible first | exact HI0.out | apply IsS91.alloc | apply IsS91.drewN | apply IsS91.drew | apply IsS91.set_1 | apply IsS91.set_2 | refine IsS91.far ?_ NB0_243.out _) | exact HI0.out)⟩, ⟨by repeat (first | (with_reducible first | exact HK.out | apply KeepBut.set_ | apply keep_drewN | apply keep_drew | apply keep_alloc | refine keep_far ?_ GW243.out _) | exact HK.out)⟩, ⟨by repeat (first | (with_reducible first | exact HB.out | apply ba_ | apply bd_ | apply be_ | refine bs_ ?_ (IsS91.ge HI0.out) | refine bs_ ?_ GE243.out) | exact HB.out)⟩⟩
   rw [if_pos c7] at H
   have c7b0 : (t231 == 6) = true := beq_iff_eq.mpr c7
   have c7b1 : (t231 != 6) = false := bne_eq_false_iff_eq.mpr c7
   clear c7
   replace H := Option.bind_eq_some_iff.mp H
   obtain ⟨⟨t244, t245, t246⟩, A80, H⟩ := H
   replace H : (if x3_1.length < 1759218604441 then (spec_l16Queue.l0 k1 (x3_1 ++ [(⟨t231, t232, 16, t234, t235, t244, t237, t238⟩ : S60)]) (wrap64 (x4_1 + 1)) s0_0 t245 t246) else (none)) = some (r1, r2, r3) := H
   have A8 := Aside0.mk A80
   clear A80
   by_cases c9 : x3_1.length < 1759218604441
   rotate_left
   ·rw [if_neg c9] at H
    exact absurd H (by simp)
   rw [if_pos c9] at H
   have LMc9 := Aside0.mk c9
   clear c9
   obtain ⟨y247, hy247⟩ : ∃ y_ : List (S60), y_ = (x3_1 ++ [(⟨t231, t232, 16, t234, t235, t244, t237, t238⟩ : S60)]) := ⟨_, rfl⟩
   replace H : (spec_l16Queue.l0 k1 y247 (wrap64 (x4_1 + 1)) s0_0 t245 t246) = some (r1, r2, r3) := by first | (rw [hy247]; with_reducible exact H) | (have H2_ := (Option.bind_some _ _).symm.trans H; rw [hy247]; with_reducible exact H2_) | (have H2_ := (Option.bind_some _ _).symm.trans H; with_reducible exact H2_) | with_reducible exact H | (rw [hy247]; exact H) | exact H
   have Ny247 := Aside0.mk hy247
   clear hy247
   have H' := Aside0.mk H
   clear H
   go_wp2_with (first | ((with_reducible refine gc_ (f := 76) rfl ?_); refine goesL_ (some 9) rfl rfl Try.func76 (by kernel_rfl) rfl #[.pointer (some ⟨g, 0, none⟩), .int .i64 7] rfl (by (try simp only [List.map_toArray, List.map_cons, List.map_nil]); first | done | rfl) ?_; (with_reducible refine (spec_l01Below.calls g s0_0 x1001_1 x1002_1 7 t228 t229 t230 w0 _ ?side1 ?side2 A4.out).mono ?_); (case side1 => repeat (first | (with_reducible first | exact HI0.out | apply IsS91.alloc | apply IsS91.drewN | apply IsS91.drew | apply IsS91.set_1 | apply IsS91.set_2) | exact HI0.out)); (case side2 => repeat (first | (with_reducible first | exact HB.out | apply ba_ | apply bd_ | apply be_ | refine bs_ ?_ (IsS91.ge HI0.out)) | exact HB.out)); rintro e w10 ⟨rfl, hi, hb, hk⟩; refine ⟨_, rfl, ?_⟩; have n0_ := Aside0.mk (Kd.S_mono (Kd.S_keep (IsS91.apartS (show IsS91 w0 _ g s0_0 x1001_1 x1002_1 from by repeat (first | (with_reducible first | exact HI0.out | apply IsS91.alloc | apply IsS91.drewN | apply IsS91.drew | apply IsS91.set_1 | apply IsS91.set_2) | exact HI0.out)) (by (with_reducible repeat (first | apply Kd.S_alloc | apply Kd.S_drewN | apply Kd.S_drew)); exact HO_3.out) (by decide)) hk (fun _ h => h.2)) (fun _ h => h.1)); have n1_ := Aside0.mk (KeepBut.trans (by repeat (first | (with_reducible first | exact HK.out | apply KeepBut.set_ | apply keep_drewN | apply keep_drew | apply keep_alloc) | exact HK.out)) hk (.inl rfl)); have n2_ := Aside0.mk (hb); have n3_ := Aside0.mk (hi); clear HO_3 HK HB HI0; have HO_3 := n0_; have HK := n1_; have HB := n2_; have HI0 := n3_; clear n0_ n1_ n2_ n3_; (try clear hb); (try clear hb2); (try clear hk); (try clear hi)) | ((with_reducible refine gc_ (f := 77) rfl ?_); refine goesL_ (some 14) rfl rfl Try.func77 (by kernel_rfl) rfl #[.pointer (some ⟨g, 0, none⟩)] rfl (by (try simp only [List.map_toArray, List.map_cons, List.map_nil]); first | done | rfl) ?_; (with_reducible refine (spec_l04Packet.calls k1 g s0_0 t229 t230 t231 t232 t233 t234 t235 t236 t237 t238 t241 t242 w0 _ ?side1 ?side2 A6.out).mono ?_); (case side1 => repeat (first | (with_reducible first | exact HI0.out | apply IsS91.alloc | apply IsS91.drewN | apply IsS91.drew | apply IsS91.set_1 | apply IsS91.set_2) | exact HI0.out)); (case side2 => repeat (first | (with_reducible first | exact HB.out | apply ba_ | apply bd_ | apply be_ | refine bs_ ?_ (IsS91.ge HI0.out)) | exact HB.out)); rintro e w11 ⟨v239, rfl, ho0, hi, hb, hk⟩; refine ⟨_, rfl, ?_⟩; have n0_ := Aside0.mk (Kd.S_mono (Kd.S_told (Kd.S_oldK (IsS91.apartS (show IsS91 w0 _ g s0_0 t229 t230 from by repeat (first | (with_reducible first | exact HI0.out | apply IsS91.alloc | apply IsS91.drewN | apply IsS91.drew | apply IsS91.set_1 | apply IsS91.set_2) | exact HI0.out)) (by (with_reducible repeat (first | apply Kd.S_alloc | apply Kd.S_drewN | apply Kd.S_drew)); exact HO_3.out) (by decide)) hk) (Kd.R_base ho0)) (fun _ h_ => h_.1)); have n1_ := Aside0.mk (Kd.R_lower ho0 (keep_size (w := w) (g := g) (row := none) (by repeat (first | (with_reducible first | exact HK.out | apply KeepBut.set_ | apply keep_drewN | apply keep_drew | apply keep_alloc) | exact HK.out)))); have n2_ := Aside0.mk (KeepBut.trans (by repeat (first | (with_reducible first | exact HK.out | apply KeepBut.set_ | apply keep_drewN | apply keep_drew | apply keep_alloc) | exact HK.out)) hk (.inl rfl)); have n3_ := Aside0.mk (hb); have n4_ := Aside0.mk (hi); clear HO_3 HK HB HI0; have HO_3 := n0_; have HO240 := n1_; have HK := n2_; have HB := n3_; have HI0 := n4_; clear n0_ n1_ n2_ n3_ n4_; (try clear hb); (try clear hb2); (try clear hk); (try clear hi); (try clear ho0)) | ((with_reducible refine gd_ (N := 5) rfl ?_); refine bx_ ?hg (N := 5) ?hd (cs := #[.int .i64 0, .int .i64 0, .int .i64 0, .int .i64 0, .int .i64 0, .int .i64 0, .int .i64 0, .slice none 0 0]) (t := 60) ?hr ?_; (case hd => rfl); (case hg => rfl); (case hr => first | (go_simp; done) | (go_simp; rfl)); intro gb243 hg w12 hbox hb; have n0_ := Aside0.mk (Kd.S_below (Kd.S_elderB (by (with_reducible repeat (first | apply Kd.S_alloc | apply Kd.S_drewN | apply Kd.S_drew)); exact HO_3.out) gb243 (Nat.le_of_eq hg.symm)) hb); have n1_ := Aside0.mk (Kd.R_below (rY HO240.out) hb); have n2_ := Aside0.mk (IsS91.below (by repeat (first | (with_reducible first | exact HI0.out | apply IsS91.alloc | apply IsS91.drewN | apply IsS91.drew | apply IsS91.set_1 | apply IsS91.set_2) | exact HI0.out)) hb); have n3_ := Aside0.mk (KeepBut.trans (by repeat (first | (with_reducible first | exact HK.out | apply KeepBut.set_ | apply keep_drewN | apply keep_drew | apply keep_alloc) | exact HK.out)) (KeepBut.of_below hb g none) (.inl rfl)); have n4_ := Aside0.mk (bt_ (by repeat (first | (with_reducible first | exact HB.out | apply ba_ | apply bd_ | apply be_ | refine bs_ ?_ (IsS91.ge HI0.out)) | exact HB.out)) hb); have n5_ := Aside0.mk (hbox); have n6_ := Aside0.mk ((by rw [hg]; exact (keep_size (w := w) (g := g) (row := none) (by repeat (first | (with_reducible first | exact HK.out | apply KeepBut.set_ | apply keep_drewN | apply keep_drew | apply keep_alloc) | exact HK.out))) : w.heap.size ≤ gb243)); have n7_ := Aside0.mk ((Nat.le_trans HW0.out (by rw [hg]; exact (keep_size (w := w) (g := g) (row := none) (by repeat (first | (with_reducible first | exact HK.out | apply KeepBut.set_ | apply keep_drewN | apply keep_drew | apply keep_alloc) | exact HK.out))) : w.heap.size ≤ gb243) : w0.heap.size ≤ gb243)); have n8_ := Aside0.mk ((by rw [hg]; exact Nat.ne_of_lt (IsS91.lt (show IsS91 w0 _ g s0_0 t241 t242 from by repeat (first | (with_reducible first | exact HI0.out | apply IsS91.alloc | apply IsS91.drewN | apply IsS91.drew | apply IsS91.set_1 | apply IsS91.set_2) | exact HI0.out))) : g ≠ gb243)); have n9_ := Aside0.mk ((by rw [hg]; exact Nat.ne_of_gt (IsS91.lt (show IsS91 w0 _ g s0_0 t241 t242 from by repeat (first | (with_reducible first | exact HI0.out | apply IsS91.alloc | apply IsS91.drewN | apply IsS91.drew | apply IsS91.set_1 | apply IsS91.set_2) | exact HI0.out))) : gb243 ≠ g)); clear HO_3 HO240 HI0 HK HB; have HO_3 := n0_; have HO240 := n1_; have HI0 := n2_; have HK := n3_; have HB := n4_; have BK243 := n5_; have GW243 := n6_; have GE243 := n7_; have NB0_243 := n8_; have NB243_0 := n9_; clear n0_ n1_ n2_ n3_ n4_ n5_ n6_ n7_ n8_ n9_ hb hbox hg; have hnb13 := NB243_0.out; have hnc13 := NB0_243.out; have hcz14_0 : w12.cell? ⟨gb243, 0, none⟩ = some (.int .i64 0) := (bc_ BK243.out 0).trans rfl; have hcz14_1 : w12.cell? ⟨gb243, 1, none⟩ = some (.int .i64 0) := (bc_ BK243.out 1).trans rfl; have hcz14_2 : w12.cell? ⟨gb243, 2, none⟩ = some (.int .i64 0) := (bc_ BK243.out 2).trans rfl; have hcz14_3 : w12.cell? ⟨gb243, 3, none⟩ = some (.int .i64 0) := (bc_ BK243.out 3).trans rfl; have hcz14_4 : w12.cell? ⟨gb243, 4, none⟩ = some (.int .i64 0) := (bc_ BK243.out 4).trans rfl; have hcz14_5 : w12.cell? ⟨gb243, 5, none⟩ = some (.int .i64 0) := (bc_ BK243.out 5).trans rfl; have hcz14_6 : w12.cell? ⟨gb243, 6, none⟩ = some (.int .i64 0) := (bc_ BK243.out 6).trans rfl; have hcz14_7 : w12.cell? ⟨gb243, 7, none⟩ = some (.slice none 0 0) := (bc_ BK243.out 7).trans rfl; have hfz14_0 := bf_ BK243.out 0; have hfz14_1 := bf_ BK243.out 1; have hfz14_2 := bf_ BK243.out 2; have hfz14_3 := bf_ BK243.out 3; have hfz14_4 := bf_ BK243.out 4; have hfz14_5 := bf_ BK243.out 5; have hfz14_6 := bf_ BK243.out 6; have hfz14_7 := bf_ BK243.out 7; obtain ⟨Ao15, co15, eo15⟩ := Kd.R_slice HO240.out; subst eo15) | ((with_reducible refine gc_ (f := 76) rfl ?_); refine goesL_ (some 20) rfl rfl Try.func76 (by kernel_rfl) rfl #[.pointer (some ⟨g, 0, none⟩), .int .i64 2] rfl (by (try simp only [List.map_toArray, List.map_cons, List.map_nil]); first | done | rfl) ?_; (with_reducible refine (spec_l01Below.calls g s0_0 t241 t242 2 t244 t245 t246 w0 _ ?side1 ?side2 A8.out).mono ?_); (case side1 => repeat (first | (with_reducible first | exact HI0.out | apply IsS91.alloc | apply IsS91.drewN | apply IsS91.drew | apply IsS91.set_1 | apply IsS91.set_2 | refine IsS91.far ?_ NB0_243.out _) | exact HI0.out)); (case side2 => repeat (first | (with_reducible first | exact HB.out | apply ba_ | apply bd_ | apply be_ | refine bs_ ?_ (IsS91.ge HI0.out) | refine bs_ ?_ GE243.out) | exact HB.out)); rintro e w16 ⟨rfl, hi, hb, hk⟩; refine ⟨_, rfl, ?_⟩; have n0_ := Aside0.mk (Kd.S_mono (Kd.S_keep (IsS91.apartS (show IsS91 w0 _ g s0_0 t241 t242 from by repeat (first | (with_reducible first | exact HI0.out | apply IsS91.alloc | apply IsS91.drewN | apply IsS91.drew | apply IsS91.set_1 | apply IsS91.set_2 | refine IsS91.far ?_ NB0_243.out _) | exact HI0.out)) (by (with_reducible repeat (first | apply Kd.S_alloc | apply Kd.S_drewN | apply Kd.S_drew)); exact (Kd.S_mono (Kd.S_far (p := ⟨gb243, 2, none⟩) (Kd.S_far (p := ⟨gb243, 7, none⟩) (Kd.S_far (p := ⟨gb243, 6, none⟩) (Kd.S_far (p := ⟨gb243, 5, none⟩) (Kd.S_far (p := ⟨gb243, 4, none⟩) (Kd.S_far (p := ⟨gb243, 3, none⟩) (Kd.S_far (p := ⟨gb243, 2, none⟩) (Kd.S_far (p := ⟨gb243, 1, none⟩) (Kd.S_far (p := ⟨gb243, 0, none⟩) (Kd.S_mono HO_3.out (fun k_ hk => (⟨hk, hk.2⟩ : _ ∧ k_ ≠ gb243))) (fun _ hk => hk.2) (.int .i64 t231)) (fun _ hk => hk.2) (.int .i64 t232)) (fun _ hk => hk.2) (.int .i64 t233)) (fun _ hk => hk.2) (.int .i64 t234)) (fun _ hk => hk.2) (.int .i64 t235)) (fun _ hk => hk.2) (.int .i64 t236)) (fun _ hk => hk.2) (.int .i64 t237)) (fun _ hk => hk.2) (.slice Ao15 t238.length co15)) (fun _ hk => hk.2) (.int .i64 16)) (fun _ h_ => h_.1))) (by decide)) hk (fun _ h => h.2)) (fun _ h => h.1)); have n1_ := Aside0.mk (Kd.R_mono (Kd.R_keep (IsS91.apart (show IsS91 w0 _ g s0_0 t241 t242 from by repeat (first | (with_reducible first | exact HI0.out | apply IsS91.alloc | apply IsS91.drewN | apply IsS91.drew | apply IsS91.set_1 | apply IsS91.set_2 | refine IsS91.far ?_ NB0_243.out _) | exact HI0.out)) (by (repeat apply rX); exact (Kd.R_mono (Kd.R_far (p := ⟨gb243, 2, none⟩) (Kd.R_far (p := ⟨gb243, 7, none⟩) (Kd.R_far (p := ⟨gb243, 6, none⟩) (Kd.R_far (p := ⟨gb243, 5, none⟩) (Kd.R_far (p := ⟨gb243, 4, none⟩) (Kd.R_far (p := ⟨gb243, 3, none⟩) (Kd.R_far (p := ⟨gb243, 2, none⟩) (Kd.R_far (p := ⟨gb243, 1, none⟩) (Kd.R_far (p := ⟨gb243, 0, none⟩) (Kd.R_types HO240.out BK243.out (by decide)) (fun _ hk => hk.2) (.int .i64 t231)) (fun _ hk => hk.2) (.int .i64 t232)) (fun _ hk => hk.2) (.int .i64 t233)) (fun _ hk => hk.2) (.int .i64 t234)) (fun _ hk => hk.2) (.int .i64 t235)) (fun _ hk => hk.2) (.int .i64 t236)) (fun _ hk => hk.2) (.int .i64 t237)) (fun _ hk => hk.2) (.slice Ao15 t238.length co15)) (fun _ hk => hk.2) (.int .i64 16)) (fun _ h_ => h_.1))) (by decide)) hk (fun _ h => h.2)) (fun _ h => h.1)); have n2_ := Aside0.mk (KeepBut.blk hk (g' := gb243) (o := .cells #[.int .i64 t231, .int .i64 t232, .int .i64 16, .int .i64 t234, .int .i64 t235, .int .i64 t236, .int .i64 t237, .slice Ao15 t238.length co15] 60 (0, 0)) (by (repeat apply bX); refine bp_ (cs := #[.int .i64 t231, .int .i64 t232, .int .i64 t233, .int .i64 t234, .int .i64 t235, .int .i64 t236, .int .i64 t237, .slice Ao15 t238.length co15]) ?_ 2 _ rfl; (repeat apply bX); refine bp_ (cs := #[.int .i64 t231, .int .i64 t232, .int .i64 t233, .int .i64 t234, .int .i64 t235, .int .i64 t236, .int .i64 t237, .slice none 0 0]) ?_ 7 _ rfl; (repeat apply bX); refine bp_ (cs := #[.int .i64 t231, .int .i64 t232, .int .i64 t233, .int .i64 t234, .int .i64 t235, .int .i64 t236, .int .i64 0, .slice none 0 0]) ?_ 6 _ rfl; (repeat apply bX); refine bp_ (cs := #[.int .i64 t231, .int .i64 t232, .int .i64 t233, .int .i64 t234, .int .i64 t235, .int .i64 0, .int .i64 0, .slice none 0 0]) ?_ 5 _ rfl; (repeat apply bX); refine bp_ (cs := #[.int .i64 t231, .int .i64 t232, .int .i64 t233, .int .i64 t234, .int .i64 0, .int .i64 0, .int .i64 0, .slice none 0 0]) ?_ 4 _ rfl; (repeat apply bX); refine bp_ (cs := #[.int .i64 t231, .int .i64 t232, .int .i64 t233, .int .i64 0, .int .i64 0, .int .i64 0, .int .i64 0, .slice none 0 0]) ?_ 3 _ rfl; (repeat apply bX); refine bp_ (cs := #[.int .i64 t231, .int .i64 t232, .int .i64 0, .int .i64 0, .int .i64 0, .int .i64 0, .int .i64 0, .slice none 0 0]) ?_ 2 _ rfl; (repeat apply bX); refine bp_ (cs := #[.int .i64 t231, .int .i64 0, .int .i64 0, .int .i64 0, .int .i64 0, .int .i64 0, .int .i64 0, .slice none 0 0]) ?_ 1 _ rfl; (repeat apply bX); refine bp_ (cs := #[.int .i64 0, .int .i64 0, .int .i64 0, .int .i64 0, .int .i64 0, .int .i64 0, .int .i64 0, .slice none 0 0]) ?_ 0 _ rfl; (repeat apply bX); exact BK243.out) NB243_0.out (by simp)); have n3_ := Aside0.mk (KeepBut.trans (by repeat (first | (with_reducible first | exact HK.out | apply KeepBut.set_ | apply keep_drewN | apply keep_drew | apply keep_alloc | refine keep_far ?_ GW243.out _) | exact HK.out)) hk (.inl rfl)); have n4_ := Aside0.mk (hb); have n5_ := Aside0.mk (hi); clear HO_3 HO240 BK243 HK HB HI0; have HO_3 := n0_; have HO240 := n1_; have BK243 := n2_; have HK := n3_; have HB := n4_; have HI0 := n5_; clear n0_ n1_ n2_ n3_ n4_ n5_; (try clear hb); (try clear hb2); (try clear hk); (try clear hi); have hcz17_0 : w16.cell? ⟨gb243, 0, none⟩ = some (.int .i64 t231) := (bc_ BK243.out 0).trans rfl; have hcz17_1 : w16.cell? ⟨gb243, 1, none⟩ = some (.int .i64 t232) := (bc_ BK243.out 1).trans rfl; have hcz17_2 : w16.cell? ⟨gb243, 2, none⟩ = some (.int .i64 16) := (bc_ BK243.out 2).trans rfl; have hcz17_3 : w16.cell? ⟨gb243, 3, none⟩ = some (.int .i64 t234) := (bc_ BK243.out 3).trans rfl; have hcz17_4 : w16.cell? ⟨gb243, 4, none⟩ = some (.int .i64 t235) := (bc_ BK243.out 4).trans rfl; have hcz17_5 : w16.cell? ⟨gb243, 5, none⟩ = some (.int .i64 t236) := (bc_ BK243.out 5).trans rfl; have hcz17_6 : w16.cell? ⟨gb243, 6, none⟩ = some (.int .i64 t237) := (bc_ BK243.out 6).trans rfl; have hcz17_7 : w16.cell? ⟨gb243, 7, none⟩ = some (.slice Ao15 t238.length co15) := (bc_ BK243.out 7).trans rfl; have hfz17_0 := bf_ BK243.out 0; have hfz17_1 := bf_ BK243.out 1; have hfz17_2 := bf_ BK243.out 2; have hfz17_3 := bf_ BK243.out 3; have hfz17_4 := bf_ BK243.out 4; have hfz17_5 := bf_ BK243.out 5; have hfz17_6 := bf_ BK243.out 6; have hfz17_7 := bf_ BK243.out 7) | ((with_reducible refine gs_ (t := 3) (p := 21) rfl ?_); refine se_ (t := 3) (p := 21) (v := ?vo_w18) (w1 := (w16.setCell ⟨gb243, 5, none⟩ (.int .i64 t244))) ?hg ?ho ?hn ?hr ?_; (case ho => rfl); (case hg => rfl); (case hn => rfl); (case hr => first | (go_simp; done) | (go_simp; rfl)); intro w18 hw; have n0_ : Aside0 (Kd.S k60 60 w18 w.heap.size (fun k_ => some k_ ≠ (.slice Ao15 t238.length co15 : Value).ownBlock ∧ k_ ≠ gb243) u3 x3_1) := ⟨(by rw [hw]; exact (by (with_reducible repeat (first | apply Kd.S_alloc | apply Kd.S_drewN | apply Kd.S_drew)); exact Kd.S_mono (Kd.S_far (p := ⟨gb243, 5, none⟩) (Kd.S_mono HO_3.out (fun k_ hk => (⟨hk, hk.2⟩ : _ ∧ k_ ≠ gb243))) (fun _ hk => hk.2) (.int .i64 t244)) (fun _ hk => ⟨hk.1.1.2, hk.1.2⟩)))⟩; have n1_ : Aside0 (Kd.R (Kd.int .i64) 3 w18 w.heap.size (fun _ => True) (.slice Ao15 t238.length co15) t238) := ⟨(by rw [hw]; exact (by (repeat apply rX); exact Kd.R_mono (Kd.R_far (p := ⟨gb243, 5, none⟩) (Kd.R_types HO240.out BK243.out (by decide)) (fun _ hk => hk.2) (.int .i64 t244)) (fun _ hk => trivial)))⟩; have n2_ : Aside0 (w18.heap[gb243]? = some (.cells #[.int .i64 t231, .int .i64 t232, .int .i64 16, .int .i64 t234, .int .i64 t235, .int .i64 t244, .int .i64 t237, .slice Ao15 t238.length co15] 60 (0, 0))) := ⟨(by rw [hw]; exact (by (repeat apply bX); refine bp_ (cs := #[.int .i64 t231, .int .i64 t232, .int .i64 16, .int .i64 t234, .int .i64 t235, .int .i64 t236, .int .i64 t237, .slice Ao15 t238.length co15]) ?_ 5 _ rfl; (repeat apply bX); exact BK243.out))⟩; have n3_ : Aside0 (IsS91 w0 w18 g s0_0 t245 t246) := ⟨(by rw [hw]; exact (by repeat (first | (with_reducible first | exact HI0.out | apply IsS91.alloc | apply IsS91.drewN | apply IsS91.drew | apply IsS91.set_1 | apply IsS91.set_2 | refine IsS91.far ?_ NB0_243.out _) | exact HI0.out)))⟩; have n4_ : Aside0 (KeepBut w w18 g none) := ⟨(by rw [hw]; exact (by repeat (first | (with_reducible first | exact HK.out | apply KeepBut.set_ | apply keep_drewN | apply keep_drew | apply keep_alloc | refine keep_far ?_ GW243.out _) | exact HK.out)))⟩; have n5_ : Aside0 (Below w0.heap.size w0 w18) := ⟨(by rw [hw]; exact (by repeat (first | (with_reducible first | exact HB.out | apply ba_ | apply bd_ | apply be_ | refine bs_ ?_ (IsS91.ge HI0.out) | refine bs_ ?_ GE243.out) | exact HB.out)))⟩; clear hw HO_3 HO240 BK243 HI0 HK HB; have HO_3 := n0_; have HO240 := n1_; have BK243 := n2_; have HI0 := n3_; have HK := n4_; have HB := n5_; clear n0_ n1_ n2_ n3_ n4_ n5_; have hcz19_0 : w18.cell? ⟨gb243, 0, none⟩ = some (.int .i64 t231) := (bc_ BK243.out 0).trans rfl; have hcz19_1 : w18.cell? ⟨gb243, 1, none⟩ = some (.int .i64 t232) := (bc_ BK243.out 1).trans rfl; have hcz19_2 : w18.cell? ⟨gb243, 2, none⟩ = some (.int .i64 16) := (bc_ BK243.out 2).trans rfl; have hcz19_3 : w18.cell? ⟨gb243, 3, none⟩ = some (.int .i64 t234) := (bc_ BK243.out 3).trans rfl; have hcz19_4 : w18.cell? ⟨gb243, 4, none⟩ = some (.int .i64 t235) := (bc_ BK243.out 4).trans rfl; have hcz19_5 : w18.cell? ⟨gb243, 5, none⟩ = some (.int .i64 t244) := (bc_ BK243.out 5).trans rfl; have hcz19_6 : w18.cell? ⟨gb243, 6, none⟩ = some (.int .i64 t237) := (bc_ BK243.out 6).trans rfl; have hcz19_7 : w18.cell? ⟨gb243, 7, none⟩ = some (.slice Ao15 t238.length co15) := (bc_ BK243.out 7).trans rfl; have hfz19_0 := bf_ BK243.out 0; have hfz19_1 := bf_ BK243.out 1; have hfz19_2 := bf_ BK243.out 2; have hfz19_3 := bf_ BK243.out 3; have hfz19_4 := bf_ BK243.out 4; have hfz19_5 := bf_ BK243.out 5; have hfz19_6 := bf_ BK243.out 6; have hfz19_7 := bf_ BK243.out 7) | ((with_reducible refine gate_builtin (b := .append) (xs := #[.tmp 22, .tmp 24]) rfl ?_); at_builtin; refine Kd.S_append k60 w.heap.size rfl (.tmp 22) (.tmp 24) 27 60 (.agg #[(.int .i64 0), (.int .i64 0), (.int .i64 0), (.int .i64 0), (.int .i64 0), (.int .i64 0), (.int .i64 0), (.slice none 0 0)]) 80 rfl Try.underlying27 info60 rfl (by decide) (by omega) u3 x3_1 (⟨t231, t232, 16, t234, t235, t244, t237, t238⟩ : S60) [.int .i64 t231, .int .i64 t232, .int .i64 16, .int .i64 t234, .int .i64 t235, .int .i64 t244, .int .i64 t237, .slice Ao15 t238.length co15] (fun k_ => k_ ≠ gb243) (fun k_ => some k_ = (.slice Ao15 t238.length co15 : Value).ownBlock) rfl rfl ?aP (fun k_ hk_ => ((Kd.R_mono (ok' := fun k_ => ((fun k_ => k_ ≠ gb243)) k_ ∧ some k_ ≠ (u3 : Value).ownBlock) (Kd.R_types (Kd.R_apart' (HO240.out) (Kd.S_typed HO_3.out) (by decide)) BK243.out (by decide)) (fun k_ hk => ⟨hk.2, hk.1.2⟩))).1 k_ hk_.symm) ?aF ?aO (Below.refl _ _) ?aS ?aL ?_; (case aP => exact k60_mkM _ _ _ (⟨t231, t232, 16, t234, t235, t244, t237, t238⟩ : S60) (Kd.R_mono (Kd.R_tight rfl (Kd.R_mono (ok' := fun k_ => ((fun k_ => k_ ≠ gb243)) k_ ∧ some k_ ≠ (u3 : Value).ownBlock) (Kd.R_types (Kd.R_apart' (HO240.out) (Kd.S_typed HO_3.out) (by decide)) BK243.out (by decide)) (fun k_ hk => ⟨hk.2, hk.1.2⟩))) (fun _ h_ => h_))); (case aF => exact (fun k_ hk => Kd.freshB (g := gb243) (o := .cells #[.int .i64 t231, .int .i64 t232, .int .i64 16, .int .i64 t234, .int .i64 t235, .int .i64 t244, .int .i64 t237, .slice Ao15 t238.length co15] 60 (0, 0)) (bY BK243.out) k_ hk)); (case aO => exact (by (with_reducible repeat (first | apply Kd.S_alloc | apply Kd.S_drewN | apply Kd.S_drew)); exact Kd.S_mono HO_3.out (fun k_ hk => ⟨hk.2, fun e_ => hk.1 e_⟩))); (case aS => exact (keep_size (w := w) (g := g) (row := none) (by repeat (first | (with_reducible first | exact HK.out | apply KeepBut.set_ | apply keep_drewN | apply keep_drew | apply keep_alloc | refine keep_far ?_ GW243.out _) | exact HK.out)))); (case aL => have := LMc9.out; omega); intro v248 w20 ho hb hg hat; rw [← Ny247.out] at ho; have n0_ := Aside0.mk (IsS91.grown (by repeat (first | (with_reducible first | exact HI0.out | apply IsS91.alloc | apply IsS91.drewN | apply IsS91.drew | apply IsS91.set_1 | apply IsS91.set_2 | refine IsS91.far ?_ NB0_243.out _) | exact HI0.out)) hg (IsS91.own_neS HI0.out HO_3.out (by decide))); have n1_ := Aside0.mk (blk_grown (g := gb243) (o := .cells #[.int .i64 t231, .int .i64 t232, .int .i64 16, .int .i64 t234, .int .i64 t235, .int .i64 t244, .int .i64 t237, .slice Ao15 t238.length co15] 60 (0, 0)) (bY BK243.out) hg (Kd.S_away HO_3.out (fun _ hk => hk.2))); have n2_ := Aside0.mk (below_weaken (by repeat (first | (with_reducible first | exact HB.out | apply ba_ | apply bd_ | apply be_ | refine bs_ ?_ (IsS91.ge HI0.out) | refine bs_ ?_ GE243.out) | exact HB.out)) HL.out hb); have n3_ := Aside0.mk (KeepBut.trans (by repeat (first | (with_reducible first | exact HK.out | apply KeepBut.set_ | apply keep_drewN | apply keep_drew | apply keep_alloc | refine keep_far ?_ GW243.out _) | exact HK.out)) (KeepBut.of_grown hg g) (Kd.S_base2 HO_3.out)); have n4_ := Aside0.mk (ho); clear HI0 BK243 HB HK HO_3 HO240; have HI0 := n0_; have BK243 := n1_; have HB := n2_; have HK := n3_; have HO249 := n4_; clear n0_ n1_ n2_ n3_ n4_ ho hb hg hat))
   go_roundg k1
   case measure => have := HK1.out; omega
   case rel => exact ⟨(y247), (wrap64 (x4_1 + 1)), (t245), (t246), (by first | rfl | (simp; done) | (simp [*]; done)), H', ⟨by have := HK1.out; omega⟩, ⟨by (with_reducible repeat (first | apply Kd.S_alloc | apply Kd.S_drewN | apply Kd.S_drew)); exact Kd.S_mono HO249.out (fun _ hk => trivial)⟩, ⟨by repeat (first | (with_reducible first | exact HI0.out | apply IsS91.alloc | apply IsS91.drewN | apply IsS91.drew | apply IsS91.set_1 | apply IsS91.set_2 | refine IsS91.far ?_ NB0_243.out _) | exact HI0.out)⟩, ⟨by repeat (first | (with_reducible first | exact HK.out | apply KeepBut.set_ | apply keep_drewN | apply keep_drew | apply keep_alloc | refine keep_far ?_ GW243.out _) | exact HK.out)⟩, ⟨by repeat (first | (with_reducible first | exact HB.out | apply ba_ | apply bd_ | apply be_ | refine bs_ ?_ (IsS91.ge HI0.out) | refine bs_ ?_ GE243.out) | exact HB.out)⟩⟩
/-! ### spec_l14Credits: function 80 -/
def spec_l14Credits.l0 : Nat → Int → List Int → Int → Int → List Int → List Int → Option (List Int × List Int × Int × Int)
 | 0, _, _, _, _, _, _ => none
 | k + 1, x4, x1000, x1001, x1002, x255000, x255001 => if x4 < 3 then ((spec_l01PickInt.f x1000 x1001 x1002 (([1, 2, 4, 0, 30] : List Int))).bind fun bt258 => (if x255000.length < 17592186044416 then ((spec_l01PickInt.f x1000 bt258.2.1 bt258.2.2 (([2, 4, 0, 1, 30] : List Int))).bind fun bt267 => (if x255001.length < 17592186044416 then (spec_l14Credits.l0 k (wrap64 (x4 + 1)) x1000 bt267.2.1 bt267.2.2 (x255000 ++ [bt258.1]) (x255001 ++ [bt267.1])) else (none))) else (none))) else (some (x255000, x255001, x1001, x1002))
def spec_l14Credits.f (k : Nat) (s0_0 : List Int) (s0_1 : Int) (s0_2 : Int) : Option (List Int × List Int × Int × Int) := spec_l14Credits.l0 k 0 s0_0 s0_1 s0_2 ([] : List Int) ([] : List Int)
def spec_l14Credits.T5 : Bool × List (List Nat × List Nat) := (true, [([], []), ([0], [0]), ([], []), ([], []), ([2, 3], [2, 3]), ([4], [4]), ([1, 5, 4], [1, 5]), ([0, 1, 2, 3, 4, 5, 6], []), ([7, 6, 6, 0, 1, 2, 3, 4, 5, 6], [6, 7])])
def spec_l14Credits.B5 : List Nat := [0, 1, 0, 0, 12, 28, 63, 127, 255]
theorem spec_l14Credits.tab5 : rtab .any (opsOf Try.f80 5) = spec_l14Credits.T5 := by kernel_rfl
theorem spec_l14Credits.bits5 : waitsOk spec_l14Credits.T5.2 spec_l14Credits.B5 = true := by kernel_rfl
def spec_l14Credits.T6 : Bool × List (List Nat × List Nat) := (true, [([], []), ([0], [0]), ([], []), ([], []), ([2, 3], [2, 3]), ([4], [4]), ([1, 5, 4], [1, 5]), ([0, 1, 2, 3, 4, 5, 6], []), ([7, 6, 6, 0, 1, 2, 3, 4, 5, 6], [6, 7])])
def spec_l14Credits.B6 : List Nat := [0, 1, 0, 0, 12, 28, 63, 127, 255]
theorem spec_l14Credits.tab6 : rtab .any (opsOf Try.f80 6) = spec_l14Credits.T6 := by kernel_rfl
theorem spec_l14Credits.bits6 : waitsOk spec_l14Credits.T6.2 spec_l14Credits.B6 = true := by kernel_rfl
set_option maxHeartbeats 8000000 in
set_option maxRecDepth 100000 in
theorem spec_l14Credits.calls (k : Nat) (g : Nat) (s0_0 : List Int) (s0_1 : Int) (s0_2 : Int) (r1 : List Int) (r2 : List Int) (r3 : Int) (r4 : Int) (w0 w : World) (hI : IsS91 w0 w g s0_0 s0_1 s0_2) (hB : Below w0.heap.size w0 w) (h : spec_l14Credits.f k s0_0 s0_1 s0_2 = some (r1, r2, r3, r4)) :
  Calls Try.prog 80 #[.pointer (some ⟨g, 0, none⟩)] w fun e w' => ∃ v0_ v1_ : Value, e = .returned (.agg #[v0_, v1_]) ∧ Kd.R (Kd.int .i64) 3 w' w.heap.size (fun k_ => some k_ ≠ (v1_ : Value).ownBlock) v0_ r1 ∧ Kd.R (Kd.int .i64) 3 w' w.heap.size (fun k_ => some k_ ≠ (v0_ : Value).ownBlock) v1_ r2 ∧ IsS91 w0 w' g s0_0 r3 r4 ∧ Below w0.heap.size w0 w' ∧ KeepBut w w' g none := by
 have hu26 := Try.underlying26
 have HI0 := Aside0.mk hI
 have HK := Aside0.mk (KeepBut.refl w g none)
 have HL := Aside0.mk hB.size
 clear hI
 have HW0 := Aside0.mk hB.size
 have HB := Aside0.mk hB
 clear hB
 have H : (spec_l14Credits.l0 k 0 s0_0 s0_1 s0_2 ([] : List Int) ([] : List Int)) = some (r1, r2, r3, r4) := h
 clear h
 have H' := Aside0.mk H
 clear H
 go_enter Try.func80, Try.ntmps80
 go_wp2_with (first | ((with_reducible refine gd_ (N := 2) rfl ?_); refine bx_ ?hg (N := 2) ?hd (cs := #[.slice none 0 0, .slice none 0 0]) (t := 26) ?hr ?_; (case hd => rfl); (case hg => rfl); (case hr => first | (go_simp; done) | (go_simp; rfl)); intro gb253 hg w2 hbox hb; have n0_ := Aside0.mk (IsS91.below (by repeat (first | (with_reducible first | exact HI0.out | apply IsS91.alloc | apply IsS91.drewN | apply IsS91.drew | apply IsS91.set_1 | apply IsS91.set_2) | exact HI0.out)) hb); have n1_ := Aside0.mk (KeepBut.trans (by repeat (first | (with_reducible first | exact HK.out | apply KeepBut.set_ | apply keep_drewN | apply keep_drew | apply keep_alloc) | exact HK.out)) (KeepBut.of_below hb g none) (.inl rfl)); have n2_ := Aside0.mk (bt_ (by repeat (first | (with_reducible first | exact HB.out | apply ba_ | apply bd_ | apply be_ | refine bs_ ?_ (IsS91.ge HI0.out)) | exact HB.out)) hb); have n3_ := Aside0.mk (hbox); have n4_ := Aside0.mk ((by rw [hg]; exact (keep_size (w := w) (g := g) (row := none) (by repeat (first | (with_reducible first | exact HK.out | apply KeepBut.set_ | apply keep_drewN | apply keep_drew | apply keep_alloc) | exact HK.out))) : w.heap.size ≤ gb253)); have n5_ := Aside0.mk ((Nat.le_trans HW0.out (by rw [hg]; exact (keep_size (w := w) (g := g) (row := none) (by repeat (first | (with_reducible first | exact HK.out | apply KeepBut.set_ | apply keep_drewN | apply keep_drew | apply keep_alloc) | exact HK.out))) : w.heap.size ≤ gb253) : w0.heap.size ≤ gb253)); have n6_ := Aside0.mk ((by rw [hg]; exact Nat.ne_of_lt (IsS91.lt (show IsS91 w0 _ g s0_0 s0_1 s0_2 from by repeat (first | (with_reducible first | exact HI0.out | apply IsS91.alloc | apply IsS91.drewN | apply IsS91.drew | apply IsS91.set_1 | apply IsS91.set_2) | exact HI0.out))) : g ≠ gb253)); have n7_ := Aside0.mk ((by rw [hg]; exact Nat.ne_of_gt (IsS91.lt (show IsS91 w0 _ g s0_0 s0_1 s0_2 from by repeat (first | (with_reducible first | exact HI0.out | apply IsS91.alloc | apply IsS91.drewN | apply IsS91.drew | apply IsS91.set_1 | apply IsS91.set_2) | exact HI0.out))) : gb253 ≠ g)); clear HI0 HK HB; have HI0 := n0_; have HK := n1_; have HB := n2_; have BK253 := n3_; have GW253 := n4_; have GE253 := n5_; have NB0_253 := n6_; have NB253_0 := n7_; clear n0_ n1_ n2_ n3_ n4_ n5_ n6_ n7_ hb hbox hg) | ((with_reducible refine gd_ (N := 3) rfl ?_); refine bx_ ?hg (N := 3) ?hd (cs := #[.slice none 0 0, .slice none 0 0]) (t := 26) ?hr ?_; (case hd => rfl); (case hg => rfl); (case hr => first | (go_simp; done) | (go_simp; rfl)); intro gb254 hg w3 hbox hb; have n0_ := Aside0.mk (IsS91.below (by repeat (first | (with_reducible first | exact HI0.out | apply IsS91.alloc | apply IsS91.drewN | apply IsS91.drew | apply IsS91.set_1 | apply IsS91.set_2 | refine IsS91.far ?_ NB0_253.out _) | exact HI0.out)) hb); have n1_ := Aside0.mk (bb_ (bY BK253.out) hb); have n2_ := Aside0.mk (KeepBut.trans (by repeat (first | (with_reducible first | exact HK.out | apply KeepBut.set_ | apply keep_drewN | apply keep_drew | apply keep_alloc | refine keep_far ?_ GW253.out _) | exact HK.out)) (KeepBut.of_below hb g none) (.inl rfl)); have n3_ := Aside0.mk (bt_ (by repeat (first | (with_reducible first | exact HB.out | apply ba_ | apply bd_ | apply be_ | refine bs_ ?_ (IsS91.ge HI0.out) | refine bs_ ?_ GE253.out) | exact HB.out)) hb); have n4_ := Aside0.mk (hbox); have n5_ := Aside0.mk ((by rw [hg]; exact (keep_size (w := w) (g := g) (row := none) (by repeat (first | (with_reducible first | exact HK.out | apply KeepBut.set_ | apply keep_drewN | apply keep_drew | apply keep_alloc | refine keep_far ?_ GW253.out _) | exact HK.out))) : w.heap.size ≤ gb254)); have n6_ := Aside0.mk ((Nat.le_trans HW0.out (by rw [hg]; exact (keep_size (w := w) (g := g) (row := none) (by repeat (first | (with_reducible first | exact HK.out | apply KeepBut.set_ | apply keep_drewN | apply keep_drew | apply keep_alloc | refine keep_far ?_ GW253.out _) | exact HK.out))) : w.heap.size ≤ gb254) : w0.heap.size ≤ gb254)); have n7_ := Aside0.mk ((by rw [hg]; exact Nat.ne_of_lt (blk_lt (bY BK253.out)) : gb253 ≠ gb254)); have n8_ := Aside0.mk ((by rw [hg]; exact Nat.ne_of_gt (blk_lt (bY BK253.out)) : gb254 ≠ gb253)); have n9_ := Aside0.mk ((by rw [hg]; exact Nat.ne_of_lt (IsS91.lt (show IsS91 w0 _ g s0_0 s0_1 s0_2 from by repeat (first | (with_reducible first | exact HI0.out | apply IsS91.alloc | apply IsS91.drewN | apply IsS91.drew | apply IsS91.set_1 | apply IsS91.set_2 | refine IsS91.far ?_ NB0_253.out _) | exact HI0.out))) : g ≠ gb254)); have n10_ := Aside0.mk ((by rw [hg]; exact Nat.ne_of_gt (IsS91.lt (show IsS91 w0 _ g s0_0 s0_1 s0_2 from by repeat (first | (with_reducible first | exact HI0.out | apply IsS91.alloc | apply IsS91.drewN | apply IsS91.drew | apply IsS91.set_1 | apply IsS91.set_2 | refine IsS91.far ?_ NB0_253.out _) | exact HI0.out))) : gb254 ≠ g)); clear HI0 BK253 HK HB; have HI0 := n0_; have BK253 := n1_; have HK := n2_; have HB := n3_; have BK254 := n4_; have GW254 := n5_; have GE254 := n6_; have NB253_254 := n7_; have NB254_253 := n8_; have NB0_254 := n9_; have NB254_0 := n10_; clear n0_ n1_ n2_ n3_ n4_ n5_ n6_ n7_ n8_ n9_ n10_ hb hbox hg; have hnb4 := NB254_253.out; have hnc4 := NB253_254.out; have hnb5 := NB254_0.out; have hnc5 := NB0_254.out; have hcz6_0 : w3.cell? ⟨gb254, 0, none⟩ = some (.slice none 0 0) := (bc_ BK254.out 0).trans rfl; have hcz6_1 : w3.cell? ⟨gb254, 1, none⟩ = some (.slice none 0 0) := (bc_ BK254.out 1).trans rfl; have hfz6_0 := bf_ BK254.out 0; have hfz6_1 := bf_ BK254.out 1))
 go_loopg [4] k (fun kq v4 w' => ∃ (x4_1 : Int) (x1001_1 : Int) (x1002_1 : Int) (x255000_1 : List Int) (x255001_1 : List Int) (u255000 : Value) (u255001 : Value), v4 = .int .i64 x4_1 ∧ Aside0 (spec_l14Credits.l0 kq x4_1 s0_0 x1001_1 x1002_1 x255000_1 x255001_1 = some (r1, r2, r3, r4)) ∧ Aside0 (kq ≤ k) ∧ Aside0 (Kd.R (Kd.int .i64) 3 w' w.heap.size (fun k_ => some k_ ≠ (u255001 : Value).ownBlock) u255000 x255000_1) ∧ Aside0 (Kd.R (Kd.int .i64) 3 w' w.heap.size (fun k_ => some k_ ≠ (u255000 : Value).ownBlock) u255001 x255001_1) ∧ Aside0 (w'.heap[gb253]? = some (.cells #[(.slice none 0 0), (.slice none 0 0)] 26 (0, 0))) ∧ Aside0 (w'.heap[gb254]? = some (.cells #[u255000, u255001] 26 (0, 0))) ∧ Aside0 (IsS91 w0 w' g s0_0 x1001_1 x1002_1) ∧ Aside0 (KeepBut w w' g none) ∧ Aside0 (Below w0.heap.size w0 w'))
 case atStart => exact ⟨(0), (s0_1), (s0_2), (([] : List Int)), (([] : List Int)), (.slice none 0 0), (.slice none 0 0), (by first | rfl | (simp; done) | (simp [*]; done)), H', ⟨Nat.le_refl _⟩, ⟨by first | exact Kd.R_nil _ _ _ _ _ | exact Kd.N_nil _ _ _ _ _ | exact Kd.V_nil _ _ _ _ _ | exact Kd.Q_nil _ _ _ _ _ | exact Kd.S_nil _ _ _ _ _⟩, ⟨by first | exact Kd.R_nil _ _ _ _ _ | exact Kd.N_nil _ _ _ _ _ | exact Kd.V_nil _ _ _ _ _ | exact Kd.Q_nil _ _ _ _ _ | exact Kd.S_nil _ _ _ _ _⟩, ⟨by (repeat apply bX); refine blk_far ?_ NB253_254.out _; (repeat apply bX); refine blk_far ?_ NB253_254.out _; (repeat apply bX); exact BK253.out⟩, ⟨by (repeat apply bX); refine bp_ (cs := #[.slice none 0 0, .slice none 0 0]) ?_ 1 _ rfl; (repeat apply bX); refine bp_ (cs := #[.slice none 0 0, .slice none 0 0]) ?_ 0 _ rfl; (repeat apply bX); exact BK254.out⟩, ⟨by repeat (first | (with_reducible first | exact HI0.out | apply IsS91.alloc | apply IsS91.drewN | apply IsS91.drew | apply IsS91.set_1 | apply IsS91.set_2 | refine IsS91.far ?_ NB0_253.out _ | refine IsS91.far ?_ NB0_254.out _) | exact HI0.out)⟩, ⟨by repeat (first | (with_reducible first | exact HK.out | apply KeepBut.set_ | apply keep_drewN | apply keep_drew | apply keep_alloc | refine keep_far ?_ GW253.out _ | refine keep_far ?_ GW254.out _) | exact HK.out)⟩, ⟨by repeat (first | (with_reducible first | exact HB.out | apply ba_ | apply bd_ | apply be_ | refine bs_ ?_ (IsS91.ge HI0.out) | refine bs_ ?_ GE253.out | refine bs_ ?_ GE254.out) | exact HB.out)⟩⟩
 case round =>
  clear H'
  obtain ⟨x4_1, x1001_1, x1002_1, x255000_1, x255001_1, u255000, u255001, rfl, HA, HK1, HO_255000, HO_255001, BK253, BK254, HI0, HK, HB⟩ := hrel
  cases gk with
  | zero => exact absurd HA.out (by simp [spec_l14Credits.l0])
  | succ k1 =>
   have H := HA.out
   clear HA
   simp only [spec_l14Credits.l0] at H
   by_cases c7 : x4_1 < 3
   rotate_left
   ·rw [if_neg c7] at H
    have c7b0 : decide (x4_1 < 3) = false := decide_eq_false c7
    clear c7
    simp only [Option.some.injEq, Prod.mk.injEq] at H
    obtain ⟨rfl, rfl, rfl, rfl⟩ := H
    have hnb29 := NB254_253.out
    have hnc29 := NB253_254.out
    have hnb30 := NB254_0.out
    have hnc30 := NB0_254.out
    obtain ⟨hcz31_0, hcz31_1, hfz31_0, hfz31_1⟩ := b2 BK254.out
    obtain ⟨Ao32, co32, eo32⟩ := Kd.R_slice HO_255000.out
    subst eo32
    have hnb33 := NB253_0.out
    have hnc33 := NB0_253.out
    obtain ⟨hcz34_0, hcz34_1, hfz34_0, hfz34_1⟩ := b2 BK253.out
    obtain ⟨Ao35, co35, eo35⟩ := Kd.R_slice HO_255001.out
    subst eo35
    go_wp2
    refine bodyPost_ret (results_cell_row rfl _ _ gb253 26 #[.slice Ao32 x255000_1.length co32, .slice Ao35 x255001_1.length co35] (0, 0) _ rfl (by (repeat apply bX); refine bp_ (cs := #[.slice Ao32 x255000_1.length co32, .slice none 0 0]) ?_ 1 _ rfl; (repeat apply bX); refine bp_ (cs := #[.slice none 0 0, .slice none 0 0]) ?_ 0 _ rfl; (repeat apply bX); exact BK253.out) Try.underlying26 rfl (by kernel_rfl)) rfl ?_
    exact ⟨_, _, by first | rfl | (simp [errW_none, errW_some] <;> rfl) | (simp [*, errW_none, errW_some] <;> rfl), by (repeat apply rX); exact Kd.R_mono (Kd.R_far (p := ⟨gb253, 1, none⟩) (Kd.R_far (p := ⟨gb253, 0, none⟩) (Kd.R_types HO_255000.out BK253.out (by decide)) (fun _ hk => hk.2) (.slice Ao32 x255000_1.length co32)) (fun _ hk => hk.2) (.slice Ao35 x255001_1.length co35)) (fun _ hk => hk.1), by (repeat apply rX); exact Kd.R_mono (Kd.R_far (p := ⟨gb253, 1, none⟩) (Kd.R_far (p := ⟨gb253, 0, none⟩) (Kd.R_types HO_255001.out BK253.out (by decide)) (fun _ hk => hk.2) (.slice Ao32 x255000_1.length co32)) (fun _ hk => hk.2) (.slice Ao35 x255001_1.length co35)) (fun _ hk => hk.1), by repeat (first | (with_reducible first | exact HI0.out | apply IsS91.alloc | apply IsS91.drewN | apply IsS91.drew | apply IsS91.set_1 | apply IsS91.set_2 | refine IsS91.far ?_ NB0_253.out _ | refine IsS91.far ?_ NB0_254.out _) | exact HI0.out), by repeat (first | (with_reducible first | exact HB.out | apply ba_ | apply bd_ | apply be_ | refine bs_ ?_ (IsS91.ge HI0.out) | refine bs_ ?_ GE253.out | refine bs_ ?_ GE254.out) | exact HB.out), by repeat (first | (with_reducible first | exact HK.out | apply KeepBut.set_ | apply keep_drewN | apply keep_drew | apply keep_alloc | refine keep_far ?_ GW253.out _ | refine keep_far ?_ GW254.out _) | exact HK.out)⟩
   rw [if_pos c7] at H
   have c7b0 : decide (x4_1 < 3) = true := decide_eq_true c7
   clear c7
   obtain ⟨y255, hy255⟩ : ∃ y_ : List Int, y_ = (([1, 2, 4, 0, 30] : List Int)) := ⟨_, rfl⟩
   replace H : ((spec_l01PickInt.f s0_0 x1001_1 x1002_1 y255).bind fun bt258 => (if x255000_1.length < 17592186044416 then ((spec_l01PickInt.f s0_0 bt258.2.1 bt258.2.2 (([2, 4, 0, 1, 30] : List Int))).bind fun bt267 => (if x255001_1.length < 17592186044416 then (spec_l14Credits.l0 k1 (wrap64 (x4_1 + 1)) s0_0 bt267.2.1 bt267.2.2 (x255000_1 ++ [bt258.1]) (x255001_1 ++ [bt267.1])) else (none))) else (none))) = some (r1, r2, r3, r4) := by first | (rw [hy255]; with_reducible exact H) | (have H2_ := (Option.bind_some _ _).symm.trans H; rw [hy255]; with_reducible exact H2_) | (have H2_ := (Option.bind_some _ _).symm.trans H; with_reducible exact H2_) | with_reducible exact H | (rw [hy255]; exact H) | exact H
   have Ny255 := Aside0.mk hy255
   clear hy255
   replace H := Option.bind_eq_some_iff.mp H
   obtain ⟨⟨t258, t259, t260⟩, A80, H⟩ := H
   replace H : (if x255000_1.length < 17592186044416 then ((spec_l01PickInt.f s0_0 t259 t260 (([2, 4, 0, 1, 30] : List Int))).bind fun bt267 => (if x255001_1.length < 17592186044416 then (spec_l14Credits.l0 k1 (wrap64 (x4_1 + 1)) s0_0 bt267.2.1 bt267.2.2 (x255000_1 ++ [t258]) (x255001_1 ++ [bt267.1])) else (none))) else (none)) = some (r1, r2, r3, r4) := H
   have A8 := Aside0.mk A80
   clear A80
   by_cases c9 : x255000_1.length < 17592186044416
   rotate_left
   ·rw [if_neg c9] at H
    exact absurd H (by simp)
   rw [if_pos c9] at H
   have LMc9 := Aside0.mk c9
   clear c9
   obtain ⟨y261, hy261⟩ : ∃ y_ : List Int, y_ = (x255000_1 ++ [t258]) := ⟨_, rfl⟩
   replace H : ((spec_l01PickInt.f s0_0 t259 t260 (([2, 4, 0, 1, 30] : List Int))).bind fun bt267 => (if x255001_1.length < 17592186044416 then (spec_l14Credits.l0 k1 (wrap64 (x4_1 + 1)) s0_0 bt267.2.1 bt267.2.2 y261 (x255001_1 ++ [bt267.1])) else (none))) = some (r1, r2, r3, r4) := by first | (rw [hy261]; with_reducible exact H) | (have H2_ := (Option.bind_some _ _).symm.trans H; rw [hy261]; with_reducible exact H2_) | (have H2_ := (Option.bind_some _ _).symm.trans H; with_reducible exact H2_) | with_reducible exact H | (rw [hy261]; exact H) | exact H
   have Ny261 := Aside0.mk hy261
   clear hy261
   obtain ⟨y264, hy264⟩ : ∃ y_ : List Int, y_ = (([2, 4, 0, 1, 30] : List Int)) := ⟨_, rfl⟩
   replace H : ((spec_l01PickInt.f s0_0 t259 t260 y264).bind fun bt267 => (if x255001_1.length < 17592186044416 then (spec_l14Credits.l0 k1 (wrap64 (x4_1 + 1)) s0_0 bt267.2.1 bt267.2.2 y261 (x255001_1 ++ [bt267.1])) else (none))) = some (r1, r2, r3, r4) := by first | (rw [hy264]; with_reducible exact H) | (have H2_ := (Option.bind_some _ _).symm.trans H; rw [hy264]; with_reducible exact H2_) | (have H2_ := (Option.bind_some _ _).symm.trans H; with_reducible exact H2_) | with_reducible exact H | (rw [hy264]; exact H) | exact H
   have Ny264 := Aside0.mk hy264
   clear hy264
   replace H := Option.bind_eq_some_iff.mp H
   obtain ⟨⟨t267, t268, t269⟩, A100, H⟩ := H
   replace H : (if x255001_1.length < 17592186044416 then (spec_l14Credits.l0 k1 (wrap64 (x4_1 + 1)) s0_0 t268 t269 y261 (x255001_1 ++ [t267])) else (none)) = some (r1, r2, r3, r4) := H
   have A10 := Aside0.mk A100
   clear A100
   by_cases c11 : x255001_1.length < 17592186044416
   rotate_left
   ·rw [if_neg c11] at H
    exact absurd H (by simp)
   rw [if_pos c11] at H
   have LMc11 := Aside0.mk c11
   clear c11
   obtain ⟨y270, hy270⟩ : ∃ y_ : List Int, y_ = (x255001_1 ++ [t267]) := ⟨_, rfl⟩
   replace H : (spec_l14Credits.l0 k1 (wrap64 (x4_1 + 1)) s0_0 t268 t269 y261 y270) = some (r1, r2, r3, r4) := by first | (rw [hy270]; with_reducible exact H) | (have H2_ := (Option.bind_some _ _).symm.trans H; rw [hy270]; with_reducible exact H2_) | (have H2_ := (Option.bind_some _ _).symm.trans H; with_reducible exact H2_) | with_reducible exact H | (rw [hy270]; exact H) | exact H
   have Ny270 := Aside0.mk hy270
   clear hy270
   have H' := Aside0.mk H
   clear H
   try go_wp2
   have n0_ := Aside0.mk (Kd.R_drew HO_255000.out)
   have n1_ := Aside0.mk (Kd.R_drew HO_255001.out)
   have n2_ := Aside0.mk (bw_ BK253.out)
   have n3_ := Aside0.mk (bw_ BK254.out)
   have n4_ := Aside0.mk (IsS91.drew HI0.out)
   have n5_ := Aside0.mk (keep_drew HK.out)
   have n6_ := Aside0.mk (be_ HB.out)
   clear HO_255000 HO_255001 BK253 BK254 HI0 HK HB
   have HO_255000 := n0_
   have HO_255001 := n1_
   have BK253 := n2_
   have BK254 := n3_
   have HI0 := n4_
   have HK := n5_
   have HB := n6_
   clear n0_ n1_ n2_ n3_ n4_ n5_ n6_
   refine start_ (n := 9) (S := fun w' => w'.cell? ⟨gb254, 0, none⟩ = some (u255000) ∧ w'.cell? ⟨gb254, 1, none⟩ = some (u255001)) (ds := [8]) #[F, F, F, F, F, F, F, F, F] (by kernel_rfl) rfl rfl ⟨(bc_ BK254.out 0).trans rfl, (bc_ BK254.out 1).trans rfl⟩ (fun hHeld => ?_); refine with_tabW spec_l14Credits.tab5 spec_l14Credits.bits5 (fun HT_ HW_ => ?_)
   generalize wr.drew = w12 at HO_255000 HO_255001 BK253 BK254 HI0 HK HB hHeld ⊢
   refine pure_ (i := 0) (N := some 10) (v := ?_) (a' := ?_) #[T, F, F, F, F, F, F, F, F] rfl rfl (any_of HT_.out (by kernel_rfl)) (fun _ _ _ h => h) (Or.inl ⟨by rfl, ?_⟩) ?_ ?_
   rotate_left
   ·intro w'
    go_simp
    with_reducible rfl
   rotate_left
   ·simp only [pS]
    rfl
   refine pure_ (i := 2) (N := some 12) (v := ?_) (a' := ?_) #[T, F, T, F, F, F, F, F, F] rfl rfl (any_of HT_.out (by kernel_rfl)) (fun _ _ _ h => h) (Or.inl ⟨by rfl, ?_⟩) ?_ ?_
   rotate_left
   ·intro w'
    go_simp
    with_reducible rfl
   rotate_left
   ·simp only [pS]
    rfl
   refine take_ (i := 1) (N := some 11) (v := ?_) (a' := ?_) #[T, T, T, F, F, F, F, F, F] rfl rfl (take_ofW HT_.out HW_.out (by kernel_rfl)) (fun _ _ _ h => h) (Or.inl ⟨by rfl, ?_⟩) hHeld ?_ ?_
   rotate_left
   ·rintro w' ⟨s0, s1⟩
    go_simp
    with_reducible rfl
   rotate_left
   ·simp only [pS]
    rfl
   refine one_ (i := 3) (N := some 13) #[T, T, T, T, F, F, F, F, F] rfl rfl (one_of HT_.out (by kernel_rfl)) (by decide) (fun K hK => ?_)
   refine Kd.R_lit_step (Kd.int .i64) _ 3 ?hg (N := 13) ?hd (xs := ([1, 2, 4, 0, 30] : List Int)) (inner := [.int .i64 1, .int .i64 2, .int .i64 4, .int .i64 0, .int .i64 30]) (ok := fun _ => True) (okp := fun _ => True) ?hr ?hp (fun _ hk => hk) trivial (Below.refl _ _) (Nat.le_refl _) (by simp) ?_; (case hd => rfl); (case hg => rfl); (case hr => first | (go_simp; done) | (go_simp; rfl)); (case hp => exact (Reps.one (show Kd.M (Kd.int .i64) _ _ _ 1 [.int .i64 1] from rfl) (Reps.one (show Kd.M (Kd.int .i64) _ _ _ 2 [.int .i64 2] from rfl) (Reps.one (show Kd.M (Kd.int .i64) _ _ _ 4 [.int .i64 4] from rfl) (Reps.one (show Kd.M (Kd.int .i64) _ _ _ 0 [.int .i64 0] from rfl) (Reps.one (show Kd.M (Kd.int .i64) _ _ _ 30 [.int .i64 30] from rfl) (Reps.none _ _)))))))
   intro v256 w13 ho14 hb hg_ hnew_
   clear hg_ hnew_
   (first | rw [← Ny255.out] at ho14 | (simp only [Int.reduceToNat] at ho14; rw [← Ny255.out] at ho14))
   have n0_ := Aside0.mk (Kd.R_elder' (rY HO_255000.out) (Kd.R_base ho14) hb)
   have n1_ := Aside0.mk (Kd.R_elder' (rY HO_255001.out) (Kd.R_base ho14) hb)
   have n2_ := Aside0.mk (Kd.R_lower (Kd.R_new' (Kd.R_new' ho14 (Kd.R_lt (rY HO_255000.out))) (Kd.R_lt (rY HO_255001.out))) (keep_size (w := w) (g := g) (row := none) (by repeat (first | (with_reducible first | exact HK.out | apply KeepBut.set_ | apply keep_drewN | apply keep_drew | apply keep_alloc | refine keep_far ?_ GW253.out _ | refine keep_far ?_ GW254.out _) | exact HK.out))))
   have n3_ := Aside0.mk (bb_ (bY BK253.out) hb)
   have n4_ := Aside0.mk (bb_ (bY BK254.out) hb)
   have n5_ := Aside0.mk (IsS91.below (by repeat (first | (with_reducible first | exact HI0.out | apply IsS91.alloc | apply IsS91.drewN | apply IsS91.drew | apply IsS91.set_1 | apply IsS91.set_2 | refine IsS91.far ?_ NB0_253.out _ | refine IsS91.far ?_ NB0_254.out _) | exact HI0.out)) hb)
   have n6_ := Aside0.mk (KeepBut.trans (by repeat (first | (with_reducible first | exact HK.out | apply KeepBut.set_ | apply keep_drewN | apply keep_drew | apply keep_alloc | refine keep_far ?_ GW253.out _ | refine keep_far ?_ GW254.out _) | exact HK.out)) (KeepBut.of_below hb g none) (.inl rfl))
   have n7_ := Aside0.mk (bt_ (by repeat (first | (with_reducible first | exact HB.out | apply ba_ | apply bd_ | apply be_ | refine bs_ ?_ (IsS91.ge HI0.out) | refine bs_ ?_ GE253.out | refine bs_ ?_ GE254.out) | exact HB.out)) hb)
   clear HO_255000 HO_255001 BK253 BK254 HI0 HK HB
   have HO_255000 := n0_
   have HO_255001 := n1_
   have HO257 := n2_
   have BK253 := n3_
   have BK254 := n4_
   have HI0 := n5_
   have HK := n6_
   have HB := n7_
   clear n0_ n1_ n2_ n3_ n4_ n5_ n6_ n7_ hb ho14
   obtain ⟨Ao15, co15, eo15⟩ := Kd.R_slice HO257.out
   (first | subst eo15 | (injection eo15 with f1_ f2_ f3_; have f4_ := f1_.symm; have f5_ := f3_.symm; clear f1_ f2_ f3_; subst f4_; subst f5_))
   refine hK.out _ _ ⟨(bc_ BK254.out 0).trans rfl, (bc_ BK254.out 1).trans rfl⟩ (fun hHeld => ?_)
   clear hK K
   refine norm_ (a' := ?_) ?_ ?_
   rotate_left
   ·show Act.put _ (some 13) _ = _
    simp only [pS]
    rfl
   refine one_ (i := 4) (N := some 14) #[T, T, T, T, T, F, F, F, F] rfl rfl (one_of HT_.out (by kernel_rfl)) (by decide) (fun K hK => ?_)
   refine goes_ Try.func95 (by kernel_rfl) rfl #[.pointer (some ⟨g, 0, none⟩), .slice Ao15 y255.length co15] (by rfl) rfl rfl (by (try simp only [List.map_toArray, List.map_cons, List.map_nil]); first | done | rfl) ?_
   with_reducible refine (spec_l01PickInt.calls g s0_0 x1001_1 x1002_1 _ _ y255 t258 t259 t260 w0 _ ?side1 ?side2 ?side3 ?side4 ?side5 A8.out).mono ?_
   (case side1 => repeat (first | (with_reducible first | exact HI0.out | apply IsS91.alloc | apply IsS91.drewN | apply IsS91.drew | apply IsS91.set_1 | apply IsS91.set_2 | refine IsS91.far ?_ NB0_253.out _ | refine IsS91.far ?_ NB0_254.out _) | exact HI0.out))
   (case side2 => repeat (first | (with_reducible first | exact HB.out | apply ba_ | apply bd_ | apply be_ | refine bs_ ?_ (IsS91.ge HI0.out) | refine bs_ ?_ GE253.out | refine bs_ ?_ GE254.out) | exact HB.out))
   (case side3 => exact cY ((Kd.R_reads' HO257.out).2.2))
   (case side4 => exact (Kd.R_reads' HO257.out).2.1)
   (case side5 => exact far_slice (IsS91.own_ne HI0.out HO257.out (by decide)))
   rintro e w16 ⟨rfl, hi, hb, hk⟩
   refine ⟨_, rfl, ?_⟩
   have n0_ := Aside0.mk (Kd.R_mono (Kd.R_keep (IsS91.apart (show IsS91 w0 _ g s0_0 x1001_1 x1002_1 from by repeat (first | (with_reducible first | exact HI0.out | apply IsS91.alloc | apply IsS91.drewN | apply IsS91.drew | apply IsS91.set_1 | apply IsS91.set_2 | refine IsS91.far ?_ NB0_253.out _ | refine IsS91.far ?_ NB0_254.out _) | exact HI0.out)) (rY HO_255000.out) (by decide)) hk (fun _ h => h.2)) (fun _ h => h.1))
   have n1_ := Aside0.mk (Kd.R_mono (Kd.R_keep (IsS91.apart (show IsS91 w0 _ g s0_0 x1001_1 x1002_1 from by repeat (first | (with_reducible first | exact HI0.out | apply IsS91.alloc | apply IsS91.drewN | apply IsS91.drew | apply IsS91.set_1 | apply IsS91.set_2 | refine IsS91.far ?_ NB0_253.out _ | refine IsS91.far ?_ NB0_254.out _) | exact HI0.out)) (rY HO_255001.out) (by decide)) hk (fun _ h => h.2)) (fun _ h => h.1))
   have n2_ := Aside0.mk (KeepBut.blk hk (g' := gb253) (o := .cells #[.slice none 0 0, .slice none 0 0] 26 (0, 0)) (bY BK253.out) NB253_0.out (by simp))
   have n3_ := Aside0.mk (KeepBut.blk hk (g' := gb254) (o := .cells #[u255000, u255001] 26 (0, 0)) (bY BK254.out) NB254_0.out (by simp))
   have n4_ := Aside0.mk (Kd.R_mono (Kd.R_keep (IsS91.apart (show IsS91 w0 _ g s0_0 x1001_1 x1002_1 from by repeat (first | (with_reducible first | exact HI0.out | apply IsS91.alloc | apply IsS91.drewN | apply IsS91.drew | apply IsS91.set_1 | apply IsS91.set_2 | refine IsS91.far ?_ NB0_253.out _ | refine IsS91.far ?_ NB0_254.out _) | exact HI0.out)) (rY HO257.out) (by decide)) hk (fun _ h => h.2)) (fun _ h => h.1))
   have n5_ := Aside0.mk (KeepBut.trans (by repeat (first | (with_reducible first | exact HK.out | apply KeepBut.set_ | apply keep_drewN | apply keep_drew | apply keep_alloc | refine keep_far ?_ GW253.out _ | refine keep_far ?_ GW254.out _) | exact HK.out)) hk (.inl rfl))
   have n6_ := Aside0.mk (hb)
   have n7_ := Aside0.mk (hi)
   clear HO_255000 HO_255001 BK253 BK254 HO257 HK HB HI0
   have HO_255000 := n0_
   have HO_255001 := n1_
   have BK253 := n2_
   have BK254 := n3_
   have HO257 := n4_
   have HK := n5_
   have HB := n6_
   have HI0 := n7_
   clear n0_ n1_ n2_ n3_ n4_ n5_ n6_ n7_
   refine hK.out _ _ ⟨(bc_ BK254.out 0).trans rfl, (bc_ BK254.out 1).trans rfl⟩ (fun hHeld => ?_)
   clear hK K
   refine norm_ (a' := ?_) ?_ ?_
   rotate_left
   ·show Act.put _ (some 14) _ = _
    simp only [pS]
    rfl
   refine one_ (i := 5) (N := some 15) #[T, T, T, T, T, T, F, F, F] rfl rfl (one_of HT_.out (by kernel_rfl)) (by decide) (fun K hK => ?_)
   refine value_ (w1 := ?_) (v := ?_) (by rfl) rfl ?_ ?_
   rotate_left 2
   ·go_simp
    constructor
    ·rfl
    ·rfl
   refine hK.out _ _ ⟨(bc_ (bl_ BK254.out _) 0).trans rfl, (bc_ (bl_ BK254.out _) 1).trans rfl⟩ (fun hHeld => ?_)
   clear hK K
   refine norm_ (a' := ?_) ?_ ?_
   rotate_left
   ·show Act.put _ (some 15) _ = _
    simp only [pS]
    rfl
   refine one_ (i := 6) (N := some 16) #[T, T, T, T, T, T, T, F, F] rfl rfl (one_of HT_.out (by kernel_rfl)) (by decide) (fun K hK => ?_)
   refine Kd.R_append_step (Kd.int .i64) w.heap.size (by rfl) (.tmp 11) (.tmp 15) 22 3 (.int .i64 0) 8 rfl Try.underlying22 info3 rfl (by decide) (by omega) u255000 x255000_1 t258 [.int .i64 t258] (fun k_ => some k_ ≠ (u255001 : Value).ownBlock ∧ some k_ ≠ (.slice Ao15 y255.length co15 : Value).ownBlock) (fun _ => False) rfl rfl ?aP (fun _ hk => hk.elim) ?aF ?aO (Below.refl _ _) ?aS ?aL ?_
   (case aP => exact rfl)
   (case aF => exact (fun k_ hk => ⟨Kd.fresh' (Kd.R_lt (rY HO_255001.out)) k_ hk, Kd.fresh' (Kd.R_lt (rY HO257.out)) k_ hk⟩))
   (case aO => exact (rY HO_255000.out))
   (case aS => exact (keep_size (w := w) (g := g) (row := none) (by repeat (first | (with_reducible first | exact HK.out | apply KeepBut.set_ | apply keep_drewN | apply keep_drew | apply keep_alloc | refine keep_far ?_ GW253.out _ | refine keep_far ?_ GW254.out _) | exact HK.out))))
   (case aL => have := LMc9.out; omega)
   intro v262 w17 ho hb hg hat
   rw [← Ny261.out] at ho
   have n0_ := Aside0.mk (Kd.R_after (ok := (fun k_ => some k_ ≠ (.slice Ao15 y255.length co15 : Value).ownBlock)) (by (repeat apply rX); exact Kd.R_mono HO_255001.out (fun _ hk => ⟨hk.2, hk.1⟩)) hg hat)
   have n1_ := Aside0.mk (blk_grown (g := gb253) (o := .cells #[.slice none 0 0, .slice none 0 0] 26 (0, 0)) (bY BK253.out) hg (Kd.R_ne HO_255000.out BK253.out (by decide)))
   have n2_ := Aside0.mk (blk_grown (g := gb254) (o := .cells #[u255000, u255001] 26 (0, 0)) (bY BK254.out) hg (Kd.R_ne HO_255000.out BK254.out (by decide)))
   have n3_ := Aside0.mk (IsS91.grown (by repeat (first | (with_reducible first | exact HI0.out | apply IsS91.alloc | apply IsS91.drewN | apply IsS91.drew | apply IsS91.set_1 | apply IsS91.set_2 | refine IsS91.far ?_ NB0_253.out _ | refine IsS91.far ?_ NB0_254.out _) | exact HI0.out)) hg (IsS91.own_ne HI0.out HO_255000.out (by decide)))
   have n4_ := Aside0.mk (Kd.R_after (ok := (fun k_ => some k_ ≠ (u255001 : Value).ownBlock)) (by (repeat apply rX); exact Kd.R_mono HO257.out (fun _ hk => ⟨hk.2, hk.1.2⟩)) hg hat)
   have n5_ := Aside0.mk (below_weaken (by repeat (first | (with_reducible first | exact HB.out | apply ba_ | apply bd_ | apply be_ | refine bs_ ?_ (IsS91.ge HI0.out) | refine bs_ ?_ GE253.out | refine bs_ ?_ GE254.out) | exact HB.out)) HL.out hb)
   have n6_ := Aside0.mk (KeepBut.trans (by repeat (first | (with_reducible first | exact HK.out | apply KeepBut.set_ | apply keep_drewN | apply keep_drew | apply keep_alloc | refine keep_far ?_ GW253.out _ | refine keep_far ?_ GW254.out _) | exact HK.out)) (KeepBut.of_grown hg g) (Kd.R_base2 HO_255000.out))
   have n7_ := Aside0.mk (ho)
   clear HO_255001 BK253 BK254 HI0 HO257 HB HK HO_255000
   have HO_255001 := n0_
   have BK253 := n1_
   have BK254 := n2_
   have HI0 := n3_
   have HO257 := n4_
   have HB := n5_
   have HK := n6_
   have HO263 := n7_
   clear n0_ n1_ n2_ n3_ n4_ n5_ n6_ n7_ ho hb hg hat
   obtain ⟨Ao18, co18, eo18⟩ := Kd.R_slice HO263.out
   (first | subst eo18 | (injection eo18 with f1_ f2_ f3_; have f4_ := f1_.symm; have f5_ := f3_.symm; clear f1_ f2_ f3_; subst f4_; subst f5_))
   refine hK.out _ _ ⟨(bc_ BK254.out 0).trans rfl, (bc_ BK254.out 1).trans rfl⟩ (fun hHeld => ?_)
   clear hK K
   refine norm_ (a' := ?_) ?_ ?_
   rotate_left
   ·show Act.put _ (some 16) _ = _
    simp only [pS]
    rfl
   refine pure_ (i := 7) (N := some 17) (v := ?_) (a' := ?_) #[T, T, T, T, T, T, T, T, F] rfl rfl (any_of HT_.out (by kernel_rfl)) (fun _ _ _ h => h) (Or.inl ⟨by rfl, ?_⟩) ?_ ?_
   rotate_left
   ·intro w'
    go_simp
    with_reducible rfl
   rotate_left
   ·simp only [pS]
    rfl
   refine last_ (i := 8) (N := none) #[T, T, T, T, T, T, T, T, T] rfl rfl (one_of HT_.out (by kernel_rfl)) (by decide) (fun K hK => ?_)
   have hs19 : w17.cell? ⟨gb254, 0, none⟩ = some (u255000) := (bc_ BK254.out 0).trans rfl
   have hfs19 := bf_ BK254.out 0
   have hns19_0 := NB253_254.out
   have hms19_0 := NB254_253.out
   refine skip_ (w1 := ?_) (by rfl) rfl ?_ ?_
   rotate_left
   ·go_simp
    rfl
   refine hK.out _ _ ?_
   clear hK K
   refine done_ (done_of HT_.out (by kernel_rfl)) ?_
   try go_wp2
   have n0_ : Aside0 (Kd.R (Kd.int .i64) 3 (w17.setCell ⟨gb254, 0, none⟩ (.slice Ao18 y261.length co18)) w.heap.size (fun k_ => some k_ ≠ (.slice Ao15 y255.length co15 : Value).ownBlock ∧ some k_ ≠ (.slice Ao18 y261.length co18 : Value).ownBlock) u255001 x255001_1) := ⟨by (repeat apply rX); exact Kd.R_mono (Kd.R_far (p := ⟨gb254, 0, none⟩) (Kd.R_types HO_255001.out BK254.out (by decide)) (fun _ hk => hk.2) (.slice Ao18 y261.length co18)) (fun _ hk => ⟨hk.1.1, hk.1.2⟩)⟩
   have n1_ : Aside0 (Kd.R (Kd.int .i64) 3 (w17.setCell ⟨gb254, 0, none⟩ (.slice Ao18 y261.length co18)) w.heap.size (fun k_ => some k_ ≠ (u255001 : Value).ownBlock ∧ some k_ ≠ (.slice Ao18 y261.length co18 : Value).ownBlock) (.slice Ao15 y255.length co15) y255) := ⟨by (repeat apply rX); exact Kd.R_mono (Kd.R_far (p := ⟨gb254, 0, none⟩) (Kd.R_types HO257.out BK254.out (by decide)) (fun _ hk => hk.2) (.slice Ao18 y261.length co18)) (fun _ hk => ⟨hk.1.1, hk.1.2⟩)⟩
   have n2_ : Aside0 (Kd.R (Kd.int .i64) 3 (w17.setCell ⟨gb254, 0, none⟩ (.slice Ao18 y261.length co18)) w.heap.size (fun k_ => some k_ ≠ (u255001 : Value).ownBlock ∧ some k_ ≠ (.slice Ao15 y255.length co15 : Value).ownBlock) (.slice Ao18 y261.length co18) y261) := ⟨by (repeat apply rX); exact Kd.R_mono (Kd.R_far (p := ⟨gb254, 0, none⟩) (Kd.R_types HO263.out BK254.out (by decide)) (fun _ hk => hk.2) (.slice Ao18 y261.length co18)) (fun _ hk => ⟨hk.1.1, hk.1.2⟩)⟩
   have n3_ : Aside0 ((w17.setCell ⟨gb254, 0, none⟩ (.slice Ao18 y261.length co18)).heap[gb253]? = some (.cells #[.slice none 0 0, .slice none 0 0] 26 (0, 0))) := ⟨by (repeat apply bX); refine blk_far ?_ NB253_254.out _; (repeat apply bX); exact BK253.out⟩
   have n4_ : Aside0 ((w17.setCell ⟨gb254, 0, none⟩ (.slice Ao18 y261.length co18)).heap[gb254]? = some (.cells #[.slice Ao18 y261.length co18, u255001] 26 (0, 0))) := ⟨by (repeat apply bX); refine bp_ (cs := #[u255000, u255001]) ?_ 0 _ rfl; (repeat apply bX); exact BK254.out⟩
   have n5_ : Aside0 (IsS91 w0 (w17.setCell ⟨gb254, 0, none⟩ (.slice Ao18 y261.length co18)) g s0_0 t259 t260) := ⟨by repeat (first | (with_reducible first | exact HI0.out | apply IsS91.alloc | apply IsS91.drewN | apply IsS91.drew | apply IsS91.set_1 | apply IsS91.set_2 | refine IsS91.far ?_ NB0_253.out _ | refine IsS91.far ?_ NB0_254.out _) | exact HI0.out)⟩
   have n6_ : Aside0 (KeepBut w (w17.setCell ⟨gb254, 0, none⟩ (.slice Ao18 y261.length co18)) g none) := ⟨by repeat (first | (with_reducible first | exact HK.out | apply KeepBut.set_ | apply keep_drewN | apply keep_drew | apply keep_alloc | refine keep_far ?_ GW253.out _ | refine keep_far ?_ GW254.out _) | exact HK.out)⟩
   have n7_ : Aside0 (Below w0.heap.size w0 (w17.setCell ⟨gb254, 0, none⟩ (.slice Ao18 y261.length co18))) := ⟨by repeat (first | (with_reducible first | exact HB.out | apply ba_ | apply bd_ | apply be_ | refine bs_ ?_ (IsS91.ge HI0.out) | refine bs_ ?_ GE253.out | refine bs_ ?_ GE254.out) | exact HB.out)⟩
   generalize (w17.setCell ⟨gb254, 0, none⟩ (.slice Ao18 y261.length co18)) = w20 at n0_ n1_ n2_ n3_ n4_ n5_ n6_ n7_ ⊢
   have HO_255001 := n0_
   have HO257 := n1_
   have HO263 := n2_
   have BK253 := n3_
   have BK254 := n4_
   have HI0 := n5_
   have HK := n6_
   have HB := n7_
   clear n0_ n1_ n2_ n3_ n4_ n5_ n6_ n7_
   have n0_ := Aside0.mk (Kd.R_drew HO_255001.out)
   have n1_ := Aside0.mk (Kd.R_drew HO257.out)
   have n2_ := Aside0.mk (Kd.R_drew HO263.out)
   have n3_ := Aside0.mk (bw_ BK253.out)
   have n4_ := Aside0.mk (bw_ BK254.out)
   have n5_ := Aside0.mk (IsS91.drew HI0.out)
   have n6_ := Aside0.mk (keep_drew HK.out)
   have n7_ := Aside0.mk (be_ HB.out)
   clear HO_255001 HO257 HO263 BK253 BK254 HI0 HK HB
   have HO_255001 := n0_
   have HO257 := n1_
   have HO263 := n2_
   have BK253 := n3_
   have BK254 := n4_
   have HI0 := n5_
   have HK := n6_
   have HB := n7_
   clear n0_ n1_ n2_ n3_ n4_ n5_ n6_ n7_
   refine start_ (n := 9) (S := fun w' => w'.cell? ⟨gb254, 0, none⟩ = some (.slice Ao18 y261.length co18) ∧ w'.cell? ⟨gb254, 1, none⟩ = some (u255001)) (ds := [8]) #[F, F, F, F, F, F, F, F, F] (by kernel_rfl) rfl rfl ⟨(bc_ BK254.out 0).trans rfl, (bc_ BK254.out 1).trans rfl⟩ (fun hHeld => ?_); refine with_tabW spec_l14Credits.tab6 spec_l14Credits.bits6 (fun HT_ HW_ => ?_)
   generalize w20.drew = w21 at HO_255001 HO257 HO263 BK253 BK254 HI0 HK HB hHeld ⊢
   refine pure_ (i := 0) (N := some 18) (v := ?_) (a' := ?_) #[T, F, F, F, F, F, F, F, F] rfl rfl (any_of HT_.out (by kernel_rfl)) (fun _ _ _ h => h) (Or.inl ⟨by rfl, ?_⟩) ?_ ?_
   rotate_left
   ·intro w'
    go_simp
    with_reducible rfl
   rotate_left
   ·simp only [pS]
    rfl
   refine pure_ (i := 2) (N := some 20) (v := ?_) (a' := ?_) #[T, F, T, F, F, F, F, F, F] rfl rfl (any_of HT_.out (by kernel_rfl)) (fun _ _ _ h => h) (Or.inl ⟨by rfl, ?_⟩) ?_ ?_
   rotate_left
   ·intro w'
    go_simp
    with_reducible rfl
   rotate_left
   ·simp only [pS]
    rfl
   refine take_ (i := 1) (N := some 19) (v := ?_) (a' := ?_) #[T, T, T, F, F, F, F, F, F] rfl rfl (take_ofW HT_.out HW_.out (by kernel_rfl)) (fun _ _ _ h => h) (Or.inl ⟨by rfl, ?_⟩) hHeld ?_ ?_
   rotate_left
   ·rintro w' ⟨s0, s1⟩
    go_simp
    with_reducible rfl
   rotate_left
   ·simp only [pS]
    rfl
   refine one_ (i := 3) (N := some 21) #[T, T, T, T, F, F, F, F, F] rfl rfl (one_of HT_.out (by kernel_rfl)) (by decide) (fun K hK => ?_)
   refine Kd.R_lit_step (Kd.int .i64) _ 3 ?hg (N := 21) ?hd (xs := ([2, 4, 0, 1, 30] : List Int)) (inner := [.int .i64 2, .int .i64 4, .int .i64 0, .int .i64 1, .int .i64 30]) (ok := fun _ => True) (okp := fun _ => True) ?hr ?hp (fun _ hk => hk) trivial (Below.refl _ _) (Nat.le_refl _) (by simp) ?_; (case hd => rfl); (case hg => rfl); (case hr => first | (go_simp; done) | (go_simp; rfl)); (case hp => exact (Reps.one (show Kd.M (Kd.int .i64) _ _ _ 2 [.int .i64 2] from rfl) (Reps.one (show Kd.M (Kd.int .i64) _ _ _ 4 [.int .i64 4] from rfl) (Reps.one (show Kd.M (Kd.int .i64) _ _ _ 0 [.int .i64 0] from rfl) (Reps.one (show Kd.M (Kd.int .i64) _ _ _ 1 [.int .i64 1] from rfl) (Reps.one (show Kd.M (Kd.int .i64) _ _ _ 30 [.int .i64 30] from rfl) (Reps.none _ _)))))))
   intro v265 w22 ho23 hb hg_ hnew_
   clear hg_ hnew_
   (first | rw [← Ny264.out] at ho23 | (simp only [Int.reduceToNat] at ho23; rw [← Ny264.out] at ho23))
   have n0_ := Aside0.mk (Kd.R_elder' (rY HO_255001.out) (Kd.R_base ho23) hb)
   have n1_ := Aside0.mk (Kd.R_elder' (rY HO257.out) (Kd.R_base ho23) hb)
   have n2_ := Aside0.mk (Kd.R_elder' (rY HO263.out) (Kd.R_base ho23) hb)
   have n3_ := Aside0.mk (Kd.R_lower (Kd.R_new' (Kd.R_new' (Kd.R_new' ho23 (Kd.R_lt (rY HO_255001.out))) (Kd.R_lt (rY HO257.out))) (Kd.R_lt (rY HO263.out))) (keep_size (w := w) (g := g) (row := none) (by repeat (first | (with_reducible first | exact HK.out | apply KeepBut.set_ | apply keep_drewN | apply keep_drew | apply keep_alloc | refine keep_far ?_ GW253.out _ | refine keep_far ?_ GW254.out _) | exact HK.out))))
   have n4_ := Aside0.mk (bb_ (bY BK253.out) hb)
   have n5_ := Aside0.mk (bb_ (bY BK254.out) hb)
   have n6_ := Aside0.mk (IsS91.below (by repeat (first | (with_reducible first | exact HI0.out | apply IsS91.alloc | apply IsS91.drewN | apply IsS91.drew | apply IsS91.set_1 | apply IsS91.set_2 | refine IsS91.far ?_ NB0_253.out _ | refine IsS91.far ?_ NB0_254.out _) | exact HI0.out)) hb)
   have n7_ := Aside0.mk (KeepBut.trans (by repeat (first | (with_reducible first | exact HK.out | apply KeepBut.set_ | apply keep_drewN | apply keep_drew | apply keep_alloc | refine keep_far ?_ GW253.out _ | refine keep_far ?_ GW254.out _) | exact HK.out)) (KeepBut.of_below hb g none) (.inl rfl))
   have n8_ := Aside0.mk (bt_ (by repeat (first | (with_reducible first | exact HB.out | apply ba_ | apply bd_ | apply be_ | refine bs_ ?_ (IsS91.ge HI0.out) | refine bs_ ?_ GE253.out | refine bs_ ?_ GE254.out) | exact HB.out)) hb)
   clear HO_255001 HO257 HO263 BK253 BK254 HI0 HK HB
   have HO_255001 := n0_
   have HO257 := n1_
   have HO263 := n2_
   have HO266 := n3_
   have BK253 := n4_
   have BK254 := n5_
   have HI0 := n6_
   have HK := n7_
   have HB := n8_
   clear n0_ n1_ n2_ n3_ n4_ n5_ n6_ n7_ n8_ hb ho23
   obtain ⟨Ao24, co24, eo24⟩ := Kd.R_slice HO266.out
   (first | subst eo24 | (injection eo24 with f1_ f2_ f3_; have f4_ := f1_.symm; have f5_ := f3_.symm; clear f1_ f2_ f3_; subst f4_; subst f5_))
   refine hK.out _ _ ⟨(bc_ BK254.out 0).trans rfl, (bc_ BK254.out 1).trans rfl⟩ (fun hHeld => ?_)
   clear hK K
   refine norm_ (a' := ?_) ?_ ?_
   rotate_left
   ·show Act.put _ (some 21) _ = _
    simp only [pS]
    rfl
   refine one_ (i := 4) (N := some 22) #[T, T, T, T, T, F, F, F, F] rfl rfl (one_of HT_.out (by kernel_rfl)) (by decide) (fun K hK => ?_)
   refine goes_ Try.func95 (by kernel_rfl) rfl #[.pointer (some ⟨g, 0, none⟩), .slice Ao24 y264.length co24] (by rfl) rfl rfl (by (try simp only [List.map_toArray, List.map_cons, List.map_nil]); first | done | rfl) ?_
   with_reducible refine (spec_l01PickInt.calls g s0_0 t259 t260 _ _ y264 t267 t268 t269 w0 _ ?side1 ?side2 ?side3 ?side4 ?side5 A10.out).mono ?_
   (case side1 => repeat (first | (with_reducible first | exact HI0.out | apply IsS91.alloc | apply IsS91.drewN | apply IsS91.drew | apply IsS91.set_1 | apply IsS91.set_2 | refine IsS91.far ?_ NB0_253.out _ | refine IsS91.far ?_ NB0_254.out _) | exact HI0.out))
   (case side2 => repeat (first | (with_reducible first | exact HB.out | apply ba_ | apply bd_ | apply be_ | refine bs_ ?_ (IsS91.ge HI0.out) | refine bs_ ?_ GE253.out | refine bs_ ?_ GE254.out) | exact HB.out))
   (case side3 => exact cY ((Kd.R_reads' HO266.out).2.2))
   (case side4 => exact (Kd.R_reads' HO266.out).2.1)
   (case side5 => exact far_slice (IsS91.own_ne HI0.out HO266.out (by decide)))
   rintro e w25 ⟨rfl, hi, hb, hk⟩
   refine ⟨_, rfl, ?_⟩
   have n0_ := Aside0.mk (Kd.R_mono (Kd.R_keep (IsS91.apart (show IsS91 w0 _ g s0_0 t259 t260 from by repeat (first | (with_reducible first | exact HI0.out | apply IsS91.alloc | apply IsS91.drewN | apply IsS91.drew | apply IsS91.set_1 | apply IsS91.set_2 | refine IsS91.far ?_ NB0_253.out _ | refine IsS91.far ?_ NB0_254.out _) | exact HI0.out)) (rY HO_255001.out) (by decide)) hk (fun _ h => h.2)) (fun _ h => h.1))
   have n1_ := Aside0.mk (KeepBut.blk hk (g' := gb253) (o := .cells #[.slice none 0 0, .slice none 0 0] 26 (0, 0)) (bY BK253.out) NB253_0.out (by simp))
   have n2_ := Aside0.mk (KeepBut.blk hk (g' := gb254) (o := .cells #[.slice Ao18 y261.length co18, u255001] 26 (0, 0)) (bY BK254.out) NB254_0.out (by simp))
   have n3_ := Aside0.mk (Kd.R_mono (Kd.R_keep (IsS91.apart (show IsS91 w0 _ g s0_0 t259 t260 from by repeat (first | (with_reducible first | exact HI0.out | apply IsS91.alloc | apply IsS91.drewN | apply IsS91.drew | apply IsS91.set_1 | apply IsS91.set_2 | refine IsS91.far ?_ NB0_253.out _ | refine IsS91.far ?_ NB0_254.out _) | exact HI0.out)) (rY HO257.out) (by decide)) hk (fun _ h => h.2)) (fun _ h => h.1))
   have n4_ := Aside0.mk (Kd.R_mono (Kd.R_keep (IsS91.apart (show IsS91 w0 _ g s0_0 t259 t260 from by repeat (first | (with_reducible first | exact HI0.out | apply IsS91.alloc | apply IsS91.drewN | apply IsS91.drew | apply IsS91.set_1 | apply IsS91.set_2 | refine IsS91.far ?_ NB0_253.out _ | refine IsS91.far ?_ NB0_254.out _) | exact HI0.out)) (rY HO263.out) (by decide)) hk (fun _ h => h.2)) (fun _ h => h.1))
   have n5_ := Aside0.mk (Kd.R_mono (Kd.R_keep (IsS91.apart (show IsS91 w0 _ g s0_0 t259 t260 from by repeat (first | (with_reducible first | exact HI0.out | apply IsS91.alloc | apply IsS91.drewN | apply IsS91.drew | apply IsS91.set_1 | apply IsS91.set_2 | refine IsS91.far ?_ NB0_253.out _ | refine IsS91.far ?_ NB0_254.out _) | exact HI0.out)) (rY HO266.out) (by decide)) hk (fun _ h => h.2)) (fun _ h => h.1))
   have n6_ := Aside0.mk (KeepBut.trans (by repeat (first | (with_reducible first | exact HK.out | apply KeepBut.set_ | apply keep_drewN | apply keep_drew | apply keep_alloc | refine keep_far ?_ GW253.out _ | refine keep_far ?_ GW254.out _) | exact HK.out)) hk (.inl rfl))
   have n7_ := Aside0.mk (hb)
   have n8_ := Aside0.mk (hi)
   clear HO_255001 BK253 BK254 HO257 HO263 HO266 HK HB HI0
   have HO_255001 := n0_
   have BK253 := n1_
   have BK254 := n2_
   have HO257 := n3_
   have HO263 := n4_
   have HO266 := n5_
   have HK := n6_
   have HB := n7_
   have HI0 := n8_
   clear n0_ n1_ n2_ n3_ n4_ n5_ n6_ n7_ n8_
   refine hK.out _ _ ⟨(bc_ BK254.out 0).trans rfl, (bc_ BK254.out 1).trans rfl⟩ (fun hHeld => ?_)
   clear hK K
   refine norm_ (a' := ?_) ?_ ?_
   rotate_left
   ·show Act.put _ (some 22) _ = _
    simp only [pS]
    rfl
   refine one_ (i := 5) (N := some 23) #[T, T, T, T, T, T, F, F, F] rfl rfl (one_of HT_.out (by kernel_rfl)) (by decide) (fun K hK => ?_)
   refine value_ (w1 := ?_) (v := ?_) (by rfl) rfl ?_ ?_
   rotate_left 2
   ·go_simp
    constructor
    ·rfl
    ·rfl
   refine hK.out _ _ ⟨(bc_ (bl_ BK254.out _) 0).trans rfl, (bc_ (bl_ BK254.out _) 1).trans rfl⟩ (fun hHeld => ?_)
   clear hK K
   refine norm_ (a' := ?_) ?_ ?_
   rotate_left
   ·show Act.put _ (some 23) _ = _
    simp only [pS]
    rfl
   refine one_ (i := 6) (N := some 24) #[T, T, T, T, T, T, T, F, F] rfl rfl (one_of HT_.out (by kernel_rfl)) (by decide) (fun K hK => ?_)
   refine Kd.R_append_step (Kd.int .i64) w.heap.size (by rfl) (.tmp 19) (.tmp 23) 22 3 (.int .i64 0) 8 rfl Try.underlying22 info3 rfl (by decide) (by omega) u255001 x255001_1 t267 [.int .i64 t267] (fun k_ => some k_ ≠ (.slice Ao15 y255.length co15 : Value).ownBlock ∧ some k_ ≠ (.slice Ao18 y261.length co18 : Value).ownBlock ∧ some k_ ≠ (.slice Ao24 y264.length co24 : Value).ownBlock) (fun _ => False) rfl rfl ?aP (fun _ hk => hk.elim) ?aF ?aO (Below.refl _ _) ?aS ?aL ?_
   (case aP => exact rfl)
   (case aF => exact (fun k_ hk => ⟨Kd.fresh' (Kd.R_lt (rY HO257.out)) k_ hk, Kd.fresh' (Kd.R_lt (rY HO263.out)) k_ hk, Kd.fresh' (Kd.R_lt (rY HO266.out)) k_ hk⟩))
   (case aO => exact (by (repeat apply rX); exact Kd.R_mono HO_255001.out (fun _ hk => ⟨hk.1.1, ⟨hk.1.2, hk.2⟩⟩)))
   (case aS => exact (keep_size (w := w) (g := g) (row := none) (by repeat (first | (with_reducible first | exact HK.out | apply KeepBut.set_ | apply keep_drewN | apply keep_drew | apply keep_alloc | refine keep_far ?_ GW253.out _ | refine keep_far ?_ GW254.out _) | exact HK.out))))
   (case aL => have := LMc11.out; omega)
   intro v271 w26 ho hb hg hat
   rw [← Ny270.out] at ho
   have n0_ := Aside0.mk (blk_grown (g := gb253) (o := .cells #[.slice none 0 0, .slice none 0 0] 26 (0, 0)) (bY BK253.out) hg (Kd.R_ne HO_255001.out BK253.out (by decide)))
   have n1_ := Aside0.mk (blk_grown (g := gb254) (o := .cells #[.slice Ao18 y261.length co18, u255001] 26 (0, 0)) (bY BK254.out) hg (Kd.R_ne HO_255001.out BK254.out (by decide)))
   have n2_ := Aside0.mk (IsS91.grown (by repeat (first | (with_reducible first | exact HI0.out | apply IsS91.alloc | apply IsS91.drewN | apply IsS91.drew | apply IsS91.set_1 | apply IsS91.set_2 | refine IsS91.far ?_ NB0_253.out _ | refine IsS91.far ?_ NB0_254.out _) | exact HI0.out)) hg (IsS91.own_ne HI0.out HO_255001.out (by decide)))
   have n3_ := Aside0.mk (Kd.R_after (ok := (fun k_ => some k_ ≠ (.slice Ao18 y261.length co18 : Value).ownBlock ∧ some k_ ≠ (.slice Ao24 y264.length co24 : Value).ownBlock)) (by (repeat apply rX); exact Kd.R_mono HO257.out (fun _ hk => ⟨⟨hk.1.2, hk.2⟩, hk.1.1⟩)) hg hat)
   have n4_ := Aside0.mk (Kd.R_after (ok := (fun k_ => some k_ ≠ (.slice Ao15 y255.length co15 : Value).ownBlock ∧ some k_ ≠ (.slice Ao24 y264.length co24 : Value).ownBlock)) (by (repeat apply rX); exact Kd.R_mono HO263.out (fun _ hk => ⟨⟨hk.1.2, hk.2⟩, hk.1.1⟩)) hg hat)
   have n5_ := Aside0.mk (Kd.R_after (ok := (fun k_ => some k_ ≠ (.slice Ao15 y255.length co15 : Value).ownBlock ∧ some k_ ≠ (.slice Ao18 y261.length co18 : Value).ownBlock)) (by (repeat apply rX); exact Kd.R_mono HO266.out (fun _ hk => ⟨⟨hk.1.2, hk.2⟩, hk.1.1.2⟩)) hg hat)
   have n6_ := Aside0.mk (below_weaken (by repeat (first | (with_reducible first | exact HB.out | apply ba_ | apply bd_ | apply be_ | refine bs_ ?_ (IsS91.ge HI0.out) | refine bs_ ?_ GE253.out | refine bs_ ?_ GE254.out) | exact HB.out)) HL.out hb)
   have n7_ := Aside0.mk (KeepBut.trans (by repeat (first | (with_reducible first | exact HK.out | apply KeepBut.set_ | apply keep_drewN | apply keep_drew | apply keep_alloc | refine keep_far ?_ GW253.out _ | refine keep_far ?_ GW254.out _) | exact HK.out)) (KeepBut.of_grown hg g) (Kd.R_base2 HO_255001.out))
   have n8_ := Aside0.mk (ho)
   clear BK253 BK254 HI0 HO257 HO263 HO266 HB HK HO_255001
   have BK253 := n0_
   have BK254 := n1_
   have HI0 := n2_
   have HO257 := n3_
   have HO263 := n4_
   have HO266 := n5_
   have HB := n6_
   have HK := n7_
   have HO272 := n8_
   clear n0_ n1_ n2_ n3_ n4_ n5_ n6_ n7_ n8_ ho hb hg hat
   obtain ⟨Ao27, co27, eo27⟩ := Kd.R_slice HO272.out
   (first | subst eo27 | (injection eo27 with f1_ f2_ f3_; have f4_ := f1_.symm; have f5_ := f3_.symm; clear f1_ f2_ f3_; subst f4_; subst f5_))
   refine hK.out _ _ ⟨(bc_ BK254.out 0).trans rfl, (bc_ BK254.out 1).trans rfl⟩ (fun hHeld => ?_)
   clear hK K
   refine norm_ (a' := ?_) ?_ ?_
   rotate_left
   ·show Act.put _ (some 24) _ = _
    simp only [pS]
    rfl
   refine pure_ (i := 7) (N := some 25) (v := ?_) (a' := ?_) #[T, T, T, T, T, T, T, T, F] rfl rfl (any_of HT_.out (by kernel_rfl)) (fun _ _ _ h => h) (Or.inl ⟨by rfl, ?_⟩) ?_ ?_
   rotate_left
   ·intro w'
    go_simp
    with_reducible rfl
   rotate_left
   ·simp only [pS]
    rfl
   refine last_ (i := 8) (N := none) #[T, T, T, T, T, T, T, T, T] rfl rfl (one_of HT_.out (by kernel_rfl)) (by decide) (fun K hK => ?_)
   have hs28 : w26.cell? ⟨gb254, 1, none⟩ = some (u255001) := (bc_ BK254.out 1).trans rfl
   have hfs28 := bf_ BK254.out 1
   have hns28_0 := NB253_254.out
   have hms28_0 := NB254_253.out
   refine skip_ (w1 := ?_) (by rfl) rfl ?_ ?_
   rotate_left
   ·go_simp
    rfl
   refine hK.out _ _ ?_
   clear hK K
   refine done_ (done_of HT_.out (by kernel_rfl)) ?_
   try go_wp2
   go_roundg k1
   case measure => have := HK1.out; omega
   case rel => exact ⟨(wrap64 (x4_1 + 1)), (t268), (t269), (y261), (y270), (.slice Ao18 y261.length co18), (.slice Ao27 y270.length co27), (by first | rfl | (simp; done) | (simp [*]; done)), H', ⟨by have := HK1.out; omega⟩, ⟨by (repeat apply rX); exact Kd.R_mono (Kd.R_far (p := ⟨gb254, 1, none⟩) (Kd.R_types HO263.out BK254.out (by decide)) (fun _ hk => hk.2) (.slice Ao27 y270.length co27)) (fun _ hk => hk.1.2)⟩, ⟨by (repeat apply rX); exact Kd.R_mono (Kd.R_far (p := ⟨gb254, 1, none⟩) (Kd.R_types HO272.out BK254.out (by decide)) (fun _ hk => hk.2) (.slice Ao27 y270.length co27)) (fun _ hk => hk.1.2.1)⟩, ⟨by (repeat apply bX); refine blk_far ?_ NB253_254.out _; (repeat apply bX); exact BK253.out⟩, ⟨by (repeat apply bX); refine bp_ (cs := #[.slice Ao18 y261.length co18, u255001]) ?_ 1 _ rfl; (repeat apply bX); exact BK254.out⟩, ⟨by repeat (first | (with_reducible first | exact HI0.out | apply IsS91.alloc | apply IsS91.drewN | apply IsS91.drew | apply IsS91.set_1 | apply IsS91.set_2 | refine IsS91.far ?_ NB0_253.out _ | refine IsS91.far ?_ NB0_254.out _) | exact HI0.out)⟩, ⟨by repeat (first | (with_reducible first | exact HK.out | apply KeepBut.set_ | apply keep_drewN | apply keep_drew | apply keep_alloc | refine keep_far ?_ GW253.out _ | refine keep_far ?_ GW254.out _) | exact HK.out)⟩, ⟨by repeat (first | (with_reducible first | exact HB.out | apply ba_ | apply bd_ | apply be_ | refine bs_ ?_ (IsS91.ge HI0.out) | refine bs_ ?_ GE253.out | refine bs_ ?_ GE254.out) | exact HB.out)⟩⟩
/-! ### spec_l17Queue: function 58 -/
def spec_l17Queue.f (k : Nat) (s0_0 : List Int) (s0_1 : Int) (s0_2 : Int) : Option ((List (S60)) × List Int × List Int × (List (S60)) × Int × Int) := (spec_l16Queue.f k s0_0 s0_1 s0_2).bind fun bt274 => ((spec_l14Credits.f k s0_0 bt274.2.1 bt274.2.2).bind fun bt279 => (some (bt274.1, bt279.1, bt279.2.1, ([] : List (S60)), bt279.2.2.1, bt279.2.2.2)))
set_option maxHeartbeats 8000000 in
set_option maxRecDepth 100000 in
theorem spec_l17Queue.calls (k : Nat) (g : Nat) (s0_0 : List Int) (s0_1 : Int) (s0_2 : Int) (r1 : List (S60)) (r2 : List Int) (r3 : List Int) (r4 : List (S60)) (r5 : Int) (r6 : Int) (w0 w : World) (hI : IsS91 w0 w g s0_0 s0_1 s0_2) (hB : Below w0.heap.size w0 w) (h : spec_l17Queue.f k s0_0 s0_1 s0_2 = some (r1, r2, r3, r4, r5, r6)) :
  Calls Try.prog 58 #[.pointer (some ⟨g, 0, none⟩)] w fun e w' => ∃ v0_ v1_ v2_ v3_ : Value, e = .returned (.agg #[v0_, v1_, v2_, v3_]) ∧ Kd.S k60 60 w' w.heap.size (fun k_ => some k_ ≠ (v1_ : Value).ownBlock ∧ some k_ ≠ (v2_ : Value).ownBlock ∧ some k_ ≠ (v3_ : Value).ownBlock) v0_ r1 ∧ Kd.R (Kd.int .i64) 3 w' w.heap.size (fun k_ => some k_ ≠ (v2_ : Value).ownBlock) v1_ r2 ∧ Kd.R (Kd.int .i64) 3 w' w.heap.size (fun k_ => some k_ ≠ (v1_ : Value).ownBlock) v2_ r3 ∧ Kd.S k60 60 w' w.heap.size (fun k_ => some k_ ≠ (v0_ : Value).ownBlock ∧ some k_ ≠ (v1_ : Value).ownBlock ∧ some k_ ≠ (v2_ : Value).ownBlock) v3_ r4 ∧ IsS91 w0 w' g s0_0 r5 r6 ∧ Below w0.heap.size w0 w' ∧ KeepBut w w' g none := by
 have hu53 := Try.underlying53
 have HI0 := Aside0.mk hI
 have HK := Aside0.mk (KeepBut.refl w g none)
 have HL := Aside0.mk hB.size
 clear hI
 have HW0 := Aside0.mk hB.size
 have HB := Aside0.mk hB
 clear hB
 have H : ((spec_l16Queue.f k s0_0 s0_1 s0_2).bind fun bt274 => ((spec_l14Credits.f k s0_0 bt274.2.1 bt274.2.2).bind fun bt279 => (some (bt274.1, bt279.1, bt279.2.1, ([] : List (S60)), bt279.2.2.1, bt279.2.2.2)))) = some (r1, r2, r3, r4, r5, r6) := h
 clear h
 replace H := Option.bind_eq_some_iff.mp H
 obtain ⟨⟨t274, t277, t278⟩, A20, H⟩ := H
 replace H : ((spec_l14Credits.f k s0_0 t277 t278).bind fun bt279 => (some (t274, bt279.1, bt279.2.1, ([] : List (S60)), bt279.2.2.1, bt279.2.2.2))) = some (r1, r2, r3, r4, r5, r6) := H
 have A2 := Aside0.mk A20
 clear A20
 replace H := Option.bind_eq_some_iff.mp H
 obtain ⟨⟨t279, t282, t285, t286⟩, A30, H⟩ := H
 replace H : (some (t274, t279, t282, ([] : List (S60)), t285, t286)) = some (r1, r2, r3, r4, r5, r6) := H
 have A3 := Aside0.mk A30
 clear A30
 simp only [Option.some.injEq, Prod.mk.injEq] at H
 obtain ⟨rfl, rfl, rfl, rfl, rfl, rfl⟩ := H
 go_enter Try.func58, Try.ntmps58
 go_wp2_with (first | ((with_reducible refine gd_ (N := 2) rfl ?_); refine bx_ ?hg (N := 2) ?hd (cs := #[.slice none 0 0, .slice none 0 0, .slice none 0 0, .slice none 0 0]) (t := 53) ?hr ?_; (case hd => rfl); (case hg => rfl); (case hr => first | (go_simp; done) | (go_simp; rfl)); intro gb273 hg w4 hbox hb; have n0_ := Aside0.mk (IsS91.below (by repeat (first | (with_reducible first | exact HI0.out | apply IsS91.alloc | apply IsS91.drewN | apply IsS91.drew | apply IsS91.set_1 | apply IsS91.set_2) | exact HI0.out)) hb); have n1_ := Aside0.mk (KeepBut.trans (by repeat (first | (with_reducible first | exact HK.out | apply KeepBut.set_ | apply keep_drewN | apply keep_drew | apply keep_alloc) | exact HK.out)) (KeepBut.of_below hb g none) (.inl rfl)); have n2_ := Aside0.mk (bt_ (by repeat (first | (with_reducible first | exact HB.out | apply ba_ | apply bd_ | apply be_ | refine bs_ ?_ (IsS91.ge HI0.out)) | exact HB.out)) hb); have n3_ := Aside0.mk (hbox); have n4_ := Aside0.mk ((by rw [hg]; exact (keep_size (w := w) (g := g) (row := none) (by repeat (first | (with_reducible first | exact HK.out | apply KeepBut.set_ | apply keep_drewN | apply keep_drew | apply keep_alloc) | exact HK.out))) : w.heap.size ≤ gb273)); have n5_ := Aside0.mk ((Nat.le_trans HW0.out (by rw [hg]; exact (keep_size (w := w) (g := g) (row := none) (by repeat (first | (with_reducible first | exact HK.out | apply KeepBut.set_ | apply keep_drewN | apply keep_drew | apply keep_alloc) | exact HK.out))) : w.heap.size ≤ gb273) : w0.heap.size ≤ gb273)); have n6_ := Aside0.mk ((by rw [hg]; exact Nat.ne_of_lt (IsS91.lt (show IsS91 w0 _ g s0_0 s0_1 s0_2 from by repeat (first | (with_reducible first | exact HI0.out | apply IsS91.alloc | apply IsS91.drewN | apply IsS91.drew | apply IsS91.set_1 | apply IsS91.set_2) | exact HI0.out))) : g ≠ gb273)); have n7_ := Aside0.mk ((by rw [hg]; exact Nat.ne_of_gt (IsS91.lt (show IsS91 w0 _ g s0_0 s0_1 s0_2 from by repeat (first | (with_reducible first | exact HI0.out | apply IsS91.alloc | apply IsS91.drewN | apply IsS91.drew | apply IsS91.set_1 | apply IsS91.set_2) | exact HI0.out))) : gb273 ≠ g)); clear HI0 HK HB; have HI0 := n0_; have HK := n1_; have HB := n2_; have BK273 := n3_; have GW273 := n4_; have GE273 := n5_; have NB0_273 := n6_; have NB273_0 := n7_; clear n0_ n1_ n2_ n3_ n4_ n5_ n6_ n7_ hb hbox hg) | ((with_reducible refine gc_ (f := 53) rfl ?_); refine goesL_ (some 4) rfl rfl Try.func53 (by kernel_rfl) rfl #[.pointer (some ⟨g, 0, none⟩)] rfl (by (try simp only [List.map_toArray, List.map_cons, List.map_nil]); first | done | rfl) ?_; (with_reducible refine (spec_l16Queue.calls k g s0_0 s0_1 s0_2 t274 t277 t278 w0 _ ?side1 ?side2 A2.out).mono ?_); (case side1 => repeat (first | (with_reducible first | exact HI0.out | apply IsS91.alloc | apply IsS91.drewN | apply IsS91.drew | apply IsS91.set_1 | apply IsS91.set_2 | refine IsS91.far ?_ NB0_273.out _) | exact HI0.out)); (case side2 => repeat (first | (with_reducible first | exact HB.out | apply ba_ | apply bd_ | apply be_ | refine bs_ ?_ (IsS91.ge HI0.out) | refine bs_ ?_ GE273.out) | exact HB.out)); rintro e w5 ⟨v275, rfl, ho0, hi, hb, hk⟩; refine ⟨_, rfl, ?_⟩; have n0_ := Aside0.mk (KeepBut.blk hk (g' := gb273) (o := .cells #[.slice none 0 0, .slice none 0 0, .slice none 0 0, .slice none 0 0] 53 (0, 0)) (bY BK273.out) NB273_0.out (by simp)); have n1_ := Aside0.mk (Kd.S_lower ho0 (keep_size (w := w) (g := g) (row := none) (by repeat (first | (with_reducible first | exact HK.out | apply KeepBut.set_ | apply keep_drewN | apply keep_drew | apply keep_alloc | refine keep_far ?_ GW273.out _) | exact HK.out)))); have n2_ := Aside0.mk (KeepBut.trans (by repeat (first | (with_reducible first | exact HK.out | apply KeepBut.set_ | apply keep_drewN | apply keep_drew | apply keep_alloc | refine keep_far ?_ GW273.out _) | exact HK.out)) hk (.inl rfl)); have n3_ := Aside0.mk (hb); have n4_ := Aside0.mk (hi); clear BK273 HK HB HI0; have BK273 := n0_; have HO276 := n1_; have HK := n2_; have HB := n3_; have HI0 := n4_; clear n0_ n1_ n2_ n3_ n4_; (try clear hb); (try clear hb2); (try clear hk); (try clear hi); (try clear ho0)) | ((with_reducible refine gc_ (f := 80) rfl ?_); refine goesL_ (some 6) rfl rfl Try.func80 (by kernel_rfl) rfl #[.pointer (some ⟨g, 0, none⟩)] rfl (by (try simp only [List.map_toArray, List.map_cons, List.map_nil]); first | done | rfl) ?_; (with_reducible refine (spec_l14Credits.calls k g s0_0 t277 t278 t279 t282 t285 t286 w0 _ ?side1 ?side2 A3.out).mono ?_); (case side1 => repeat (first | (with_reducible first | exact HI0.out | apply IsS91.alloc | apply IsS91.drewN | apply IsS91.drew | apply IsS91.set_1 | apply IsS91.set_2 | refine IsS91.far ?_ NB0_273.out _) | exact HI0.out)); (case side2 => repeat (first | (with_reducible first | exact HB.out | apply ba_ | apply bd_ | apply be_ | refine bs_ ?_ (IsS91.ge HI0.out) | refine bs_ ?_ GE273.out) | exact HB.out)); rintro e w6 ⟨v280, v283, rfl, ho0, ho1, hi, hb, hk⟩; refine ⟨_, rfl, ?_⟩; have n0_ := Aside0.mk (KeepBut.blk hk (g' := gb273) (o := .cells #[.slice none 0 0, .slice none 0 0, .slice none 0 0, .slice none 0 0] 53 (0, 0)) (bY BK273.out) NB273_0.out (by simp)); have n1_ := Aside0.mk (Kd.S_mono (Kd.S_told (Kd.S_told (Kd.S_oldK (IsS91.apartS (show IsS91 w0 _ g s0_0 t277 t278 from by repeat (first | (with_reducible first | exact HI0.out | apply IsS91.alloc | apply IsS91.drewN | apply IsS91.drew | apply IsS91.set_1 | apply IsS91.set_2 | refine IsS91.far ?_ NB0_273.out _) | exact HI0.out)) (by (with_reducible repeat (first | apply Kd.S_alloc | apply Kd.S_drewN | apply Kd.S_drew)); exact HO276.out) (by decide)) hk) (Kd.R_base ho0)) (Kd.R_base ho1)) (fun _ h_ => h_.1)); have n2_ := Aside0.mk (Kd.R_lower ho0 (keep_size (w := w) (g := g) (row := none) (by repeat (first | (with_reducible first | exact HK.out | apply KeepBut.set_ | apply keep_drewN | apply keep_drew | apply keep_alloc | refine keep_far ?_ GW273.out _) | exact HK.out)))); have n3_ := Aside0.mk (Kd.R_lower ho1 (keep_size (w := w) (g := g) (row := none) (by repeat (first | (with_reducible first | exact HK.out | apply KeepBut.set_ | apply keep_drewN | apply keep_drew | apply keep_alloc | refine keep_far ?_ GW273.out _) | exact HK.out)))); have n4_ := Aside0.mk (KeepBut.trans (by repeat (first | (with_reducible first | exact HK.out | apply KeepBut.set_ | apply keep_drewN | apply keep_drew | apply keep_alloc | refine keep_far ?_ GW273.out _) | exact HK.out)) hk (.inl rfl)); have n5_ := Aside0.mk (hb); have n6_ := Aside0.mk (hi); clear BK273 HO276 HK HB HI0; have BK273 := n0_; have HO276 := n1_; have HO281 := n2_; have HO284 := n3_; have HK := n4_; have HB := n5_; have HI0 := n6_; clear n0_ n1_ n2_ n3_ n4_ n5_ n6_; (try clear hb); (try clear hb2); (try clear hk); (try clear hi); (try clear ho0); (try clear ho1); obtain ⟨Ao7, co7, eo7⟩ := Kd.R_slice HO284.out; subst eo7; obtain ⟨Ao8, co8, eo8⟩ := Kd.R_slice HO281.out; subst eo8; obtain ⟨Ao9, co9, eo9⟩ := Kd.S_slice HO276.out; subst eo9; have hnb10 := NB273_0.out; have hnc10 := NB0_273.out; have hcz11_0 : w6.cell? ⟨gb273, 0, none⟩ = some (.slice none 0 0) := (bc_ BK273.out 0).trans rfl; have hcz11_1 : w6.cell? ⟨gb273, 1, none⟩ = some (.slice none 0 0) := (bc_ BK273.out 1).trans rfl; have hcz11_2 : w6.cell? ⟨gb273, 2, none⟩ = some (.slice none 0 0) := (bc_ BK273.out 2).trans rfl; have hcz11_3 : w6.cell? ⟨gb273, 3, none⟩ = some (.slice none 0 0) := (bc_ BK273.out 3).trans rfl; have hfz11_0 := bf_ BK273.out 0; have hfz11_1 := bf_ BK273.out 1; have hfz11_2 := bf_ BK273.out 2; have hfz11_3 := bf_ BK273.out 3))
 refine bodyPost_ret (results_cell_row rfl _ _ gb273 53 #[.slice Ao9 t274.length co9, .slice Ao8 t279.length co8, .slice Ao7 t282.length co7, .slice none 0 0] (0, 0) _ rfl (by (repeat apply bX); refine bp_ (cs := #[.slice Ao9 t274.length co9, .slice Ao8 t279.length co8, .slice Ao7 t282.length co7, .slice none 0 0]) ?_ 3 _ rfl; (repeat apply bX); refine bp_ (cs := #[.slice Ao9 t274.length co9, .slice Ao8 t279.length co8, .slice none 0 0, .slice none 0 0]) ?_ 2 _ rfl; (repeat apply bX); refine bp_ (cs := #[.slice Ao9 t274.length co9, .slice none 0 0, .slice none 0 0, .slice none 0 0]) ?_ 1 _ rfl; (repeat apply bX); refine bp_ (cs := #[.slice none 0 0, .slice none 0 0, .slice none 0 0, .slice none 0 0]) ?_ 0 _ rfl; (repeat apply bX); exact BK273.out) Try.underlying53 rfl (by kernel_rfl)) rfl ?_
 exact ⟨_, _, _, _, by first | rfl | (simp [errW_none, errW_some] <;> rfl) | (simp [*, errW_none, errW_some] <;> rfl), by (with_reducible repeat (first | apply Kd.S_alloc | apply Kd.S_drewN | apply Kd.S_drew)); exact Kd.S_mono (Kd.S_far (p := ⟨gb273, 3, none⟩) (Kd.S_far (p := ⟨gb273, 2, none⟩) (Kd.S_far (p := ⟨gb273, 1, none⟩) (Kd.S_far (p := ⟨gb273, 0, none⟩) (Kd.S_types HO276.out BK273.out (by decide)) (fun _ hk => hk.2) (.slice Ao9 t274.length co9)) (fun _ hk => hk.2) (.slice Ao8 t279.length co8)) (fun _ hk => hk.2) (.slice Ao7 t282.length co7)) (fun _ hk => hk.2) (.slice none 0 0)) (fun _ hk => ⟨hk.1.1.2, ⟨hk.1.2, (by simp [Value.ownBlock])⟩⟩), by (repeat apply rX); exact Kd.R_mono (Kd.R_far (p := ⟨gb273, 3, none⟩) (Kd.R_far (p := ⟨gb273, 2, none⟩) (Kd.R_far (p := ⟨gb273, 1, none⟩) (Kd.R_far (p := ⟨gb273, 0, none⟩) (Kd.R_types HO281.out BK273.out (by decide)) (fun _ hk => hk.2) (.slice Ao9 t274.length co9)) (fun _ hk => hk.2) (.slice Ao8 t279.length co8)) (fun _ hk => hk.2) (.slice Ao7 t282.length co7)) (fun _ hk => hk.2) (.slice none 0 0)) (fun _ hk => hk.1), by (repeat apply rX); exact Kd.R_mono (Kd.R_far (p := ⟨gb273, 3, none⟩) (Kd.R_far (p := ⟨gb273, 2, none⟩) (Kd.R_far (p := ⟨gb273, 1, none⟩) (Kd.R_far (p := ⟨gb273, 0, none⟩) (Kd.R_types HO284.out BK273.out (by decide)) (fun _ hk => hk.2) (.slice Ao9 t274.length co9)) (fun _ hk => hk.2) (.slice Ao8 t279.length co8)) (fun _ hk => hk.2) (.slice Ao7 t282.length co7)) (fun _ hk => hk.2) (.slice none 0 0)) (fun _ hk => hk.1), by first | exact Kd.S_nil _ _ _ _ _ | exact Kd.N_nil _ _ _ _ _ | exact Kd.V_nil _ _ _ _ _ | exact Kd.Q_nil _ _ _ _ _ | exact Kd.R_nil _ _ _ _ _, by repeat (first | (with_reducible first | exact HI0.out | apply IsS91.alloc | apply IsS91.drewN | apply IsS91.drew | apply IsS91.set_1 | apply IsS91.set_2 | refine IsS91.far ?_ NB0_273.out _) | exact HI0.out), by repeat (first | (with_reducible first | exact HB.out | apply ba_ | apply bd_ | apply be_ | refine bs_ ?_ (IsS91.ge HI0.out) | refine bs_ ?_ GE273.out) | exact HB.out), by repeat (first | (with_reducible first | exact HK.out | apply KeepBut.set_ | apply keep_drewN | apply keep_drew | apply keep_alloc | refine keep_far ?_ GW273.out _) | exact HK.out)⟩
/-! ### spec_DrawWaiting: function 30 -/
def spec_DrawWaiting.f (k : Nat) (l0 : List Int) : Option ((List (S60)) × List Int × List Int × (List (S60))) := (spec_l01New.f k l0).bind fun bt288 => ((spec_l17Queue.f k bt288.1 bt288.2.1 bt288.2.2).bind fun bt292 => (some (bt292.1, bt292.2.1, bt292.2.2.1, bt292.2.2.2.1)))
set_option maxHeartbeats 8000000 in
set_option maxRecDepth 100000 in
theorem spec_DrawWaiting.calls (k : Nat) (A0 : Option Addr) (c0 : Nat) (l0 : List Int) (r1 : List (S60)) (r2 : List Int) (r3 : List Int) (r4 : List (S60)) (w : World) (hr0 : Kd.C (Kd.int .u8) w A0 l0.length l0) (hc0 : l0.length ≤ c0) (h : spec_DrawWaiting.f k l0 = some (r1, r2, r3, r4)) :
  Calls Try.prog 30 #[.slice A0 l0.length c0] w fun e w' => ∃ v0_ v1_ v2_ v3_ : Value, e = .returned (.agg #[v0_, v1_, v2_, v3_]) ∧ Kd.S k60 60 w' w.heap.size (fun k_ => some k_ ≠ (v1_ : Value).ownBlock ∧ some k_ ≠ (v2_ : Value).ownBlock ∧ some k_ ≠ (v3_ : Value).ownBlock) v0_ r1 ∧ Kd.R (Kd.int .i64) 3 w' w.heap.size (fun k_ => some k_ ≠ (v2_ : Value).ownBlock) v1_ r2 ∧ Kd.R (Kd.int .i64) 3 w' w.heap.size (fun k_ => some k_ ≠ (v1_ : Value).ownBlock) v2_ r3 ∧ Kd.S k60 60 w' w.heap.size (fun k_ => some k_ ≠ (v0_ : Value).ownBlock ∧ some k_ ≠ (v1_ : Value).ownBlock ∧ some k_ ≠ (v2_ : Value).ownBlock) v3_ r4 ∧ Below w.heap.size w w' := by
 have hu53 := Try.underlying53
 have HR0 := Aside0.mk hr0
 have HC0 := Aside0.mk hc0
 clear hr0 hc0
 have HB := Aside0.mk (Below.refl w.heap.size w)
 have H : ((spec_l01New.f k l0).bind fun bt288 => ((spec_l17Queue.f k bt288.1 bt288.2.1 bt288.2.2).bind fun bt292 => (some (bt292.1, bt292.2.1, bt292.2.2.1, bt292.2.2.2.1)))) = some (r1, r2, r3, r4) := h
 clear h
 replace H := Option.bind_eq_some_iff.mp H
 obtain ⟨⟨t288, t289, t290⟩, A20, H⟩ := H
 replace H : ((spec_l17Queue.f k t288 t289 t290).bind fun bt292 => (some (bt292.1, bt292.2.1, bt292.2.2.1, bt292.2.2.2.1))) = some (r1, r2, r3, r4) := H
 have A2 := Aside0.mk A20
 clear A20
 replace H := Option.bind_eq_some_iff.mp H
 obtain ⟨⟨t292, t295, t298, t301, t304, t305⟩, A30, H⟩ := H
 replace H : (some (t292, t295, t298, t301)) = some (r1, r2, r3, r4) := H
 have A3 := Aside0.mk A30
 clear A30
 simp only [Option.some.injEq, Prod.mk.injEq] at H
 obtain ⟨rfl, rfl, rfl, rfl⟩ := H
 go_enter Try.func30, Try.ntmps30
 go_wp2_with (first | ((with_reducible refine gd_ (N := 2) rfl ?_); refine bx_ ?hg (N := 2) ?hd (cs := #[.slice none 0 0, .slice none 0 0, .slice none 0 0, .slice none 0 0]) (t := 53) ?hr ?_; (case hd => rfl); (case hg => rfl); (case hr => first | (go_simp; done) | (go_simp; rfl)); intro gb287 hg w4 hbox hb; have n0_ := Aside0.mk (bt_ (beY HB.out) hb); have n1_ := Aside0.mk (hbox); have n2_ := Aside0.mk ((by rw [hg]; exact (bz_ (beY HB.out)) : w.heap.size ≤ gb287)); have n3_ := Aside0.mk ((by rw [hg]; exact (bz_ (beY HB.out)) : w.heap.size ≤ gb287)); clear HB; have HB := n0_; have BK287 := n1_; have GW287 := n2_; have GE287 := n3_; clear n0_ n1_ n2_ n3_ hb hbox hg) | ((with_reducible refine gc_ (f := 54) rfl ?_); refine goesL_ (some 4) rfl rfl Try.func54 (by kernel_rfl) rfl #[.slice A0 l0.length c0] rfl (by (try simp only [List.map_toArray, List.map_cons, List.map_nil]); first | done | rfl) ?_; (with_reducible refine (spec_l01New.calls k _ _ l0 t288 t289 t290 w _ ?side1 ?side2 ?side3 A2.out).mono ?_); (case side1 => repeat (first | (with_reducible first | exact HB.out | apply ba_ | apply bd_ | apply be_ | refine bs_ ?_ GE287.out) | exact HB.out)); (case side2 => exact HR0.out); (case side3 => exact HC0.out); rintro e w5 ⟨g291, rfl, hi, hb, hb2⟩; refine ⟨_, rfl, ?_⟩; have n0_ := Aside0.mk (bb_ (bY BK287.out) hb2); have n1_ := Aside0.mk (hb); have n2_ := Aside0.mk (hi); have n3_ := Aside0.mk (IsS91.ne_blk hi (bb_ (bY BK287.out) hb2) (by decide)); have n4_ := Aside0.mk (Ne.symm (IsS91.ne_blk hi (bb_ (bY BK287.out) hb2) (by decide))); clear BK287 HB; have BK287 := n0_; have HB := n1_; have HI291 := n2_; have NB291_287 := n3_; have NB287_291 := n4_; clear n0_ n1_ n2_ n3_ n4_; (try clear hb); (try clear hb2); (try clear hk); (try clear hi)) | ((with_reducible refine gc_ (f := 58) rfl ?_); refine goesL_ (some 5) rfl rfl Try.func58 (by kernel_rfl) rfl #[.pointer (some ⟨g291, 0, none⟩)] rfl (by (try simp only [List.map_toArray, List.map_cons, List.map_nil]); first | done | rfl) ?_; (with_reducible refine (spec_l17Queue.calls k g291 t288 t289 t290 t292 t295 t298 t301 t304 t305 w _ ?side1 ?side2 A3.out).mono ?_); (case side1 => repeat (first | (with_reducible first | exact HI291.out | apply IsS91.alloc | apply IsS91.drewN | apply IsS91.drew | apply IsS91.set_1 | apply IsS91.set_2 | refine IsS91.far ?_ NB291_287.out _) | exact HI291.out)); (case side2 => repeat (first | (with_reducible first | exact HB.out | apply ba_ | apply bd_ | apply be_ | refine bs_ ?_ (IsS91.ge HI291.out) | refine bs_ ?_ GE287.out) | exact HB.out)); rintro e w6 ⟨v293, v296, v299, v302, rfl, ho0, ho1, ho2, ho3, hi, hb, hk⟩; refine ⟨_, rfl, ?_⟩; have n0_ := Aside0.mk (KeepBut.blk hk (g' := gb287) (o := .cells #[.slice none 0 0, .slice none 0 0, .slice none 0 0, .slice none 0 0] 53 (0, 0)) (bY BK287.out) NB287_291.out (by simp)); have n1_ := Aside0.mk (Kd.S_lower ho0 (bz_ (by repeat (first | (with_reducible first | exact HB.out | apply ba_ | apply bd_ | apply be_ | refine bs_ ?_ (IsS91.ge HI291.out) | refine bs_ ?_ GE287.out) | exact HB.out)))); have n2_ := Aside0.mk (Kd.R_lower ho1 (bz_ (by repeat (first | (with_reducible first | exact HB.out | apply ba_ | apply bd_ | apply be_ | refine bs_ ?_ (IsS91.ge HI291.out) | refine bs_ ?_ GE287.out) | exact HB.out)))); have n3_ := Aside0.mk (Kd.R_lower ho2 (bz_ (by repeat (first | (with_reducible first | exact HB.out | apply ba_ | apply bd_ | apply be_ | refine bs_ ?_ (IsS91.ge HI291.out) | refine bs_ ?_ GE287.out) | exact HB.out)))); have n4_ := Aside0.mk (Kd.S_lower ho3 (bz_ (by repeat (first | (with_reducible first | exact HB.out | apply ba_ | apply bd_ | apply be_ | refine bs_ ?_ (IsS91.ge HI291.out) | refine bs_ ?_ GE287.out) | exact HB.out)))); have n5_ := Aside0.mk (hb); have n6_ := Aside0.mk (hi); clear BK287 HB HI291; have BK287 := n0_; have HO294 := n1_; have HO297 := n2_; have HO300 := n3_; have HO303 := n4_; have HB := n5_; have HI291 := n6_; clear n0_ n1_ n2_ n3_ n4_ n5_ n6_; (try clear hb); (try clear hb2); (try clear hk); (try clear hi); (try clear ho0); (try clear ho1); (try clear ho2); (try clear ho3); obtain ⟨Ao7, co7, eo7⟩ := Kd.S_slice HO294.out; subst eo7; have hnb8 := NB287_291.out; have hnc8 := NB291_287.out; have hcz9_0 : w6.cell? ⟨gb287, 0, none⟩ = some (.slice none 0 0) := (bc_ BK287.out 0).trans rfl; have hcz9_1 : w6.cell? ⟨gb287, 1, none⟩ = some (.slice none 0 0) := (bc_ BK287.out 1).trans rfl; have hcz9_2 : w6.cell? ⟨gb287, 2, none⟩ = some (.slice none 0 0) := (bc_ BK287.out 2).trans rfl; have hcz9_3 : w6.cell? ⟨gb287, 3, none⟩ = some (.slice none 0 0) := (bc_ BK287.out 3).trans rfl; have hfz9_0 := bf_ BK287.out 0; have hfz9_1 := bf_ BK287.out 1; have hfz9_2 := bf_ BK287.out 2; have hfz9_3 := bf_ BK287.out 3; obtain ⟨Ao10, co10, eo10⟩ := Kd.R_slice HO297.out; subst eo10; obtain ⟨Ao11, co11, eo11⟩ := Kd.R_slice HO300.out; subst eo11; obtain ⟨Ao12, co12, eo12⟩ := Kd.S_slice HO303.out; subst eo12))
 refine bodyPost_ret (results_cell_row rfl _ _ gb287 53 #[.slice Ao7 t292.length co7, .slice Ao10 t295.length co10, .slice Ao11 t298.length co11, .slice Ao12 t301.length co12] (0, 0) _ rfl (by (repeat apply bX); refine bp_ (cs := #[.slice Ao7 t292.length co7, .slice Ao10 t295.length co10, .slice Ao11 t298.length co11, .slice none 0 0]) ?_ 3 _ rfl; (repeat apply bX); refine bp_ (cs := #[.slice Ao7 t292.length co7, .slice Ao10 t295.length co10, .slice none 0 0, .slice none 0 0]) ?_ 2 _ rfl; (repeat apply bX); refine bp_ (cs := #[.slice Ao7 t292.length co7, .slice none 0 0, .slice none 0 0, .slice none 0 0]) ?_ 1 _ rfl; (repeat apply bX); refine bp_ (cs := #[.slice none 0 0, .slice none 0 0, .slice none 0 0, .slice none 0 0]) ?_ 0 _ rfl; (repeat apply bX); exact BK287.out) Try.underlying53 rfl (by kernel_rfl)) rfl ?_
 exact ⟨_, _, _, _, by first | rfl | (simp [errW_none, errW_some] <;> rfl) | (simp [*, errW_none, errW_some] <;> rfl), by (with_reducible repeat (first | apply Kd.S_alloc | apply Kd.S_drewN | apply Kd.S_drew)); exact Kd.S_mono (Kd.S_far (p := ⟨gb287, 3, none⟩) (Kd.S_far (p := ⟨gb287, 2, none⟩) (Kd.S_far (p := ⟨gb287, 1, none⟩) (Kd.S_far (p := ⟨gb287, 0, none⟩) (Kd.S_types HO294.out BK287.out (by decide)) (fun _ hk => hk.2) (.slice Ao7 t292.length co7)) (fun _ hk => hk.2) (.slice Ao10 t295.length co10)) (fun _ hk => hk.2) (.slice Ao11 t298.length co11)) (fun _ hk => hk.2) (.slice Ao12 t301.length co12)) (fun _ hk => ⟨hk.1.1, ⟨hk.1.2.1, hk.1.2.2⟩⟩), by (repeat apply rX); exact Kd.R_mono (Kd.R_far (p := ⟨gb287, 3, none⟩) (Kd.R_far (p := ⟨gb287, 2, none⟩) (Kd.R_far (p := ⟨gb287, 1, none⟩) (Kd.R_far (p := ⟨gb287, 0, none⟩) (Kd.R_types HO297.out BK287.out (by decide)) (fun _ hk => hk.2) (.slice Ao7 t292.length co7)) (fun _ hk => hk.2) (.slice Ao10 t295.length co10)) (fun _ hk => hk.2) (.slice Ao11 t298.length co11)) (fun _ hk => hk.2) (.slice Ao12 t301.length co12)) (fun _ hk => hk.1), by (repeat apply rX); exact Kd.R_mono (Kd.R_far (p := ⟨gb287, 3, none⟩) (Kd.R_far (p := ⟨gb287, 2, none⟩) (Kd.R_far (p := ⟨gb287, 1, none⟩) (Kd.R_far (p := ⟨gb287, 0, none⟩) (Kd.R_types HO300.out BK287.out (by decide)) (fun _ hk => hk.2) (.slice Ao7 t292.length co7)) (fun _ hk => hk.2) (.slice Ao10 t295.length co10)) (fun _ hk => hk.2) (.slice Ao11 t298.length co11)) (fun _ hk => hk.2) (.slice Ao12 t301.length co12)) (fun _ hk => hk.1), by (with_reducible repeat (first | apply Kd.S_alloc | apply Kd.S_drewN | apply Kd.S_drew)); exact Kd.S_mono (Kd.S_far (p := ⟨gb287, 3, none⟩) (Kd.S_far (p := ⟨gb287, 2, none⟩) (Kd.S_far (p := ⟨gb287, 1, none⟩) (Kd.S_far (p := ⟨gb287, 0, none⟩) (Kd.S_types HO303.out BK287.out (by decide)) (fun _ hk => hk.2) (.slice Ao7 t292.length co7)) (fun _ hk => hk.2) (.slice Ao10 t295.length co10)) (fun _ hk => hk.2) (.slice Ao11 t298.length co11)) (fun _ hk => hk.2) (.slice Ao12 t301.length co12)) (fun _ hk => ⟨hk.1.1, ⟨hk.1.2.1, hk.1.2.2⟩⟩), by repeat (first | (with_reducible first | exact HB.out | apply ba_ | apply bd_ | apply be_ | refine bs_ ?_ (IsS91.ge HI291.out) | refine bs_ ?_ GE287.out) | exact HB.out)⟩
/-! ### impl_within: function 55 -/
def impl_within.f (a0 : Int) (a1 : Int) (a2 : Int) : Option (Bool) := if a0 ≥ a1 then (some (decide (a0 ≤ a2))) else (some false)
set_option maxHeartbeats 8000000 in
set_option maxRecDepth 100000 in
theorem impl_within.calls (a0 : Int) (a1 : Int) (a2 : Int) (r : Bool) (w : World) (h : impl_within.f a0 a1 a2 = some r) :
  Calls Try.prog 55 #[.int .i64 a0, .int .i64 a1, .int .i64 a2] w fun e w' => e = .returned (.bool r) ∧ Drawn0 w w' := by
 have H : (if a0 ≥ a1 then (some (decide (a0 ≤ a2))) else (some false)) = some r := h
 clear h
 by_cases c4 : a0 ≥ a1
 ·rw [if_pos c4] at H
  have c4b0 : decide (a1 ≤ a0) = true := decide_eq_true c4
  clear c4
  obtain rfl := Option.some.inj H
  go_enter Try.func55, Try.ntmps55
  go_wp2
  go_ret
  exact ⟨by first | rfl | (simp; done) | (simp [*]; done), by repeat (first | exact Drawn0.refl _ | apply Drawn0.step)⟩
 ·rw [if_neg c4] at H
  have c4b0 : decide (a1 ≤ a0) = false := decide_eq_false c4
  clear c4
  obtain rfl := Option.some.inj H
  go_enter Try.func55, Try.ntmps55
  go_wp2
  go_ret
  exact ⟨by first | rfl | (simp; done) | (simp [*]; done), by repeat (first | exact Drawn0.refl _ | apply Drawn0.step)⟩

/-! ### impl_areCredits_1: function 91 -/
def impl_areCredits_1.f (a0 : Int) : Option (Bool) := (impl_within.f a0 0 30).bind fun t306 => (some (!t306))
set_option maxHeartbeats 8000000 in
set_option maxRecDepth 100000 in
theorem impl_areCredits_1.calls (a0 : Int) (r : Bool) (w : World) (h : impl_areCredits_1.f a0 = some r) :
  Calls Try.prog 91 #[.int .i64 a0] w fun e w' => e = .returned (.bool r) ∧ Drawn0 w w' := by
 have H : ((impl_within.f a0 0 30).bind fun t306 => (some (!t306))) = some r := h
 clear h
 replace H := Option.bind_eq_some_iff.mp H
 obtain ⟨t306, A20, H⟩ := H
 have A2 := Aside0.mk A20
 clear A20
 obtain rfl := Option.some.inj H
 go_enter Try.func91, Try.ntmps91
 go_wp2_with (first | ((with_reducible refine gc_ (f := 55) rfl ?_); refine goesL_ (some 4) rfl rfl Try.func55 (by kernel_rfl) rfl #[.int .i64 a0, .int .i64 0, .int .i64 30] rfl (by (try simp only [List.map_toArray, List.map_cons, List.map_nil]); first | done | rfl) ?_; (with_reducible refine (impl_within.calls a0 0 30 t306 _ A2.out).mono ?_); rintro e w' ⟨rfl, ⟨nd, rfl⟩⟩; refine ⟨_, rfl, ?_⟩))
 go_ret
 exact ⟨by first | rfl | (simp; done) | (simp [*]; done), by repeat (first | exact Drawn0.refl _ | apply Drawn0.step)⟩

end Go.Proofs.Ytbdehpmfemgooaa.PFnBlocked
