-- Written by a program of this session (wip/xp): not trusted, Lean checks it.
import Derived.Test.YtbdehpmfemgooaaPFnQueuesx0
import Derived.Test.YtbdehpmfemgooaaPFnQueuesx1
import Derived.Test.YtbdehpmfemgooaaPFnQueuesx5
import Derived.Test.YtbdehpmfemgooaaPFnQueuesx8
import Derived.Test.YtbdehpmfemgooaaPFnQueuesx9
import Derived.Test.YtbdehpmfemgooaaPFnQueuesx12
import Derived.Test.YtbdehpmfemgooaaPFnQueuesx14
import Derived.Test.YtbdehpmfemgooaaPFnQueuesx15
namespace Go.Proofs.Ytbdehpmfemgooaa.PFnQueues
open Go.RowKit Go.Proofs.YtbdehpmfemgooaaW.PrintWords Go.Proofs.YtbdehpmfemgooaaW.PrintLast Go.Proofs.YtbdehpmfemgooaaW.PrintMore
attribute [local go_sem] max2_int min2_int max_two min_two max_three min_three max_four min_four   -- for this text's walks alone
set_option linter.unusedVariables false
set_option linter.unusedSimpArgs false

/-! ### laws_FnQueues: function 6 -/
mutual
def laws_FnQueues.l0 : Nat → List (S60) → List Int → Int → List (S60) → List Int → List Int → List (S60) → Option (Bool)
 | 0, _, _, _, _, _, _, _ => none
 | k + 1, x4, x5, x6, x488000, x488001, x488002, x488003 => if x6 < (x4.length : Int) then (if x5.length < 17592186044416 then (laws_FnQueues.l0 k x4 (x5 ++ [x6]) (wrap64 (x6 + 1)) x488000 x488001 x488002 x488003) else (none)) else (laws_FnQueues.l1 k x4 x5 (([] : List Int)) 0 x488000 x488001 x488002 x488003)
def laws_FnQueues.l1 : Nat → List (S60) → List Int → List Int → Int → List (S60) → List Int → List Int → List (S60) → Option (Bool)
 | 0, _, _, _, _, _, _, _, _ => none
 | k + 1, x4, x5, x7, x8, x488000, x488001, x488002, x488003 => if x8 < (x4.length : Int) then ((impl_NextOut.f k x488000 x488001 x488002 x488003).bind fun t502 => (if t502 < 0 then ((impl_NextOut.f k x488000 x488001 x488002 x488003).bind fun t503 => (if t503 < 0 then (if (x488000.length : Int) = (x5.length : Int) then (if x7.length + x5.length < 17592186044416 then ((impl_IsLegalOrder.f k x4 (x7 ++ x5)).bind fun t507 => (some t507)) else (none)) else (some false)) else (some false))) else ((impl_ForwardNext.f k x488000 x488001 x488002 x488003).bind fun bt508 => (if bt508.2.2.2.2 = true then (if t502 ≥ (x5.length : Int) then (some false) else (if (bt508.2.2.2.1.length : Int) = (wrap64 ((x7.length : Int) + 1)) then (if 0 ≤ (x7.length : Int) then (if (x7.length : Int) < (bt508.2.2.2.1.length : Int) then (if 0 ≤ t502 then (if t502 < (x5.length : Int) then (if 0 ≤ (rd x5 t502) then (if (rd x5 t502) < (x4.length : Int) then ((impl_SamePacket.f k ((rd_T60 bt508.2.2.2.1 (x7.length : Int)).f0) ((rd_T60 bt508.2.2.2.1 (x7.length : Int)).f1) ((rd_T60 bt508.2.2.2.1 (x7.length : Int)).f2) ((rd_T60 bt508.2.2.2.1 (x7.length : Int)).f3) ((rd_T60 bt508.2.2.2.1 (x7.length : Int)).f4) ((rd_T60 bt508.2.2.2.1 (x7.length : Int)).f5) ((rd_T60 bt508.2.2.2.1 (x7.length : Int)).f6) ((rd_T60 bt508.2.2.2.1 (x7.length : Int)).f7) ((rd_T60 x4 (rd x5 t502)).f0) ((rd_T60 x4 (rd x5 t502)).f1) ((rd_T60 x4 (rd x5 t502)).f2) ((rd_T60 x4 (rd x5 t502)).f3) ((rd_T60 x4 (rd x5 t502)).f4) ((rd_T60 x4 (rd x5 t502)).f5) ((rd_T60 x4 (rd x5 t502)).f6) ((rd_T60 x4 (rd x5 t502)).f7)).bind fun t525 => (if t525 = true then ((impl_QueueOk.f k bt508.1 bt508.2.1 bt508.2.2.1 bt508.2.2.2.1).bind fun t526 => (if t526 = true then (if x7.length < 17592186044416 then ((some (([] : List Int) : List Int)).bind fun y531 => (if t502 ≤ (x5.length : Int) then ((some (x5.take (t502 : Int).toNat : List Int)).bind fun y534 => (if y531.length + y534.length < 17592186044416 then ((some (y531 ++ y534 : List Int)).bind fun y539 => (if 0 ≤ (wrap64 (t502 + 1)) then (if (wrap64 (t502 + 1)) ≤ (x5.length : Int) then ((some (x5.drop ((wrap64 (t502 + 1)) : Int).toNat : List Int)).bind fun y542 => (if y539.length + y542.length < 17592186044416 then (laws_FnQueues.l1 k x4 (y539 ++ y542) (x7 ++ [rd x5 t502]) (wrap64 (x8 + 1)) bt508.1 bt508.2.1 bt508.2.2.1 bt508.2.2.2.1) else (none))) else (none)) else (none))) else (none))) else (none))) else (none)) else (some false))) else (some false))) else (none)) else (none)) else (none)) else (none)) else (none)) else (none)) else (some false))) else (some false))))) else ((impl_NextOut.f k x488000 x488001 x488002 x488003).bind fun t497 => (if t497 < 0 then (if (x488000.length : Int) = (x5.length : Int) then (if x7.length + x5.length < 17592186044416 then ((impl_IsLegalOrder.f k x4 (x7 ++ x5)).bind fun t501 => (some t501)) else (none)) else (some false)) else (some false)))
end
def laws_FnQueues.f (k : Nat) (l0 : List Int) : Option (Bool) := (laws_big.f l0).bind fun t474 => (if t474 = true then (some true) else ((spec_DrawWaiting.f k l0).bind fun bt475 => (laws_FnQueues.l0 k bt475.1 (([] : List Int)) 0 bt475.1 bt475.2.1 bt475.2.2.1 bt475.2.2.2)))
def laws_FnQueues.T17 : Bool × List (List Nat × List Nat) := (true, [([], []), ([0], [0]), ([1], [1]), ([2], [2]), ([2], [2]), ([4, 2], [2, 4]), ([3, 5, 2], [2, 3, 5]), ([2, 6], [2, 6]), ([7, 2], [7]), ([8], [8]), ([9, 8], [8, 9]), ([10, 8], [8, 10]), ([8], [8]), ([12, 8], [8, 12]), ([13, 8], [8, 13]), ([11, 14, 8], [8, 11, 14]), ([8, 15], [8, 15]), ([16, 8], [16]), ([17], [17]), ([18, 17], [17, 18]), ([17], [17]), ([20, 17], [17, 20]), ([19, 21, 17], [17, 19, 21]), ([22, 17], [17, 22]), ([17], [17]), ([17], [17]), ([17], [17]), ([25, 26, 17], [17, 25, 26]), ([27, 17], [17, 27]), ([24, 28, 17], [17, 24, 28]), ([29, 17], [17, 29]), ([23, 30, 17, 17], [17, 23, 30]), ([31, 17], [17, 31]), ([17, 32], [17, 32]), ([33, 31], [33]), ([34], [34]), ([35, 34, 34], [34, 35]), ([36, 34], [34, 36]), ([34, 37], [34, 37])])
def laws_FnQueues.B17 : List Nat := [0, 1, 3, 7, 7, 23, 63, 127, 255, 511, 1023, 2047, 511, 4607, 12799, 32767, 65535, 131071, 262143, 524287, 262143, 1310719, 4194303, 8388607, 262143, 262143, 262143, 100925439, 235143167, 520355839, 1057226751, 2147483647, 4294967295, 8589934591, 17179869183, 34359738367, 68719476735, 137438953471, 274877906943]
theorem laws_FnQueues.tab17 : rtab .any (opsOf Try.f6 17) = laws_FnQueues.T17 := by kernel_rfl
theorem laws_FnQueues.bits17 : waitsOk laws_FnQueues.T17.2 laws_FnQueues.B17 = true := by kernel_rfl
def laws_FnQueues.T20 : Bool × List (List Nat × List Nat) := (true, [([], []), ([], []), ([], []), ([1, 2], [1, 2]), ([0, 3], [0, 3]), ([], []), ([], []), ([6], [6]), ([5, 7], [5, 7]), ([4, 8, 4], [4, 8]), ([9, 9, 0, 1, 2, 3, 4, 5, 6, 7, 8, 9], [1, 5, 9])])
def laws_FnQueues.B20 : List Nat := [0, 0, 0, 6, 15, 0, 0, 64, 224, 511, 1023]
theorem laws_FnQueues.tab20 : rtab .any (opsOf Try.f6 20) = laws_FnQueues.T20 := by kernel_rfl
theorem laws_FnQueues.bits20 : waitsOk laws_FnQueues.T20.2 laws_FnQueues.B20 = true := by kernel_rfl
set_option maxHeartbeats 8000000 in
set_option maxRecDepth 100000 in
theorem laws_FnQueues.calls (k : Nat) (A0 : Option Addr) (c0 : Nat) (l0 : List Int) (r : Bool) (w : World) (hr0 : Kd.C (Kd.int .u8) w A0 l0.length l0) (hc0 : l0.length ≤ c0) (hrt : A_ (r = true)) (h : laws_FnQueues.f k l0 = some r) :
  Calls Try.prog 6 #[.slice A0 l0.length c0] w fun e w' => e = .returned (.bool r) ∧ Below w.heap.size w w' := by
 have hu53 := Try.underlying53
 have hu60 := Try.underlying60
 have HR0 := A_.mk hr0
 have HC0 := A_.mk hc0
 clear hr0 hc0
 have HB := A_.mk (Below.refl w.heap.size w)
 have H : ((laws_big.f l0).bind fun t474 => (if t474 = true then (some true) else ((spec_DrawWaiting.f k l0).bind fun bt475 => (laws_FnQueues.l0 k bt475.1 (([] : List Int)) 0 bt475.1 bt475.2.1 bt475.2.2.1 bt475.2.2.2)))) = some r := h
 clear h
 replace H := ob_ H
 obtain ⟨t474, A20, H⟩ := H
 have A2 := A_.mk A20
 clear A20
 by_cases c3 : t474 = true
 ·subst c3
  have H1 : (some true) = some r := by rw [if_pos rfl] at H; exact H
  clear H
  have H := H1
  clear H1
  obtain rfl := Option.some.inj H
  go_enter Try.func6, Try.ntmps6
  go_wp2_with (first | ((with_reducible refine gc_ (f := 26) rfl ?_); refine gl_ (some 13) Try.func26 #[.slice A0 l0.length c0] ?_; (with_reducible refine (laws_big.calls _ _ l0 true _ ?side1 ?side2 A2.out).mono ?_); (case side1 => exact cY (HR0.out)); (case side2 => exact HC0.out); rintro e w' ⟨rfl, ⟨nd, rfl⟩⟩; refine ⟨_, rfl, ?_⟩))
  go_ret
  exact ⟨by first | rfl | (simp [errW_none, errW_some] <;> rfl) | (simp [*, errW_none, errW_some] <;> rfl), beY HB.out⟩
 replace c3 := Bool.eq_false_iff.mpr c3
 subst c3
 have H1 : ((spec_DrawWaiting.f k l0).bind fun bt475 => (laws_FnQueues.l0 k bt475.1 (([] : List Int)) 0 bt475.1 bt475.2.1 bt475.2.2.1 bt475.2.2.2)) = some r := by rw [if_neg (show ¬ (false = true) by decide)] at H; exact H
 clear H
 have H := H1
 clear H1
 replace H := ob_ H
 obtain ⟨⟨t475, t478, t481, t484⟩, A40, H⟩ := H
 replace H : (laws_FnQueues.l0 k t475 (([] : List Int)) 0 t475 t478 t481 t484) = some r := H
 have A4 := A_.mk A40
 clear A40
 obtain ⟨y488, hy488⟩ : ∃ y_ : List Int, y_ = (([] : List Int)) := ⟨_, rfl⟩
 replace H : (laws_FnQueues.l0 k t475 y488 0 t475 t478 t481 t484) = some r := by first | (rw [hy488]; with_reducible exact H) | (have H2_ := (Option.bind_some _ _).symm.trans H; rw [hy488]; with_reducible exact H2_) | (have H2_ := (Option.bind_some _ _).symm.trans H; with_reducible exact H2_) | with_reducible exact H | (rw [hy488]; exact H) | exact H
 have Ny488 := A_.mk hy488
 clear hy488
 have H' := A_.mk H
 clear H
 go_enter Try.func6, Try.ntmps6
 go_wp2_with (first | ((with_reducible refine gc_ (f := 26) rfl ?_); refine gl_ (some 13) Try.func26 #[.slice A0 l0.length c0] ?_; (with_reducible refine (laws_big.calls _ _ l0 false _ ?side1 ?side2 A2.out).mono ?_); (case side1 => exact cY (HR0.out)); (case side2 => exact HC0.out); rintro e w' ⟨rfl, ⟨nd, rfl⟩⟩; refine ⟨_, rfl, ?_⟩) | ((with_reducible refine gc_ (f := 30) rfl ?_); refine gl_ (some 15) Try.func30 #[.slice A0 l0.length c0] ?_; (with_reducible refine (spec_DrawWaiting.calls k _ _ l0 t475 t478 t481 t484 _ ?side1 ?side2 A4.out).mono ?_); (case side1 => exact cY (HR0.out)); (case side2 => exact HC0.out); rintro e w5 ⟨v476, v479, v482, v485, rfl, ho0, ho1, ho2, ho3, hb⟩; refine ⟨_, rfl, ?_⟩; have n0_ := A_.mk (Kd.N_lower (Kd.N_mono (ok' := fun k_ => some k_ ≠ (v479 : Value).ownBlock ∧ some k_ ≠ (v482 : Value).ownBlock ∧ some k_ ≠ (v485 : Value).ownBlock) (Kd.S_N (Kd.S_bound ho0)) (fun k_ hk_ => ⟨hk_.1.1, hk_.1.2.1, hk_.1.2.2⟩)) (bz_ (beY HB.out))); have n1_ := A_.mk (Kd.R_lower ho1 (bz_ (beY HB.out))); have n2_ := A_.mk (Kd.R_lower ho2 (bz_ (beY HB.out))); have n3_ := A_.mk (Kd.N_lower (Kd.N_mono (ok' := fun k_ => some k_ ≠ (v476 : Value).ownBlock ∧ some k_ ≠ (v479 : Value).ownBlock ∧ some k_ ≠ (v482 : Value).ownBlock) (Kd.S_N (Kd.S_bound ho3)) (fun k_ hk_ => ⟨hk_.1.1, hk_.1.2.1, hk_.1.2.2⟩)) (bz_ (beY HB.out))); have n4_ := A_.mk (bt_ (beY HB.out) hb); clear HB; have HO477 := n0_; have HO480 := n1_; have HO483 := n2_; have HO486 := n3_; have HB := n4_; clear n0_ n1_ n2_ n3_ n4_; (try clear hb); (try clear hb2); (try clear hk); (try clear hi); (try clear ho0); (try clear ho1); (try clear ho2); (try clear ho3)) | ((with_reducible refine gd_ (N := 3) rfl ?_); (try (refine gate_guard (by rfl) ?_; dsimp only)); refine by_ 3 (cs := #[.slice none 0 0, .slice none 0 0, .slice none 0 0, .slice none 0 0]) (t := 53) ?_; intro gb487 hg w6 hbox hb; have n0_ := A_.mk (Kd.N_below (Kd.N_elderB (by (with_reducible repeat (first | apply Kd.N_alloc | apply Kd.N_drewN | apply Kd.N_drew)); exact HO477.out) gb487 (Nat.le_of_eq hg.symm)) hb); have n1_ := A_.mk (Kd.R_below (rY HO480.out) hb); have n2_ := A_.mk (Kd.R_below (rY HO483.out) hb); have n3_ := A_.mk (Kd.N_below (Kd.N_elderB (by (with_reducible repeat (first | apply Kd.N_alloc | apply Kd.N_drewN | apply Kd.N_drew)); exact HO486.out) gb487 (Nat.le_of_eq hg.symm)) hb); have n4_ := A_.mk (bt_ (beY HB.out) hb); have n5_ := A_.mk (hbox); have n6_ := A_.mk ((by rw [hg]; exact (bz_ (beY HB.out)) : w.heap.size ≤ gb487)); have n7_ := A_.mk ((by rw [hg]; exact (bz_ (beY HB.out)) : w.heap.size ≤ gb487)); clear HO477 HO480 HO483 HO486 HB; have HO477 := n0_; have HO480 := n1_; have HO483 := n2_; have HO486 := n3_; have HB := n4_; have BK487 := n5_; have GW487 := n6_; have GE487 := n7_; clear n0_ n1_ n2_ n3_ n4_ n5_ n6_ n7_ hb hbox hg; obtain ⟨Ao7, co7, eo7⟩ := Kd.N_slice HO477.out; subst eo7; have hcz8_0 : w6.cell? ⟨gb487, 0, none⟩ = some (.slice none 0 0) := (bc_ BK487.out 0).trans rfl; have hcz8_1 : w6.cell? ⟨gb487, 1, none⟩ = some (.slice none 0 0) := (bc_ BK487.out 1).trans rfl; have hcz8_2 : w6.cell? ⟨gb487, 2, none⟩ = some (.slice none 0 0) := (bc_ BK487.out 2).trans rfl; have hcz8_3 : w6.cell? ⟨gb487, 3, none⟩ = some (.slice none 0 0) := (bc_ BK487.out 3).trans rfl; have hfz8_0 := bf_ BK487.out 0; have hfz8_1 := bf_ BK487.out 1; have hfz8_2 := bf_ BK487.out 2; have hfz8_3 := bf_ BK487.out 3; obtain ⟨Ao9, co9, eo9⟩ := Kd.R_slice HO480.out; subst eo9; obtain ⟨Ao10, co10, eo10⟩ := Kd.R_slice HO483.out; subst eo10; obtain ⟨Ao11, co11, eo11⟩ := Kd.N_slice HO486.out; subst eo11) | ((with_reducible refine gd_ (N := 18) rfl ?_); (try (refine gate_guard (by rfl) ?_; dsimp only)); refine Kd.R_lit (Kd.int .i64) _ 3 ?hg (N := 18) ?hd (xs := ([] : List Int)) (inner := []) (ok := fun _ => True) (okp := fun _ => True) ?hr ?hp (fun _ hk => hk) trivial (Below.refl _ _) (Nat.le_refl _) (by simp) ?_; (case hd => rfl); (case hg => rfl); (case hr => first | (go_simp; done) | (go_simp; rfl)); (case hp => exact (Reps.none _ _)); intro v489 w12 ho13 hb hg_ hnew_; clear hg_ hnew_; (first | rw [← Ny488.out] at ho13 | (simp only [Int.reduceToNat] at ho13; rw [← Ny488.out] at ho13)); have n0_ := A_.mk (Kd.N_elder' (by (with_reducible repeat (first | apply Kd.N_alloc | apply Kd.N_drewN | apply Kd.N_drew)); exact (Kd.N_mono (Kd.N_far (p := ⟨gb487, 3, none⟩) (Kd.N_far (p := ⟨gb487, 2, none⟩) (Kd.N_far (p := ⟨gb487, 1, none⟩) (Kd.N_far (p := ⟨gb487, 0, none⟩) (Kd.N_mono HO477.out (fun k_ hk => (⟨hk, hk.2⟩ : _ ∧ k_ ≠ gb487))) (fun _ hk => hk.2) (.slice Ao7 t475.length co7)) (fun _ hk => hk.2) (.slice Ao9 t478.length co9)) (fun _ hk => hk.2) (.slice Ao10 t481.length co10)) (fun _ hk => hk.2) (.slice Ao11 t484.length co11)) (fun _ h_ => h_.1))) (Kd.R_base ho13) hb); have n1_ := A_.mk (Kd.R_elder' (by (repeat apply rX); exact (Kd.R_mono (Kd.R_far (p := ⟨gb487, 3, none⟩) (Kd.R_far (p := ⟨gb487, 2, none⟩) (Kd.R_far (p := ⟨gb487, 1, none⟩) (Kd.R_far (p := ⟨gb487, 0, none⟩) (Kd.R_types HO480.out BK487.out (by decide)) (fun _ hk => hk.2) (.slice Ao7 t475.length co7)) (fun _ hk => hk.2) (.slice Ao9 t478.length co9)) (fun _ hk => hk.2) (.slice Ao10 t481.length co10)) (fun _ hk => hk.2) (.slice Ao11 t484.length co11)) (fun _ h_ => h_.1))) (Kd.R_base ho13) hb); have n2_ := A_.mk (Kd.R_elder' (by (repeat apply rX); exact (Kd.R_mono (Kd.R_far (p := ⟨gb487, 3, none⟩) (Kd.R_far (p := ⟨gb487, 2, none⟩) (Kd.R_far (p := ⟨gb487, 1, none⟩) (Kd.R_far (p := ⟨gb487, 0, none⟩) (Kd.R_types HO483.out BK487.out (by decide)) (fun _ hk => hk.2) (.slice Ao7 t475.length co7)) (fun _ hk => hk.2) (.slice Ao9 t478.length co9)) (fun _ hk => hk.2) (.slice Ao10 t481.length co10)) (fun _ hk => hk.2) (.slice Ao11 t484.length co11)) (fun _ h_ => h_.1))) (Kd.R_base ho13) hb); have n3_ := A_.mk (Kd.N_elder' (by (with_reducible repeat (first | apply Kd.N_alloc | apply Kd.N_drewN | apply Kd.N_drew)); exact (Kd.N_mono (Kd.N_far (p := ⟨gb487, 3, none⟩) (Kd.N_far (p := ⟨gb487, 2, none⟩) (Kd.N_far (p := ⟨gb487, 1, none⟩) (Kd.N_far (p := ⟨gb487, 0, none⟩) (Kd.N_mono HO486.out (fun k_ hk => (⟨hk, hk.2⟩ : _ ∧ k_ ≠ gb487))) (fun _ hk => hk.2) (.slice Ao7 t475.length co7)) (fun _ hk => hk.2) (.slice Ao9 t478.length co9)) (fun _ hk => hk.2) (.slice Ao10 t481.length co10)) (fun _ hk => hk.2) (.slice Ao11 t484.length co11)) (fun _ h_ => h_.1))) (Kd.R_base ho13) hb); have n4_ := A_.mk (Kd.R_lower (Kd.R_new' (Kd.R_new' ho13 (Kd.R_lt (by (repeat apply rX); exact (Kd.R_mono (Kd.R_far (p := ⟨gb487, 3, none⟩) (Kd.R_far (p := ⟨gb487, 2, none⟩) (Kd.R_far (p := ⟨gb487, 1, none⟩) (Kd.R_far (p := ⟨gb487, 0, none⟩) (Kd.R_types HO480.out BK487.out (by decide)) (fun _ hk => hk.2) (.slice Ao7 t475.length co7)) (fun _ hk => hk.2) (.slice Ao9 t478.length co9)) (fun _ hk => hk.2) (.slice Ao10 t481.length co10)) (fun _ hk => hk.2) (.slice Ao11 t484.length co11)) (fun _ h_ => h_.1))))) (Kd.R_lt (by (repeat apply rX); exact (Kd.R_mono (Kd.R_far (p := ⟨gb487, 3, none⟩) (Kd.R_far (p := ⟨gb487, 2, none⟩) (Kd.R_far (p := ⟨gb487, 1, none⟩) (Kd.R_far (p := ⟨gb487, 0, none⟩) (Kd.R_types HO483.out BK487.out (by decide)) (fun _ hk => hk.2) (.slice Ao7 t475.length co7)) (fun _ hk => hk.2) (.slice Ao9 t478.length co9)) (fun _ hk => hk.2) (.slice Ao10 t481.length co10)) (fun _ hk => hk.2) (.slice Ao11 t484.length co11)) (fun _ h_ => h_.1))))) (bz_ (by repeat (first | (with_reducible first | exact HB.out | apply ba_ | apply bd_ | apply be_ | refine bs_ ?_ GE487.out) | exact HB.out)))); have n5_ := A_.mk (bb_ (g := gb487) (o := .cells #[.slice Ao7 t475.length co7, .slice Ao9 t478.length co9, .slice Ao10 t481.length co10, .slice Ao11 t484.length co11] 53 (0, 0)) (by (repeat apply bX); refine bp_ (cs := #[.slice Ao7 t475.length co7, .slice Ao9 t478.length co9, .slice Ao10 t481.length co10, .slice none 0 0]) ?_ 3 _ rfl; (repeat apply bX); refine bp_ (cs := #[.slice Ao7 t475.length co7, .slice Ao9 t478.length co9, .slice none 0 0, .slice none 0 0]) ?_ 2 _ rfl; (repeat apply bX); refine bp_ (cs := #[.slice Ao7 t475.length co7, .slice none 0 0, .slice none 0 0, .slice none 0 0]) ?_ 1 _ rfl; (repeat apply bX); refine bp_ (cs := #[.slice none 0 0, .slice none 0 0, .slice none 0 0, .slice none 0 0]) ?_ 0 _ rfl; (repeat apply bX); exact BK487.out) hb); have n6_ := A_.mk (bt_ (by repeat (first | (with_reducible first | exact HB.out | apply ba_ | apply bd_ | apply be_ | refine bs_ ?_ GE487.out) | exact HB.out)) hb); clear HO477 HO480 HO483 HO486 BK487 HB; have HO477 := n0_; have HO480 := n1_; have HO483 := n2_; have HO486 := n3_; have HO490 := n4_; have BK487 := n5_; have HB := n6_; clear n0_ n1_ n2_ n3_ n4_ n5_ n6_ hb ho13))
 go_loopg [5, 6] k (fun kq v5 v6 w' => ∃ (x5_1 : List Int) (x6_1 : Int), v6 = .int .i64 x6_1 ∧ A_ (laws_FnQueues.l0 kq t475 x5_1 x6_1 t475 t478 t481 t484 = some r) ∧ A_ (kq ≤ k) ∧ A_ (Kd.N k60 60 w' w.heap.size (fun k_ => some k_ ≠ (v5 : Value).ownBlock ∧ some k_ ≠ ((.slice Ao9 t478.length co9) : Value).ownBlock ∧ some k_ ≠ ((.slice Ao10 t481.length co10) : Value).ownBlock ∧ some k_ ≠ ((.slice Ao11 t484.length co11) : Value).ownBlock ∧ k_ ≠ gb487) (.slice Ao7 t475.length co7) t475) ∧ A_ (Kd.R (Kd.int .i64) 3 w' w.heap.size (fun k_ => some k_ ≠ ((.slice Ao9 t478.length co9) : Value).ownBlock ∧ some k_ ≠ ((.slice Ao10 t481.length co10) : Value).ownBlock) v5 x5_1) ∧ A_ (Kd.N k60 60 w' w.heap.size (fun k_ => some k_ ≠ (v5 : Value).ownBlock ∧ some k_ ≠ ((.slice Ao9 t478.length co9) : Value).ownBlock ∧ some k_ ≠ ((.slice Ao10 t481.length co10) : Value).ownBlock ∧ some k_ ≠ ((.slice Ao11 t484.length co11) : Value).ownBlock ∧ k_ ≠ gb487) (.slice Ao7 t475.length co7) t475) ∧ A_ (Kd.R (Kd.int .i64) 3 w' w.heap.size (fun k_ => some k_ ≠ (v5 : Value).ownBlock ∧ some k_ ≠ ((.slice Ao10 t481.length co10) : Value).ownBlock) (.slice Ao9 t478.length co9) t478) ∧ A_ (Kd.R (Kd.int .i64) 3 w' w.heap.size (fun k_ => some k_ ≠ (v5 : Value).ownBlock ∧ some k_ ≠ ((.slice Ao9 t478.length co9) : Value).ownBlock) (.slice Ao10 t481.length co10) t481) ∧ A_ (Kd.N k60 60 w' w.heap.size (fun k_ => some k_ ≠ ((.slice Ao7 t475.length co7) : Value).ownBlock ∧ some k_ ≠ (v5 : Value).ownBlock ∧ some k_ ≠ ((.slice Ao7 t475.length co7) : Value).ownBlock ∧ some k_ ≠ ((.slice Ao9 t478.length co9) : Value).ownBlock ∧ some k_ ≠ ((.slice Ao10 t481.length co10) : Value).ownBlock ∧ k_ ≠ gb487) (.slice Ao11 t484.length co11) t484) ∧ A_ (w'.heap[gb487]? = some (.cells #[(.slice Ao7 t475.length co7), (.slice Ao9 t478.length co9), (.slice Ao10 t481.length co10), (.slice Ao11 t484.length co11)] 53 (0, 0))) ∧ A_ (Below w.heap.size w w'))
 case atStart => exact ⟨(y488), (0), (by first | rfl | (simp; done) | (simp [*]; done)), H', ⟨Nat.le_refl _⟩, ⟨by (with_reducible repeat (first | apply Kd.N_alloc | apply Kd.N_drewN | apply Kd.N_drew)); exact Kd.N_mono HO477.out (fun _ hk => ⟨hk.2, ⟨hk.1.1.1, ⟨hk.1.1.2.1, ⟨hk.1.1.2.2, hk.1.2⟩⟩⟩⟩)⟩, ⟨by (repeat apply rX); exact Kd.R_mono HO490.out (fun _ hk => ⟨hk.1.2, hk.2⟩)⟩, ⟨by (with_reducible repeat (first | apply Kd.N_alloc | apply Kd.N_drewN | apply Kd.N_drew)); exact Kd.N_mono HO477.out (fun _ hk => ⟨hk.2, ⟨hk.1.1.1, ⟨hk.1.1.2.1, ⟨hk.1.1.2.2, hk.1.2⟩⟩⟩⟩)⟩, ⟨by (repeat apply rX); exact Kd.R_mono HO480.out (fun _ hk => ⟨hk.2, hk.1⟩)⟩, ⟨by (repeat apply rX); exact Kd.R_mono HO483.out (fun _ hk => ⟨hk.2, hk.1⟩)⟩, ⟨by (with_reducible repeat (first | apply Kd.N_alloc | apply Kd.N_drewN | apply Kd.N_drew)); exact Kd.N_mono HO486.out (fun _ hk => ⟨hk.1.1.1, ⟨hk.2, ⟨hk.1.1.1, ⟨hk.1.1.2.1, ⟨hk.1.1.2.2, hk.1.2⟩⟩⟩⟩⟩)⟩, ⟨by (repeat apply bX); exact BK487.out⟩, ⟨by repeat (first | (with_reducible first | exact HB.out | apply ba_ | apply bd_ | apply be_ | refine bs_ ?_ GE487.out) | exact HB.out)⟩⟩
 case round =>
  clear H'
  (try clear HO_4)
  (try clear HO_5)
  (try clear HO_488000)
  (try clear HO_488001)
  (try clear HO_488002)
  (try clear HO_488003)
  (try clear BK487)
  obtain ⟨x5_1, x6_1, rfl, HA, HK1, HO_4, HO_5, HO_488000, HO_488001, HO_488002, HO_488003, BK487, HB⟩ := hrel
  cases gk with
  | zero => exact absurd HA.out (by simp [laws_FnQueues.l0])
  | succ k1 =>
   have H := HA.out
   clear HA
   simp only [laws_FnQueues.l0] at H
   by_cases c14 : x6_1 < (t475.length : Int)
   ·rw [if_pos c14] at H
    have c14b0 : decide (x6_1 < (t475.length : Int)) = true := decide_eq_true c14
    clear c14
    by_cases c15 : x5_1.length < 17592186044416
    rotate_left
    ·rw [if_neg c15] at H
     exact absurd H (by simp)
    rw [if_pos c15] at H
    have LMc15 := A_.mk c15
    clear c15
    obtain ⟨y491, hy491⟩ : ∃ y_ : List Int, y_ = (x5_1 ++ [x6_1]) := ⟨_, rfl⟩
    replace H : (laws_FnQueues.l0 k1 t475 y491 (wrap64 (x6_1 + 1)) t475 t478 t481 t484) = some r := by first | (rw [hy491]; with_reducible exact H) | (have H2_ := (Option.bind_some _ _).symm.trans H; rw [hy491]; with_reducible exact H2_) | (have H2_ := (Option.bind_some _ _).symm.trans H; with_reducible exact H2_) | with_reducible exact H | (rw [hy491]; exact H) | exact H
    have Ny491 := A_.mk hy491
    clear hy491
    have H' := A_.mk H
    clear H
    go_wp2_with (first | ((with_reducible refine gate_builtin (b := .append) (xs := #[.tmp 25, .tmp 27]) rfl ?_); (try (refine gate_guard (by rfl) ?_; dsimp only)); at_builtin; refine Kd.R_append (Kd.int .i64) (w0 := w) w.heap.size rfl (.tmp 25) (.tmp 27) 22 3 (.int .i64 0) 8 rfl Try.underlying22 info3 rfl (by decide) (by omega) u5 x5_1 x6_1 [.int .i64 x6_1] (fun k_ => some k_ ≠ (.slice Ao9 t478.length co9 : Value).ownBlock ∧ some k_ ≠ (.slice Ao10 t481.length co10 : Value).ownBlock) (fun _ => False) rfl rfl ?aP (fun _ hk => hk.elim) ?aF ?aO ?aB ?aS ?aL ?_; (case aP => exact rfl); (case aB => exact (by repeat (first | (with_reducible first | exact HB.out | apply ba_ | apply bd_ | apply be_ | refine bs_ ?_ GE487.out) | exact HB.out))); (case aF => exact (fun k_ hk => ⟨Kd.fresh' (Kd.R_lt (rY HO_488001.out)) k_ hk, Kd.fresh' (Kd.R_lt (rY HO_488002.out)) k_ hk⟩)); (case aO => exact (rY HO_5.out)); (case aS => exact (bz_ (by repeat (first | (with_reducible first | exact HB.out | apply ba_ | apply bd_ | apply be_ | refine bs_ ?_ GE487.out) | exact HB.out)))); (case aL => have := LMc15.out; omega); intro v492 w16 ho hb hg hat; rw [← Ny491.out] at ho; have n0_ := A_.mk (Kd.N_afterv (ok := (fun k_ => some k_ ≠ (.slice Ao9 t478.length co9 : Value).ownBlock ∧ some k_ ≠ (.slice Ao10 t481.length co10 : Value).ownBlock ∧ some k_ ≠ (.slice Ao11 t484.length co11 : Value).ownBlock ∧ k_ ≠ gb487)) (by (with_reducible repeat (first | apply Kd.N_alloc | apply Kd.N_drewN | apply Kd.N_drew)); exact Kd.N_mono HO_4.out (fun _ hk => ⟨⟨hk.2.1, ⟨hk.2.2.1, ⟨hk.2.2.2.1, hk.2.2.2.2⟩⟩⟩, hk.1⟩)) hg hat); have n1_ := A_.mk (Kd.N_afterv (ok := (fun k_ => some k_ ≠ (.slice Ao9 t478.length co9 : Value).ownBlock ∧ some k_ ≠ (.slice Ao10 t481.length co10 : Value).ownBlock ∧ some k_ ≠ (.slice Ao11 t484.length co11 : Value).ownBlock ∧ k_ ≠ gb487)) (by (with_reducible repeat (first | apply Kd.N_alloc | apply Kd.N_drewN | apply Kd.N_drew)); exact Kd.N_mono HO_488000.out (fun _ hk => ⟨⟨hk.2.1, ⟨hk.2.2.1, ⟨hk.2.2.2.1, hk.2.2.2.2⟩⟩⟩, hk.1⟩)) hg hat); have n2_ := A_.mk (Kd.R_after (ok := (fun k_ => some k_ ≠ (.slice Ao10 t481.length co10 : Value).ownBlock)) (by (repeat apply rX); exact Kd.R_mono HO_488001.out (fun _ hk => ⟨hk.2, hk.1⟩)) hg hat); have n3_ := A_.mk (Kd.R_after (ok := (fun k_ => some k_ ≠ (.slice Ao9 t478.length co9 : Value).ownBlock)) (by (repeat apply rX); exact Kd.R_mono HO_488002.out (fun _ hk => ⟨hk.2, hk.1⟩)) hg hat); have n4_ := A_.mk (Kd.N_afterv (ok := (fun k_ => some k_ ≠ (.slice Ao7 t475.length co7 : Value).ownBlock ∧ some k_ ≠ (.slice Ao7 t475.length co7 : Value).ownBlock ∧ some k_ ≠ (.slice Ao9 t478.length co9 : Value).ownBlock ∧ some k_ ≠ (.slice Ao10 t481.length co10 : Value).ownBlock ∧ k_ ≠ gb487)) (by (with_reducible repeat (first | apply Kd.N_alloc | apply Kd.N_drewN | apply Kd.N_drew)); exact Kd.N_mono HO_488003.out (fun _ hk => ⟨⟨hk.1, ⟨hk.2.2.1, ⟨hk.2.2.2.1, ⟨hk.2.2.2.2.1, hk.2.2.2.2.2⟩⟩⟩⟩, hk.2.1⟩)) hg hat); have n5_ := A_.mk (blk_grown (g := gb487) (o := .cells #[.slice Ao7 t475.length co7, .slice Ao9 t478.length co9, .slice Ao10 t481.length co10, .slice Ao11 t484.length co11] 53 (0, 0)) (bY BK487.out) hg (Kd.R_ne HO_5.out BK487.out (by decide))); have n6_ := A_.mk (hb); have n7_ := A_.mk (ho); clear HO_4 HO_488000 HO_488001 HO_488002 HO_488003 BK487 HB HO_5; have HO_4 := n0_; have HO_488000 := n1_; have HO_488001 := n2_; have HO_488002 := n3_; have HO_488003 := n4_; have BK487 := n5_; have HB := n6_; have HO493 := n7_; clear n0_ n1_ n2_ n3_ n4_ n5_ n6_ n7_ ho hb hg hat))
    go_roundg k1
    case measure => have := HK1.out; omega
    case rel => exact ⟨(y491), (wrap64 (x6_1 + 1)), (by first | rfl | (simp; done) | (simp [*]; done)), H', ⟨by have := HK1.out; omega⟩, ⟨by (with_reducible repeat (first | apply Kd.N_alloc | apply Kd.N_drewN | apply Kd.N_drew)); exact Kd.N_mono HO_4.out (fun _ hk => ⟨hk.2, ⟨hk.1.1, ⟨hk.1.2.1, ⟨hk.1.2.2.1, hk.1.2.2.2⟩⟩⟩⟩)⟩, ⟨by (repeat apply rX); exact HO493.out⟩, ⟨by (with_reducible repeat (first | apply Kd.N_alloc | apply Kd.N_drewN | apply Kd.N_drew)); exact Kd.N_mono HO_488000.out (fun _ hk => ⟨hk.2, ⟨hk.1.1, ⟨hk.1.2.1, ⟨hk.1.2.2.1, hk.1.2.2.2⟩⟩⟩⟩)⟩, ⟨by (repeat apply rX); exact Kd.R_mono HO_488001.out (fun _ hk => ⟨hk.2, hk.1⟩)⟩, ⟨by (repeat apply rX); exact Kd.R_mono HO_488002.out (fun _ hk => ⟨hk.2, hk.1⟩)⟩, ⟨by (with_reducible repeat (first | apply Kd.N_alloc | apply Kd.N_drewN | apply Kd.N_drew)); exact Kd.N_mono HO_488003.out (fun _ hk => ⟨hk.1.1, ⟨hk.2, ⟨hk.1.2.1, ⟨hk.1.2.2.1, ⟨hk.1.2.2.2.1, hk.1.2.2.2.2⟩⟩⟩⟩⟩)⟩, ⟨by (repeat apply bX); exact BK487.out⟩, ⟨by repeat (first | (with_reducible first | exact HB.out | apply ba_ | apply bd_ | apply be_ | refine bs_ ?_ GE487.out) | exact HB.out)⟩⟩
   rw [if_neg c14] at H
   have c14b0 : decide (x6_1 < (t475.length : Int)) = false := decide_eq_false c14
   clear c14
   obtain ⟨y494, hy494⟩ : ∃ y_ : List Int, y_ = (([] : List Int)) := ⟨_, rfl⟩
   replace H : (laws_FnQueues.l1 k1 t475 x5_1 y494 0 t475 t478 t481 t484) = some r := by first | (rw [hy494]; with_reducible exact H) | (have H2_ := (Option.bind_some _ _).symm.trans H; rw [hy494]; with_reducible exact H2_) | (have H2_ := (Option.bind_some _ _).symm.trans H; with_reducible exact H2_) | with_reducible exact H | (rw [hy494]; exact H) | exact H
   have Ny494 := A_.mk hy494
   clear hy494
   have H' := A_.mk H
   clear H
   go_wp2_with (first | ((with_reducible refine gd_ (N := 29) rfl ?_); (try (refine gate_guard (by rfl) ?_; dsimp only)); refine Kd.R_lit (Kd.int .i64) _ 3 ?hg (N := 29) ?hd (xs := ([] : List Int)) (inner := []) (ok := fun _ => True) (okp := fun _ => True) ?hr ?hp (fun _ hk => hk) trivial (Below.refl _ _) (Nat.le_refl _) (by simp) ?_; (case hd => rfl); (case hg => rfl); (case hr => first | (go_simp; done) | (go_simp; rfl)); (case hp => exact (Reps.none _ _)); intro v495 w17 ho18 hb hg_ hnew_; clear hg_ hnew_; (first | rw [← Ny494.out] at ho18 | (simp only [Int.reduceToNat] at ho18; rw [← Ny494.out] at ho18)); have n0_ := A_.mk (Kd.N_elder' (by (with_reducible repeat (first | apply Kd.N_alloc | apply Kd.N_drewN | apply Kd.N_drew)); exact HO_4.out) (Kd.R_base ho18) hb); have n1_ := A_.mk (Kd.R_elder' (rY HO_5.out) (Kd.R_base ho18) hb); have n2_ := A_.mk (Kd.N_elder' (by (with_reducible repeat (first | apply Kd.N_alloc | apply Kd.N_drewN | apply Kd.N_drew)); exact HO_488000.out) (Kd.R_base ho18) hb); have n3_ := A_.mk (Kd.R_elder' (rY HO_488001.out) (Kd.R_base ho18) hb); have n4_ := A_.mk (Kd.R_elder' (rY HO_488002.out) (Kd.R_base ho18) hb); have n5_ := A_.mk (Kd.N_elder' (by (with_reducible repeat (first | apply Kd.N_alloc | apply Kd.N_drewN | apply Kd.N_drew)); exact HO_488003.out) (Kd.R_base ho18) hb); have n6_ := A_.mk (Kd.R_lower (Kd.R_new' (Kd.R_new' (Kd.R_new' ho18 (Kd.R_lt (rY HO_5.out))) (Kd.R_lt (rY HO_488001.out))) (Kd.R_lt (rY HO_488002.out))) (bz_ (by repeat (first | (with_reducible first | exact HB.out | apply ba_ | apply bd_ | apply be_ | refine bs_ ?_ GE487.out) | exact HB.out)))); have n7_ := A_.mk (bb_ (bY BK487.out) hb); have n8_ := A_.mk (bt_ (by repeat (first | (with_reducible first | exact HB.out | apply ba_ | apply bd_ | apply be_ | refine bs_ ?_ GE487.out) | exact HB.out)) hb); clear HO_4 HO_5 HO_488000 HO_488001 HO_488002 HO_488003 BK487 HB; have HO_4 := n0_; have HO_5 := n1_; have HO_488000 := n2_; have HO_488001 := n3_; have HO_488002 := n4_; have HO_488003 := n5_; have HO496 := n6_; have BK487 := n7_; have HB := n8_; clear n0_ n1_ n2_ n3_ n4_ n5_ n6_ n7_ n8_ hb ho18))
   go_loopg [5, 7, 8] k1 (fun kq v5 v7 v8 w' => ∃ (x5_2 : List Int) (x7_2 : List Int) (x8_2 : Int) (x488000_2 : List (S60)) (x488001_2 : List Int) (x488002_2 : List Int) (x488003_2 : List (S60)) (u488000 : Value) (u488001 : Value) (u488002 : Value) (u488003 : Value), v8 = .int .i64 x8_2 ∧ A_ (laws_FnQueues.l1 kq t475 x5_2 x7_2 x8_2 x488000_2 x488001_2 x488002_2 x488003_2 = some r) ∧ A_ (kq ≤ k1) ∧ A_ (Kd.N k60 60 w' w.heap.size (fun k_ => some k_ ≠ (v5 : Value).ownBlock ∧ some k_ ≠ (v7 : Value).ownBlock ∧ some k_ ≠ (u488001 : Value).ownBlock ∧ some k_ ≠ (u488002 : Value).ownBlock ∧ some k_ ≠ (u488003 : Value).ownBlock ∧ k_ ≠ gb487) (.slice Ao7 t475.length co7) t475) ∧ A_ (Kd.R (Kd.int .i64) 3 w' w.heap.size (fun k_ => some k_ ≠ (v7 : Value).ownBlock ∧ some k_ ≠ (u488001 : Value).ownBlock ∧ some k_ ≠ (u488002 : Value).ownBlock) v5 x5_2) ∧ A_ (Kd.R (Kd.int .i64) 3 w' w.heap.size (fun k_ => some k_ ≠ (v5 : Value).ownBlock ∧ some k_ ≠ (u488001 : Value).ownBlock ∧ some k_ ≠ (u488002 : Value).ownBlock) v7 x7_2) ∧ A_ (Kd.N k60 60 w' w.heap.size (fun k_ => some k_ ≠ (v5 : Value).ownBlock ∧ some k_ ≠ (v7 : Value).ownBlock ∧ some k_ ≠ (u488001 : Value).ownBlock ∧ some k_ ≠ (u488002 : Value).ownBlock ∧ some k_ ≠ (u488003 : Value).ownBlock ∧ k_ ≠ gb487) u488000 x488000_2) ∧ A_ (Kd.R (Kd.int .i64) 3 w' w.heap.size (fun k_ => some k_ ≠ (v5 : Value).ownBlock ∧ some k_ ≠ (v7 : Value).ownBlock ∧ some k_ ≠ (u488002 : Value).ownBlock) u488001 x488001_2) ∧ A_ (Kd.R (Kd.int .i64) 3 w' w.heap.size (fun k_ => some k_ ≠ (v5 : Value).ownBlock ∧ some k_ ≠ (v7 : Value).ownBlock ∧ some k_ ≠ (u488001 : Value).ownBlock) u488002 x488002_2) ∧ A_ (Kd.N k60 60 w' w.heap.size (fun k_ => some k_ ≠ ((.slice Ao7 t475.length co7) : Value).ownBlock ∧ some k_ ≠ (v5 : Value).ownBlock ∧ some k_ ≠ (v7 : Value).ownBlock ∧ some k_ ≠ (u488000 : Value).ownBlock ∧ some k_ ≠ (u488001 : Value).ownBlock ∧ some k_ ≠ (u488002 : Value).ownBlock ∧ k_ ≠ gb487) u488003 x488003_2) ∧ A_ (w'.heap[gb487]? = some (.cells #[u488000, u488001, u488002, u488003] 53 (0, 0))) ∧ A_ (Below w.heap.size w w'))
   case atStart => exact ⟨(x5_1), (y494), (0), (t475), (t478), (t481), (t484), (.slice Ao7 t475.length co7), (.slice Ao9 t478.length co9), (.slice Ao10 t481.length co10), (.slice Ao11 t484.length co11), (by first | rfl | (simp; done) | (simp [*]; done)), H', ⟨Nat.le_refl _⟩, ⟨by (with_reducible repeat (first | apply Kd.N_alloc | apply Kd.N_drewN | apply Kd.N_drew)); exact Kd.N_mono HO_4.out (fun _ hk => ⟨hk.1.1, ⟨hk.2, ⟨hk.1.2.1, ⟨hk.1.2.2.1, ⟨hk.1.2.2.2.1, hk.1.2.2.2.2⟩⟩⟩⟩⟩)⟩, ⟨by (repeat apply rX); exact Kd.R_mono HO_5.out (fun _ hk => ⟨hk.2, ⟨hk.1.1, hk.1.2⟩⟩)⟩, ⟨by (repeat apply rX); exact Kd.R_mono HO496.out (fun _ hk => ⟨hk.1.1.2, ⟨hk.1.2, hk.2⟩⟩)⟩, ⟨by (with_reducible repeat (first | apply Kd.N_alloc | apply Kd.N_drewN | apply Kd.N_drew)); exact Kd.N_mono HO_488000.out (fun _ hk => ⟨hk.1.1, ⟨hk.2, ⟨hk.1.2.1, ⟨hk.1.2.2.1, ⟨hk.1.2.2.2.1, hk.1.2.2.2.2⟩⟩⟩⟩⟩)⟩, ⟨by (repeat apply rX); exact Kd.R_mono HO_488001.out (fun _ hk => ⟨hk.1.1, ⟨hk.2, hk.1.2⟩⟩)⟩, ⟨by (repeat apply rX); exact Kd.R_mono HO_488002.out (fun _ hk => ⟨hk.1.1, ⟨hk.2, hk.1.2⟩⟩)⟩, ⟨by (with_reducible repeat (first | apply Kd.N_alloc | apply Kd.N_drewN | apply Kd.N_drew)); exact Kd.N_mono HO_488003.out (fun _ hk => ⟨hk.1.1, ⟨hk.1.2.1, ⟨hk.2, ⟨hk.1.2.2.1, ⟨hk.1.2.2.2.1, ⟨hk.1.2.2.2.2.1, hk.1.2.2.2.2.2⟩⟩⟩⟩⟩⟩)⟩, ⟨by (repeat apply bX); exact BK487.out⟩, ⟨by repeat (first | (with_reducible first | exact HB.out | apply ba_ | apply bd_ | apply be_ | refine bs_ ?_ GE487.out) | exact HB.out)⟩⟩
   case round =>
    clear H'
    (try clear HO_4)
    (try clear HO_5)
    (try clear HO_488000)
    (try clear HO_488001)
    (try clear HO_488002)
    (try clear HO_488003)
    (try clear BK487)
    (try clear HO_7)
    obtain ⟨x5_2, x7_2, x8_2, x488000_2, x488001_2, x488002_2, x488003_2, u488000, u488001, u488002, u488003, rfl, HA, HK2, HO_4, HO_5, HO_7, HO_488000, HO_488001, HO_488002, HO_488003, BK487, HB⟩ := hrel
    cases gk with
    | zero => exact absurd HA.out (by simp [laws_FnQueues.l1])
    | succ k2 =>
     have H := HA.out
     clear HA
     simp only [laws_FnQueues.l1] at H
     by_cases c19 : x8_2 < (t475.length : Int)
     rotate_left
     ·rw [if_neg c19] at H
      have c19b0 : decide (x8_2 < (t475.length : Int)) = false := decide_eq_false c19
      clear c19
      replace H := ob_ H
      obtain ⟨t497, A930, H⟩ := H
      have A93 := A_.mk A930
      clear A930
      by_cases c94 : t497 < 0
      rotate_left
      ·rw [if_neg c94] at H
       have c94b0 : decide (t497 < 0) = false := decide_eq_false c94
       clear c94
       exact absurd (H.trans (congrArg some hrt.out)) (by simp)
      rw [if_pos c94] at H
      have c94b0 : decide (t497 < 0) = true := decide_eq_true c94
      clear c94
      by_cases c95 : (x488000_2.length : Int) = (x5_2.length : Int)
      rotate_left
      ·rw [if_neg c95] at H
       have c95b0 : ((x488000_2.length : Int) == (x5_2.length : Int)) = false := beq_eq_false_iff_ne.mpr c95
       have c95b1 : ((x488000_2.length : Int) != (x5_2.length : Int)) = true := bne_iff_ne.mpr c95
       have c95b2 : (x488000_2.length == x5_2.length) = false := by first | simpa using c95 | (simp at c95 ⊢; omega)
       exact absurd (H.trans (congrArg some hrt.out)) (by simp)
      rw [if_pos c95] at H
      have c95b0 : ((x488000_2.length : Int) == (x5_2.length : Int)) = true := beq_iff_eq.mpr c95
      have c95b1 : ((x488000_2.length : Int) != (x5_2.length : Int)) = false := bne_eq_false_iff_eq.mpr c95
      have c95b2 : (x488000_2.length == x5_2.length) = true := by first | simpa using c95 | (simp at c95 ⊢; omega)
      clear c95
      by_cases c96 : x7_2.length + x5_2.length < 17592186044416
      rotate_left
      ·rw [if_neg c96] at H
       exact absurd H (by simp)
      rw [if_pos c96] at H
      have LMc96 := A_.mk c96
      clear c96
      obtain ⟨y498, hy498⟩ : ∃ y_ : List Int, y_ = (x7_2 ++ x5_2) := ⟨_, rfl⟩
      replace H : ((impl_IsLegalOrder.f k2 t475 y498).bind fun t501 => (some t501)) = some r := by first | (rw [hy498]; with_reducible exact H) | (have H2_ := (Option.bind_some _ _).symm.trans H; rw [hy498]; with_reducible exact H2_) | (have H2_ := (Option.bind_some _ _).symm.trans H; with_reducible exact H2_) | with_reducible exact H | (rw [hy498]; exact H) | exact H
      have Ny498 := A_.mk hy498
      clear hy498
      replace H := ob_ H
      obtain ⟨t501, A970, H⟩ := H
      have A97 := A_.mk A970
      clear A970
      obtain rfl := Option.some.inj H
      obtain ⟨hcz98_0, hcz98_1, hcz98_2, hcz98_3, hfz98_0, hfz98_1, hfz98_2, hfz98_3⟩ := b4 BK487.out
      obtain ⟨Ao99, co99, eo99⟩ := Kd.N_slice HO_488000.out
      subst eo99
      obtain ⟨Ao100, co100, eo100⟩ := Kd.R_slice HO_488001.out
      subst eo100
      obtain ⟨Ao101, co101, eo101⟩ := Kd.R_slice HO_488002.out
      subst eo101
      obtain ⟨Ao102, co102, eo102⟩ := Kd.N_slice HO_488003.out
      subst eo102
      go_wp2_with (first | ((with_reducible refine gc_ (f := 31) rfl ?_); refine gl_ (some 103) Try.func31 #[.agg #[.slice Ao99 x488000_2.length co99, .slice Ao100 x488001_2.length co100, .slice Ao101 x488002_2.length co101, .slice Ao102 x488003_2.length co102]] ?_; (with_reducible refine (impl_NextOut.calls k2 _ _ x488000_2 _ _ x488001_2 _ _ x488002_2 _ _ x488003_2 t497 _ ?side1 ?side2 ?side3 ?side4 ?side5 ?side6 ?side7 ?side8 A93.out).mono ?_); (case side1 => exact cY ((Kd.N_reads' HO_488000.out).2.2)); (case side2 => exact (Kd.N_reads' HO_488000.out).2.1); (case side3 => exact cY ((Kd.R_reads' HO_488001.out).2.2)); (case side4 => exact (Kd.R_reads' HO_488001.out).2.1); (case side5 => exact cY ((Kd.R_reads' HO_488002.out).2.2)); (case side6 => exact (Kd.R_reads' HO_488002.out).2.1); (case side7 => exact cY ((Kd.N_reads' HO_488003.out).2.2)); (case side8 => exact (Kd.N_reads' HO_488003.out).2.1); rintro e w103 ⟨rfl, hb⟩; refine ⟨_, rfl, ?_⟩; have n0_ := A_.mk (Kd.N_below (by (with_reducible repeat (first | apply Kd.N_alloc | apply Kd.N_drewN | apply Kd.N_drew)); exact HO_4.out) hb); have n1_ := A_.mk (Kd.R_below (rY HO_5.out) hb); have n2_ := A_.mk (Kd.R_below (rY HO_7.out) hb); have n3_ := A_.mk (Kd.N_below (by (with_reducible repeat (first | apply Kd.N_alloc | apply Kd.N_drewN | apply Kd.N_drew)); exact HO_488000.out) hb); have n4_ := A_.mk (Kd.R_below (rY HO_488001.out) hb); have n5_ := A_.mk (Kd.R_below (rY HO_488002.out) hb); have n6_ := A_.mk (Kd.N_below (by (with_reducible repeat (first | apply Kd.N_alloc | apply Kd.N_drewN | apply Kd.N_drew)); exact HO_488003.out) hb); have n7_ := A_.mk (bb_ (bY BK487.out) hb); have n8_ := A_.mk (bt_ (by repeat (first | (with_reducible first | exact HB.out | apply ba_ | apply bd_ | apply be_ | refine bs_ ?_ GE487.out) | exact HB.out)) hb); clear HO_4 HO_5 HO_7 HO_488000 HO_488001 HO_488002 HO_488003 BK487 HB; have HO_4 := n0_; have HO_5 := n1_; have HO_7 := n2_; have HO_488000 := n3_; have HO_488001 := n4_; have HO_488002 := n5_; have HO_488003 := n6_; have BK487 := n7_; have HB := n8_; clear n0_ n1_ n2_ n3_ n4_ n5_ n6_ n7_ n8_; (try clear hb); (try clear hb2); (try clear hk); (try clear hi); have hcz104_0 : w103.cell? ⟨gb487, 0, none⟩ = some (.slice Ao99 x488000_2.length co99) := (bc_ BK487.out 0).trans rfl; have hcz104_1 : w103.cell? ⟨gb487, 1, none⟩ = some (.slice Ao100 x488001_2.length co100) := (bc_ BK487.out 1).trans rfl; have hcz104_2 : w103.cell? ⟨gb487, 2, none⟩ = some (.slice Ao101 x488002_2.length co101) := (bc_ BK487.out 2).trans rfl; have hcz104_3 : w103.cell? ⟨gb487, 3, none⟩ = some (.slice Ao102 x488003_2.length co102) := (bc_ BK487.out 3).trans rfl; have hfz104_0 := bf_ BK487.out 0; have hfz104_1 := bf_ BK487.out 1; have hfz104_2 := bf_ BK487.out 2; have hfz104_3 := bf_ BK487.out 3; obtain ⟨Ao105, co105, eo105⟩ := Kd.R_slice HO_5.out; subst eo105) | ((with_reducible refine gate_builtin (b := .append) (xs := #[.tmp 115, .tmp 116]) rfl ?_); (try (refine gate_guard (by rfl) ?_; dsimp only)); at_builtin; refine Kd.R_append_rows (Kd.int .i64) (w0 := w) w.heap.size rfl (.tmp 115) (.tmp 116) 22 3 (.int .i64 0) 8 rfl Try.underlying22 info3 rfl (by decide) (by omega) u7 x7_2 x5_2 _ _ _ (fun k_ => some k_ ≠ (.slice Ao105 x5_2.length co105 : Value).ownBlock ∧ some k_ ≠ (.slice Ao100 x488001_2.length co100 : Value).ownBlock ∧ some k_ ≠ (.slice Ao101 x488002_2.length co101 : Value).ownBlock) (fun _ => False) rfl rfl ?aO ?aR (fun _ _ h => h) (fun _ h => h.elim) ?aF ?aB ?aS ?aL ?_; (case aR => repeat (first | exact (Kd.R_reads' HO_5.out).2.2 | (with_reducible refine Kd.C_alloc ?_ _) | (with_reducible refine Kd.C_drewN ?_ _) | (with_reducible refine Kd.C_drew ?_))); (case aB => exact (by repeat (first | (with_reducible first | exact HB.out | apply ba_ | apply bd_ | apply be_ | refine bs_ ?_ GE487.out) | exact HB.out))); (case aF => exact (fun k_ hk => ⟨Kd.fresh' (Kd.R_lt (rY HO_5.out)) k_ hk, Kd.fresh' (Kd.R_lt (rY HO_488001.out)) k_ hk, Kd.fresh' (Kd.R_lt (rY HO_488002.out)) k_ hk⟩)); (case aO => exact (rY HO_7.out)); (case aS => exact (bz_ (by repeat (first | (with_reducible first | exact HB.out | apply ba_ | apply bd_ | apply be_ | refine bs_ ?_ GE487.out) | exact HB.out)))); (case aL => have := LMc96.out; omega); intro v499 w106 ho hb hg hat; rw [← Ny498.out] at ho; have n0_ := A_.mk (Kd.N_afterv (ok := (fun k_ => some k_ ≠ (.slice Ao105 x5_2.length co105 : Value).ownBlock ∧ some k_ ≠ (.slice Ao100 x488001_2.length co100 : Value).ownBlock ∧ some k_ ≠ (.slice Ao101 x488002_2.length co101 : Value).ownBlock ∧ some k_ ≠ (.slice Ao102 x488003_2.length co102 : Value).ownBlock ∧ k_ ≠ gb487)) (by (with_reducible repeat (first | apply Kd.N_alloc | apply Kd.N_drewN | apply Kd.N_drew)); exact Kd.N_mono HO_4.out (fun _ hk => ⟨⟨hk.1, ⟨hk.2.2.1, ⟨hk.2.2.2.1, ⟨hk.2.2.2.2.1, hk.2.2.2.2.2⟩⟩⟩⟩, hk.2.1⟩)) hg hat); have n1_ := A_.mk (Kd.R_after (ok := (fun k_ => some k_ ≠ (.slice Ao100 x488001_2.length co100 : Value).ownBlock ∧ some k_ ≠ (.slice Ao101 x488002_2.length co101 : Value).ownBlock)) (by (repeat apply rX); exact Kd.R_mono HO_5.out (fun _ hk => ⟨⟨hk.2.1, hk.2.2⟩, hk.1⟩)) hg hat); have n2_ := A_.mk (Kd.N_afterv (ok := (fun k_ => some k_ ≠ (.slice Ao105 x5_2.length co105 : Value).ownBlock ∧ some k_ ≠ (.slice Ao100 x488001_2.length co100 : Value).ownBlock ∧ some k_ ≠ (.slice Ao101 x488002_2.length co101 : Value).ownBlock ∧ some k_ ≠ (.slice Ao102 x488003_2.length co102 : Value).ownBlock ∧ k_ ≠ gb487)) (by (with_reducible repeat (first | apply Kd.N_alloc | apply Kd.N_drewN | apply Kd.N_drew)); exact Kd.N_mono HO_488000.out (fun _ hk => ⟨⟨hk.1, ⟨hk.2.2.1, ⟨hk.2.2.2.1, ⟨hk.2.2.2.2.1, hk.2.2.2.2.2⟩⟩⟩⟩, hk.2.1⟩)) hg hat); have n3_ := A_.mk (Kd.R_after (ok := (fun k_ => some k_ ≠ (.slice Ao105 x5_2.length co105 : Value).ownBlock ∧ some k_ ≠ (.slice Ao101 x488002_2.length co101 : Value).ownBlock)) (by (repeat apply rX); exact Kd.R_mono HO_488001.out (fun _ hk => ⟨⟨hk.1, hk.2.2⟩, hk.2.1⟩)) hg hat); have n4_ := A_.mk (Kd.R_after (ok := (fun k_ => some k_ ≠ (.slice Ao105 x5_2.length co105 : Value).ownBlock ∧ some k_ ≠ (.slice Ao100 x488001_2.length co100 : Value).ownBlock)) (by (repeat apply rX); exact Kd.R_mono HO_488002.out (fun _ hk => ⟨⟨hk.1, hk.2.2⟩, hk.2.1⟩)) hg hat); have n5_ := A_.mk (Kd.N_afterv (ok := (fun k_ => some k_ ≠ (.slice Ao7 t475.length co7 : Value).ownBlock ∧ some k_ ≠ (.slice Ao105 x5_2.length co105 : Value).ownBlock ∧ some k_ ≠ (.slice Ao99 x488000_2.length co99 : Value).ownBlock ∧ some k_ ≠ (.slice Ao100 x488001_2.length co100 : Value).ownBlock ∧ some k_ ≠ (.slice Ao101 x488002_2.length co101 : Value).ownBlock ∧ k_ ≠ gb487)) (by (with_reducible repeat (first | apply Kd.N_alloc | apply Kd.N_drewN | apply Kd.N_drew)); exact Kd.N_mono HO_488003.out (fun _ hk => ⟨⟨hk.1, ⟨hk.2.1, ⟨hk.2.2.2.1, ⟨hk.2.2.2.2.1, ⟨hk.2.2.2.2.2.1, hk.2.2.2.2.2.2⟩⟩⟩⟩⟩, hk.2.2.1⟩)) hg hat); have n6_ := A_.mk (blk_grown (g := gb487) (o := .cells #[.slice Ao99 x488000_2.length co99, .slice Ao100 x488001_2.length co100, .slice Ao101 x488002_2.length co101, .slice Ao102 x488003_2.length co102] 53 (0, 0)) (bY BK487.out) hg (Kd.R_ne HO_7.out BK487.out (by decide))); have n7_ := A_.mk (hb); have n8_ := A_.mk (ho); clear HO_4 HO_5 HO_488000 HO_488001 HO_488002 HO_488003 BK487 HB HO_7; have HO_4 := n0_; have HO_5 := n1_; have HO_488000 := n2_; have HO_488001 := n3_; have HO_488002 := n4_; have HO_488003 := n5_; have BK487 := n6_; have HB := n7_; have HO500 := n8_; clear n0_ n1_ n2_ n3_ n4_ n5_ n6_ n7_ n8_ ho hb hg hat; obtain ⟨Ao107, co107, eo107⟩ := Kd.R_slice HO500.out; subst eo107) | (go_at_call 29; (with_reducible refine (impl_IsLegalOrder.calls k2 _ _ t475 _ _ y498 t501 _ ?side1 ?side2 ?side3 ?side4 A97.out).mono ?_); (case side1 => exact cY ((Kd.N_reads' HO_4.out).2.2)); (case side2 => exact (Kd.N_reads' HO_4.out).2.1); (case side3 => exact cY ((Kd.R_reads' HO500.out).2.2)); (case side4 => exact (Kd.R_reads' HO500.out).2.1); rintro e w108 ⟨rfl, hb⟩; have n0_ := A_.mk (Kd.N_below (by (with_reducible repeat (first | apply Kd.N_alloc | apply Kd.N_drewN | apply Kd.N_drew)); exact HO_4.out) hb); have n1_ := A_.mk (Kd.R_below (rY HO_5.out) hb); have n2_ := A_.mk (Kd.N_below (by (with_reducible repeat (first | apply Kd.N_alloc | apply Kd.N_drewN | apply Kd.N_drew)); exact HO_488000.out) hb); have n3_ := A_.mk (Kd.R_below (rY HO_488001.out) hb); have n4_ := A_.mk (Kd.R_below (rY HO_488002.out) hb); have n5_ := A_.mk (Kd.N_below (by (with_reducible repeat (first | apply Kd.N_alloc | apply Kd.N_drewN | apply Kd.N_drew)); exact HO_488003.out) hb); have n6_ := A_.mk (Kd.R_below (rY HO500.out) hb); have n7_ := A_.mk (bb_ (bY BK487.out) hb); have n8_ := A_.mk (bt_ (by repeat (first | (with_reducible first | exact HB.out | apply ba_ | apply bd_ | apply be_ | refine bs_ ?_ GE487.out) | exact HB.out)) hb); clear HO_4 HO_5 HO_488000 HO_488001 HO_488002 HO_488003 HO500 BK487 HB; have HO_4 := n0_; have HO_5 := n1_; have HO_488000 := n2_; have HO_488001 := n3_; have HO_488002 := n4_; have HO_488003 := n5_; have HO500 := n6_; have BK487 := n7_; have HB := n8_; clear n0_ n1_ n2_ n3_ n4_ n5_ n6_ n7_ n8_; (try clear hb); (try clear hb2); (try clear hk); (try clear hi)))
      go_ret
      exact ⟨by first | rfl | (simp [errW_none, errW_some] <;> rfl) | (simp [*, errW_none, errW_some] <;> rfl), by repeat (first | (with_reducible first | exact HB.out | apply ba_ | apply bd_ | apply be_ | refine bs_ ?_ GE487.out) | exact HB.out)⟩
     rw [if_pos c19] at H
     have c19b0 : decide (x8_2 < (t475.length : Int)) = true := decide_eq_true c19
     clear c19
     replace H := ob_ H
     obtain ⟨t502, A200, H⟩ := H
     have A20 := A_.mk A200
     clear A200
     by_cases c21 : t502 < 0
     ·rw [if_pos c21] at H
      have c21b0 : decide (t502 < 0) = true := decide_eq_true c21
      clear c21
      replace H := ob_ H
      obtain ⟨t503, A220, H⟩ := H
      have A22 := A_.mk A220
      clear A220
      by_cases c23 : t503 < 0
      rotate_left
      ·rw [if_neg c23] at H
       have c23b0 : decide (t503 < 0) = false := decide_eq_false c23
       clear c23
       exact absurd (H.trans (congrArg some hrt.out)) (by simp)
      rw [if_pos c23] at H
      have c23b0 : decide (t503 < 0) = true := decide_eq_true c23
      clear c23
      by_cases c24 : (x488000_2.length : Int) = (x5_2.length : Int)
      rotate_left
      ·rw [if_neg c24] at H
       have c24b0 : ((x488000_2.length : Int) == (x5_2.length : Int)) = false := beq_eq_false_iff_ne.mpr c24
       have c24b1 : ((x488000_2.length : Int) != (x5_2.length : Int)) = true := bne_iff_ne.mpr c24
       have c24b2 : (x488000_2.length == x5_2.length) = false := by first | simpa using c24 | (simp at c24 ⊢; omega)
       exact absurd (H.trans (congrArg some hrt.out)) (by simp)
      rw [if_pos c24] at H
      have c24b0 : ((x488000_2.length : Int) == (x5_2.length : Int)) = true := beq_iff_eq.mpr c24
      have c24b1 : ((x488000_2.length : Int) != (x5_2.length : Int)) = false := bne_eq_false_iff_eq.mpr c24
      have c24b2 : (x488000_2.length == x5_2.length) = true := by first | simpa using c24 | (simp at c24 ⊢; omega)
      clear c24
      by_cases c25 : x7_2.length + x5_2.length < 17592186044416
      rotate_left
      ·rw [if_neg c25] at H
       exact absurd H (by simp)
      rw [if_pos c25] at H
      have LMc25 := A_.mk c25
      clear c25
      obtain ⟨y504, hy504⟩ : ∃ y_ : List Int, y_ = (x7_2 ++ x5_2) := ⟨_, rfl⟩
      replace H : ((impl_IsLegalOrder.f k2 t475 y504).bind fun t507 => (some t507)) = some r := by first | (rw [hy504]; with_reducible exact H) | (have H2_ := (Option.bind_some _ _).symm.trans H; rw [hy504]; with_reducible exact H2_) | (have H2_ := (Option.bind_some _ _).symm.trans H; with_reducible exact H2_) | with_reducible exact H | (rw [hy504]; exact H) | exact H
      have Ny504 := A_.mk hy504
      clear hy504
      replace H := ob_ H
      obtain ⟨t507, A260, H⟩ := H
      have A26 := A_.mk A260
      clear A260
      obtain rfl := Option.some.inj H
      obtain ⟨hcz27_0, hcz27_1, hcz27_2, hcz27_3, hfz27_0, hfz27_1, hfz27_2, hfz27_3⟩ := b4 BK487.out
      obtain ⟨Ao28, co28, eo28⟩ := Kd.N_slice HO_488000.out
      subst eo28
      obtain ⟨Ao29, co29, eo29⟩ := Kd.R_slice HO_488001.out
      subst eo29
      obtain ⟨Ao30, co30, eo30⟩ := Kd.R_slice HO_488002.out
      subst eo30
      obtain ⟨Ao31, co31, eo31⟩ := Kd.N_slice HO_488003.out
      subst eo31
      go_wp2_with (first | ((with_reducible refine gc_ (f := 31) rfl ?_); refine gl_ (some 37) Try.func31 #[.agg #[.slice Ao28 x488000_2.length co28, .slice Ao29 x488001_2.length co29, .slice Ao30 x488002_2.length co30, .slice Ao31 x488003_2.length co31]] ?_; (with_reducible refine (impl_NextOut.calls k2 _ _ x488000_2 _ _ x488001_2 _ _ x488002_2 _ _ x488003_2 t502 _ ?side1 ?side2 ?side3 ?side4 ?side5 ?side6 ?side7 ?side8 A20.out).mono ?_); (case side1 => exact cY ((Kd.N_reads' HO_488000.out).2.2)); (case side2 => exact (Kd.N_reads' HO_488000.out).2.1); (case side3 => exact cY ((Kd.R_reads' HO_488001.out).2.2)); (case side4 => exact (Kd.R_reads' HO_488001.out).2.1); (case side5 => exact cY ((Kd.R_reads' HO_488002.out).2.2)); (case side6 => exact (Kd.R_reads' HO_488002.out).2.1); (case side7 => exact cY ((Kd.N_reads' HO_488003.out).2.2)); (case side8 => exact (Kd.N_reads' HO_488003.out).2.1); rintro e w32 ⟨rfl, hb⟩; refine ⟨_, rfl, ?_⟩; have n0_ := A_.mk (Kd.N_below (by (with_reducible repeat (first | apply Kd.N_alloc | apply Kd.N_drewN | apply Kd.N_drew)); exact HO_4.out) hb); have n1_ := A_.mk (Kd.R_below (rY HO_5.out) hb); have n2_ := A_.mk (Kd.R_below (rY HO_7.out) hb); have n3_ := A_.mk (Kd.N_below (by (with_reducible repeat (first | apply Kd.N_alloc | apply Kd.N_drewN | apply Kd.N_drew)); exact HO_488000.out) hb); have n4_ := A_.mk (Kd.R_below (rY HO_488001.out) hb); have n5_ := A_.mk (Kd.R_below (rY HO_488002.out) hb); have n6_ := A_.mk (Kd.N_below (by (with_reducible repeat (first | apply Kd.N_alloc | apply Kd.N_drewN | apply Kd.N_drew)); exact HO_488003.out) hb); have n7_ := A_.mk (bb_ (bY BK487.out) hb); have n8_ := A_.mk (bt_ (by repeat (first | (with_reducible first | exact HB.out | apply ba_ | apply bd_ | apply be_ | refine bs_ ?_ GE487.out) | exact HB.out)) hb); clear HO_4 HO_5 HO_7 HO_488000 HO_488001 HO_488002 HO_488003 BK487 HB; have HO_4 := n0_; have HO_5 := n1_; have HO_7 := n2_; have HO_488000 := n3_; have HO_488001 := n4_; have HO_488002 := n5_; have HO_488003 := n6_; have BK487 := n7_; have HB := n8_; clear n0_ n1_ n2_ n3_ n4_ n5_ n6_ n7_ n8_; (try clear hb); (try clear hb2); (try clear hk); (try clear hi); have hcz33_0 : w32.cell? ⟨gb487, 0, none⟩ = some (.slice Ao28 x488000_2.length co28) := (bc_ BK487.out 0).trans rfl; have hcz33_1 : w32.cell? ⟨gb487, 1, none⟩ = some (.slice Ao29 x488001_2.length co29) := (bc_ BK487.out 1).trans rfl; have hcz33_2 : w32.cell? ⟨gb487, 2, none⟩ = some (.slice Ao30 x488002_2.length co30) := (bc_ BK487.out 2).trans rfl; have hcz33_3 : w32.cell? ⟨gb487, 3, none⟩ = some (.slice Ao31 x488003_2.length co31) := (bc_ BK487.out 3).trans rfl; have hfz33_0 := bf_ BK487.out 0; have hfz33_1 := bf_ BK487.out 1; have hfz33_2 := bf_ BK487.out 2; have hfz33_3 := bf_ BK487.out 3) | ((with_reducible refine gc_ (f := 31) rfl ?_); refine gl_ (some 103) Try.func31 #[.agg #[.slice Ao28 x488000_2.length co28, .slice Ao29 x488001_2.length co29, .slice Ao30 x488002_2.length co30, .slice Ao31 x488003_2.length co31]] ?_; (with_reducible refine (impl_NextOut.calls k2 _ _ x488000_2 _ _ x488001_2 _ _ x488002_2 _ _ x488003_2 t503 _ ?side1 ?side2 ?side3 ?side4 ?side5 ?side6 ?side7 ?side8 A22.out).mono ?_); (case side1 => exact cY ((Kd.N_reads' HO_488000.out).2.2)); (case side2 => exact (Kd.N_reads' HO_488000.out).2.1); (case side3 => exact cY ((Kd.R_reads' HO_488001.out).2.2)); (case side4 => exact (Kd.R_reads' HO_488001.out).2.1); (case side5 => exact cY ((Kd.R_reads' HO_488002.out).2.2)); (case side6 => exact (Kd.R_reads' HO_488002.out).2.1); (case side7 => exact cY ((Kd.N_reads' HO_488003.out).2.2)); (case side8 => exact (Kd.N_reads' HO_488003.out).2.1); rintro e w34 ⟨rfl, hb⟩; refine ⟨_, rfl, ?_⟩; have n0_ := A_.mk (Kd.N_below (by (with_reducible repeat (first | apply Kd.N_alloc | apply Kd.N_drewN | apply Kd.N_drew)); exact HO_4.out) hb); have n1_ := A_.mk (Kd.R_below (rY HO_5.out) hb); have n2_ := A_.mk (Kd.R_below (rY HO_7.out) hb); have n3_ := A_.mk (Kd.N_below (by (with_reducible repeat (first | apply Kd.N_alloc | apply Kd.N_drewN | apply Kd.N_drew)); exact HO_488000.out) hb); have n4_ := A_.mk (Kd.R_below (rY HO_488001.out) hb); have n5_ := A_.mk (Kd.R_below (rY HO_488002.out) hb); have n6_ := A_.mk (Kd.N_below (by (with_reducible repeat (first | apply Kd.N_alloc | apply Kd.N_drewN | apply Kd.N_drew)); exact HO_488003.out) hb); have n7_ := A_.mk (bb_ (bY BK487.out) hb); have n8_ := A_.mk (bt_ (by repeat (first | (with_reducible first | exact HB.out | apply ba_ | apply bd_ | apply be_ | refine bs_ ?_ GE487.out) | exact HB.out)) hb); clear HO_4 HO_5 HO_7 HO_488000 HO_488001 HO_488002 HO_488003 BK487 HB; have HO_4 := n0_; have HO_5 := n1_; have HO_7 := n2_; have HO_488000 := n3_; have HO_488001 := n4_; have HO_488002 := n5_; have HO_488003 := n6_; have BK487 := n7_; have HB := n8_; clear n0_ n1_ n2_ n3_ n4_ n5_ n6_ n7_ n8_; (try clear hb); (try clear hb2); (try clear hk); (try clear hi); have hcz35_0 : w34.cell? ⟨gb487, 0, none⟩ = some (.slice Ao28 x488000_2.length co28) := (bc_ BK487.out 0).trans rfl; have hcz35_1 : w34.cell? ⟨gb487, 1, none⟩ = some (.slice Ao29 x488001_2.length co29) := (bc_ BK487.out 1).trans rfl; have hcz35_2 : w34.cell? ⟨gb487, 2, none⟩ = some (.slice Ao30 x488002_2.length co30) := (bc_ BK487.out 2).trans rfl; have hcz35_3 : w34.cell? ⟨gb487, 3, none⟩ = some (.slice Ao31 x488003_2.length co31) := (bc_ BK487.out 3).trans rfl; have hfz35_0 := bf_ BK487.out 0; have hfz35_1 := bf_ BK487.out 1; have hfz35_2 := bf_ BK487.out 2; have hfz35_3 := bf_ BK487.out 3; obtain ⟨Ao36, co36, eo36⟩ := Kd.R_slice HO_5.out; subst eo36) | ((with_reducible refine gate_builtin (b := .append) (xs := #[.tmp 115, .tmp 116]) rfl ?_); (try (refine gate_guard (by rfl) ?_; dsimp only)); at_builtin; refine Kd.R_append_rows (Kd.int .i64) (w0 := w) w.heap.size rfl (.tmp 115) (.tmp 116) 22 3 (.int .i64 0) 8 rfl Try.underlying22 info3 rfl (by decide) (by omega) u7 x7_2 x5_2 _ _ _ (fun k_ => some k_ ≠ (.slice Ao36 x5_2.length co36 : Value).ownBlock ∧ some k_ ≠ (.slice Ao29 x488001_2.length co29 : Value).ownBlock ∧ some k_ ≠ (.slice Ao30 x488002_2.length co30 : Value).ownBlock) (fun _ => False) rfl rfl ?aO ?aR (fun _ _ h => h) (fun _ h => h.elim) ?aF ?aB ?aS ?aL ?_; (case aR => repeat (first | exact (Kd.R_reads' HO_5.out).2.2 | (with_reducible refine Kd.C_alloc ?_ _) | (with_reducible refine Kd.C_drewN ?_ _) | (with_reducible refine Kd.C_drew ?_))); (case aB => exact (by repeat (first | (with_reducible first | exact HB.out | apply ba_ | apply bd_ | apply be_ | refine bs_ ?_ GE487.out) | exact HB.out))); (case aF => exact (fun k_ hk => ⟨Kd.fresh' (Kd.R_lt (rY HO_5.out)) k_ hk, Kd.fresh' (Kd.R_lt (rY HO_488001.out)) k_ hk, Kd.fresh' (Kd.R_lt (rY HO_488002.out)) k_ hk⟩)); (case aO => exact (rY HO_7.out)); (case aS => exact (bz_ (by repeat (first | (with_reducible first | exact HB.out | apply ba_ | apply bd_ | apply be_ | refine bs_ ?_ GE487.out) | exact HB.out)))); (case aL => have := LMc25.out; omega); intro v505 w37 ho hb hg hat; rw [← Ny504.out] at ho; have n0_ := A_.mk (Kd.N_afterv (ok := (fun k_ => some k_ ≠ (.slice Ao36 x5_2.length co36 : Value).ownBlock ∧ some k_ ≠ (.slice Ao29 x488001_2.length co29 : Value).ownBlock ∧ some k_ ≠ (.slice Ao30 x488002_2.length co30 : Value).ownBlock ∧ some k_ ≠ (.slice Ao31 x488003_2.length co31 : Value).ownBlock ∧ k_ ≠ gb487)) (by (with_reducible repeat (first | apply Kd.N_alloc | apply Kd.N_drewN | apply Kd.N_drew)); exact Kd.N_mono HO_4.out (fun _ hk => ⟨⟨hk.1, ⟨hk.2.2.1, ⟨hk.2.2.2.1, ⟨hk.2.2.2.2.1, hk.2.2.2.2.2⟩⟩⟩⟩, hk.2.1⟩)) hg hat); have n1_ := A_.mk (Kd.R_after (ok := (fun k_ => some k_ ≠ (.slice Ao29 x488001_2.length co29 : Value).ownBlock ∧ some k_ ≠ (.slice Ao30 x488002_2.length co30 : Value).ownBlock)) (by (repeat apply rX); exact Kd.R_mono HO_5.out (fun _ hk => ⟨⟨hk.2.1, hk.2.2⟩, hk.1⟩)) hg hat); have n2_ := A_.mk (Kd.N_afterv (ok := (fun k_ => some k_ ≠ (.slice Ao36 x5_2.length co36 : Value).ownBlock ∧ some k_ ≠ (.slice Ao29 x488001_2.length co29 : Value).ownBlock ∧ some k_ ≠ (.slice Ao30 x488002_2.length co30 : Value).ownBlock ∧ some k_ ≠ (.slice Ao31 x488003_2.length co31 : Value).ownBlock ∧ k_ ≠ gb487)) (by (with_reducible repeat (first | apply Kd.N_alloc | apply Kd.N_drewN | apply Kd.N_drew)); exact Kd.N_mono HO_488000.out (fun _ hk => ⟨⟨hk.1, ⟨hk.2.2.1, ⟨hk.2.2.2.1, ⟨hk.2.2.2.2.1, hk.2.2.2.2.2⟩⟩⟩⟩, hk.2.1⟩)) hg hat); have n3_ := A_.mk (Kd.R_after (ok := (fun k_ => some k_ ≠ (.slice Ao36 x5_2.length co36 : Value).ownBlock ∧ some k_ ≠ (.slice Ao30 x488002_2.length co30 : Value).ownBlock)) (by (repeat apply rX); exact Kd.R_mono HO_488001.out (fun _ hk => ⟨⟨hk.1, hk.2.2⟩, hk.2.1⟩)) hg hat); have n4_ := A_.mk (Kd.R_after (ok := (fun k_ => some k_ ≠ (.slice Ao36 x5_2.length co36 : Value).ownBlock ∧ some k_ ≠ (.slice Ao29 x488001_2.length co29 : Value).ownBlock)) (by (repeat apply rX); exact Kd.R_mono HO_488002.out (fun _ hk => ⟨⟨hk.1, hk.2.2⟩, hk.2.1⟩)) hg hat); have n5_ := A_.mk (Kd.N_afterv (ok := (fun k_ => some k_ ≠ (.slice Ao7 t475.length co7 : Value).ownBlock ∧ some k_ ≠ (.slice Ao36 x5_2.length co36 : Value).ownBlock ∧ some k_ ≠ (.slice Ao28 x488000_2.length co28 : Value).ownBlock ∧ some k_ ≠ (.slice Ao29 x488001_2.length co29 : Value).ownBlock ∧ some k_ ≠ (.slice Ao30 x488002_2.length co30 : Value).ownBlock ∧ k_ ≠ gb487)) (by (with_reducible repeat (first | apply Kd.N_alloc | apply Kd.N_drewN | apply Kd.N_drew)); exact Kd.N_mono HO_488003.out (fun _ hk => ⟨⟨hk.1, ⟨hk.2.1, ⟨hk.2.2.2.1, ⟨hk.2.2.2.2.1, ⟨hk.2.2.2.2.2.1, hk.2.2.2.2.2.2⟩⟩⟩⟩⟩, hk.2.2.1⟩)) hg hat); have n6_ := A_.mk (blk_grown (g := gb487) (o := .cells #[.slice Ao28 x488000_2.length co28, .slice Ao29 x488001_2.length co29, .slice Ao30 x488002_2.length co30, .slice Ao31 x488003_2.length co31] 53 (0, 0)) (bY BK487.out) hg (Kd.R_ne HO_7.out BK487.out (by decide))); have n7_ := A_.mk (hb); have n8_ := A_.mk (ho); clear HO_4 HO_5 HO_488000 HO_488001 HO_488002 HO_488003 BK487 HB HO_7; have HO_4 := n0_; have HO_5 := n1_; have HO_488000 := n2_; have HO_488001 := n3_; have HO_488002 := n4_; have HO_488003 := n5_; have BK487 := n6_; have HB := n7_; have HO506 := n8_; clear n0_ n1_ n2_ n3_ n4_ n5_ n6_ n7_ n8_ ho hb hg hat; obtain ⟨Ao38, co38, eo38⟩ := Kd.R_slice HO506.out; subst eo38) | (go_at_call 29; (with_reducible refine (impl_IsLegalOrder.calls k2 _ _ t475 _ _ y504 t507 _ ?side1 ?side2 ?side3 ?side4 A26.out).mono ?_); (case side1 => exact cY ((Kd.N_reads' HO_4.out).2.2)); (case side2 => exact (Kd.N_reads' HO_4.out).2.1); (case side3 => exact cY ((Kd.R_reads' HO506.out).2.2)); (case side4 => exact (Kd.R_reads' HO506.out).2.1); rintro e w39 ⟨rfl, hb⟩; have n0_ := A_.mk (Kd.N_below (by (with_reducible repeat (first | apply Kd.N_alloc | apply Kd.N_drewN | apply Kd.N_drew)); exact HO_4.out) hb); have n1_ := A_.mk (Kd.R_below (rY HO_5.out) hb); have n2_ := A_.mk (Kd.N_below (by (with_reducible repeat (first | apply Kd.N_alloc | apply Kd.N_drewN | apply Kd.N_drew)); exact HO_488000.out) hb); have n3_ := A_.mk (Kd.R_below (rY HO_488001.out) hb); have n4_ := A_.mk (Kd.R_below (rY HO_488002.out) hb); have n5_ := A_.mk (Kd.N_below (by (with_reducible repeat (first | apply Kd.N_alloc | apply Kd.N_drewN | apply Kd.N_drew)); exact HO_488003.out) hb); have n6_ := A_.mk (Kd.R_below (rY HO506.out) hb); have n7_ := A_.mk (bb_ (bY BK487.out) hb); have n8_ := A_.mk (bt_ (by repeat (first | (with_reducible first | exact HB.out | apply ba_ | apply bd_ | apply be_ | refine bs_ ?_ GE487.out) | exact HB.out)) hb); clear HO_4 HO_5 HO_488000 HO_488001 HO_488002 HO_488003 HO506 BK487 HB; have HO_4 := n0_; have HO_5 := n1_; have HO_488000 := n2_; have HO_488001 := n3_; have HO_488002 := n4_; have HO_488003 := n5_; have HO506 := n6_; have BK487 := n7_; have HB := n8_; clear n0_ n1_ n2_ n3_ n4_ n5_ n6_ n7_ n8_; (try clear hb); (try clear hb2); (try clear hk); (try clear hi)))
      go_ret
      exact ⟨by first | rfl | (simp [errW_none, errW_some] <;> rfl) | (simp [*, errW_none, errW_some] <;> rfl), by repeat (first | (with_reducible first | exact HB.out | apply ba_ | apply bd_ | apply be_ | refine bs_ ?_ GE487.out) | exact HB.out)⟩
     rw [if_neg c21] at H
     have c21b0 : decide (t502 < 0) = false := decide_eq_false c21
     clear c21
     replace H := ob_ H
     obtain ⟨⟨t508, t511, t514, t517, t520⟩, A400, H⟩ := H
     replace H : (if t520 = true then (if t502 ≥ (x5_2.length : Int) then (some false) else (if (t517.length : Int) = (wrap64 ((x7_2.length : Int) + 1)) then (if 0 ≤ (x7_2.length : Int) then (if (x7_2.length : Int) < (t517.length : Int) then (if 0 ≤ t502 then (if t502 < (x5_2.length : Int) then (if 0 ≤ (rd x5_2 t502) then (if (rd x5_2 t502) < (t475.length : Int) then ((impl_SamePacket.f k2 ((rd_T60 t517 (x7_2.length : Int)).f0) ((rd_T60 t517 (x7_2.length : Int)).f1) ((rd_T60 t517 (x7_2.length : Int)).f2) ((rd_T60 t517 (x7_2.length : Int)).f3) ((rd_T60 t517 (x7_2.length : Int)).f4) ((rd_T60 t517 (x7_2.length : Int)).f5) ((rd_T60 t517 (x7_2.length : Int)).f6) ((rd_T60 t517 (x7_2.length : Int)).f7) ((rd_T60 t475 (rd x5_2 t502)).f0) ((rd_T60 t475 (rd x5_2 t502)).f1) ((rd_T60 t475 (rd x5_2 t502)).f2) ((rd_T60 t475 (rd x5_2 t502)).f3) ((rd_T60 t475 (rd x5_2 t502)).f4) ((rd_T60 t475 (rd x5_2 t502)).f5) ((rd_T60 t475 (rd x5_2 t502)).f6) ((rd_T60 t475 (rd x5_2 t502)).f7)).bind fun t525 => (if t525 = true then ((impl_QueueOk.f k2 t508 t511 t514 t517).bind fun t526 => (if t526 = true then (if x7_2.length < 17592186044416 then ((some (([] : List Int) : List Int)).bind fun y531 => (if t502 ≤ (x5_2.length : Int) then ((some (x5_2.take (t502 : Int).toNat : List Int)).bind fun y534 => (if y531.length + y534.length < 17592186044416 then ((some (y531 ++ y534 : List Int)).bind fun y539 => (if 0 ≤ (wrap64 (t502 + 1)) then (if (wrap64 (t502 + 1)) ≤ (x5_2.length : Int) then ((some (x5_2.drop ((wrap64 (t502 + 1)) : Int).toNat : List Int)).bind fun y542 => (if y539.length + y542.length < 17592186044416 then (laws_FnQueues.l1 k2 t475 (y539 ++ y542) (x7_2 ++ [rd x5_2 t502]) (wrap64 (x8_2 + 1)) t508 t511 t514 t517) else (none))) else (none)) else (none))) else (none))) else (none))) else (none)) else (some false))) else (some false))) else (none)) else (none)) else (none)) else (none)) else (none)) else (none)) else (some false))) else (some false)) = some r := H
     have A40 := A_.mk A400
     clear A400
     by_cases c41 : t520 = true
     rotate_left
     ·replace c41 := Bool.eq_false_iff.mpr c41
      subst c41
      have H1 : (some false) = some r := by rw [if_neg (show ¬ (false = true) by decide)] at H; exact H
      clear H
      have H := H1
      clear H1
      exact absurd (H.trans (congrArg some hrt.out)) (by simp)
     subst c41
     have H1 : (if t502 ≥ (x5_2.length : Int) then (some false) else (if (t517.length : Int) = (wrap64 ((x7_2.length : Int) + 1)) then (if 0 ≤ (x7_2.length : Int) then (if (x7_2.length : Int) < (t517.length : Int) then (if 0 ≤ t502 then (if t502 < (x5_2.length : Int) then (if 0 ≤ (rd x5_2 t502) then (if (rd x5_2 t502) < (t475.length : Int) then ((impl_SamePacket.f k2 ((rd_T60 t517 (x7_2.length : Int)).f0) ((rd_T60 t517 (x7_2.length : Int)).f1) ((rd_T60 t517 (x7_2.length : Int)).f2) ((rd_T60 t517 (x7_2.length : Int)).f3) ((rd_T60 t517 (x7_2.length : Int)).f4) ((rd_T60 t517 (x7_2.length : Int)).f5) ((rd_T60 t517 (x7_2.length : Int)).f6) ((rd_T60 t517 (x7_2.length : Int)).f7) ((rd_T60 t475 (rd x5_2 t502)).f0) ((rd_T60 t475 (rd x5_2 t502)).f1) ((rd_T60 t475 (rd x5_2 t502)).f2) ((rd_T60 t475 (rd x5_2 t502)).f3) ((rd_T60 t475 (rd x5_2 t502)).f4) ((rd_T60 t475 (rd x5_2 t502)).f5) ((rd_T60 t475 (rd x5_2 t502)).f6) ((rd_T60 t475 (rd x5_2 t502)).f7)).bind fun t525 => (if t525 = true then ((impl_QueueOk.f k2 t508 t511 t514 t517).bind fun t526 => (if t526 = true then (if x7_2.length < 17592186044416 then ((some (([] : List Int) : List Int)).bind fun y531 => (if t502 ≤ (x5_2.length : Int) then ((some (x5_2.take (t502 : Int).toNat : List Int)).bind fun y534 => (if y531.length + y534.length < 17592186044416 then ((some (y531 ++ y534 : List Int)).bind fun y539 => (if 0 ≤ (wrap64 (t502 + 1)) then (if (wrap64 (t502 + 1)) ≤ (x5_2.length : Int) then ((some (x5_2.drop ((wrap64 (t502 + 1)) : Int).toNat : List Int)).bind fun y542 => (if y539.length + y542.length < 17592186044416 then (laws_FnQueues.l1 k2 t475 (y539 ++ y542) (x7_2 ++ [rd x5_2 t502]) (wrap64 (x8_2 + 1)) t508 t511 t514 t517) else (none))) else (none)) else (none))) else (none))) else (none))) else (none)) else (some false))) else (some false))) else (none)) else (none)) else (none)) else (none)) else (none)) else (none)) else (some false))) = some r := by rw [if_pos rfl] at H; exact H
     clear H
     have H := H1
     clear H1
     by_cases c42 : t502 ≥ (x5_2.length : Int)
     ·rw [if_pos c42] at H
      have c42b0 : decide ((x5_2.length : Int) ≤ t502) = true := decide_eq_true c42
      clear c42
      exact absurd (H.trans (congrArg some hrt.out)) (by simp)
     rw [if_neg c42] at H
     have c42b0 : decide ((x5_2.length : Int) ≤ t502) = false := decide_eq_false c42
     clear c42
     by_cases c43 : (t517.length : Int) = (wrap64 ((x7_2.length : Int) + 1))
     rotate_left
     ·rw [if_neg c43] at H
      have c43b0 : ((t517.length : Int) == (wrap64 ((x7_2.length : Int) + 1))) = false := beq_eq_false_iff_ne.mpr c43
      have c43b0w : ((t517.length : Int) == (IntKind.i64.wrap ((x7_2.length : Int) + 1))) = false := by simp only [i64_w]; exact c43b0
      have c43b1 : ((t517.length : Int) != (wrap64 ((x7_2.length : Int) + 1))) = true := bne_iff_ne.mpr c43
      have c43b1w : ((t517.length : Int) != (IntKind.i64.wrap ((x7_2.length : Int) + 1))) = true := by simp only [i64_w]; exact c43b1
      exact absurd (H.trans (congrArg some hrt.out)) (by simp)
     rw [if_pos c43] at H
     have c43b0 : ((t517.length : Int) == (wrap64 ((x7_2.length : Int) + 1))) = true := beq_iff_eq.mpr c43
     have c43b0w : ((t517.length : Int) == (IntKind.i64.wrap ((x7_2.length : Int) + 1))) = true := by simp only [i64_w]; exact c43b0
     have c43b1 : ((t517.length : Int) != (wrap64 ((x7_2.length : Int) + 1))) = false := bne_eq_false_iff_eq.mpr c43
     have c43b1w : ((t517.length : Int) != (IntKind.i64.wrap ((x7_2.length : Int) + 1))) = false := by simp only [i64_w]; exact c43b1
     clear c43
     by_cases c44 : 0 ≤ (x7_2.length : Int)
     rotate_left
     ·rw [if_neg c44] at H
      exact absurd H (by simp)
     rw [if_pos c44] at H
     have c44b0 : decide (0 ≤ (x7_2.length : Int)) = true := decide_eq_true c44
     have c44b1 : decide (0 ≤ x7_2.length) = true := decide_eq_true (by omega)
     clear c44
     by_cases c45 : (x7_2.length : Int) < (t517.length : Int)
     rotate_left
     ·rw [if_neg c45] at H
      exact absurd H (by simp)
     rw [if_pos c45] at H
     have c45b0 : decide ((x7_2.length : Int) < (t517.length : Int)) = true := decide_eq_true c45
     have c45b1 : decide (x7_2.length < t517.length) = true := decide_eq_true (Int.ofNat_lt.mp c45)
     clear c45
     by_cases c46 : 0 ≤ t502
     rotate_left
     ·rw [if_neg c46] at H
      exact absurd H (by simp)
     rw [if_pos c46] at H
     have c46b0 : decide (0 ≤ t502) = true := decide_eq_true c46
     clear c46
     by_cases c47 : t502 < (x5_2.length : Int)
     rotate_left
     ·rw [if_neg c47] at H
      exact absurd H (by simp)
     rw [if_pos c47] at H
     have c47b0 : decide (t502 < (x5_2.length : Int)) = true := decide_eq_true c47
     clear c47
     by_cases c48 : 0 ≤ (rd x5_2 t502)
     rotate_left
     ·rw [if_neg c48] at H
      exact absurd H (by simp)
     rw [if_pos c48] at H
     have c48b0 : decide (0 ≤ (rd x5_2 t502)) = true := decide_eq_true c48
     clear c48
     by_cases c49 : (rd x5_2 t502) < (t475.length : Int)
     rotate_left
     ·rw [if_neg c49] at H
      exact absurd H (by simp)
     rw [if_pos c49] at H
     have c49b0 : decide ((rd x5_2 t502) < (t475.length : Int)) = true := decide_eq_true c49
     clear c49
     replace H := ob_ H
     obtain ⟨t525, A500, H⟩ := H
     have A50 := A_.mk A500
     clear A500
     by_cases c51 : t525 = true
     rotate_left
     ·replace c51 := Bool.eq_false_iff.mpr c51
      subst c51
      have H1 : (some false) = some r := by rw [if_neg (show ¬ (false = true) by decide)] at H; exact H
      clear H
      have H := H1
      clear H1
      exact absurd (H.trans (congrArg some hrt.out)) (by simp)
     subst c51
     have H1 : ((impl_QueueOk.f k2 t508 t511 t514 t517).bind fun t526 => (if t526 = true then (if x7_2.length < 17592186044416 then ((some (([] : List Int) : List Int)).bind fun y531 => (if t502 ≤ (x5_2.length : Int) then ((some (x5_2.take (t502 : Int).toNat : List Int)).bind fun y534 => (if y531.length + y534.length < 17592186044416 then ((some (y531 ++ y534 : List Int)).bind fun y539 => (if 0 ≤ (wrap64 (t502 + 1)) then (if (wrap64 (t502 + 1)) ≤ (x5_2.length : Int) then ((some (x5_2.drop ((wrap64 (t502 + 1)) : Int).toNat : List Int)).bind fun y542 => (if y539.length + y542.length < 17592186044416 then (laws_FnQueues.l1 k2 t475 (y539 ++ y542) (x7_2 ++ [rd x5_2 t502]) (wrap64 (x8_2 + 1)) t508 t511 t514 t517) else (none))) else (none)) else (none))) else (none))) else (none))) else (none)) else (some false))) = some r := by rw [if_pos rfl] at H; exact H
     clear H
     have H := H1
     clear H1
     replace H := ob_ H
     obtain ⟨t526, A520, H⟩ := H
     have A52 := A_.mk A520
     clear A520
     by_cases c53 : t526 = true
     rotate_left
     ·replace c53 := Bool.eq_false_iff.mpr c53
      subst c53
      have H1 : (some false) = some r := by rw [if_neg (show ¬ (false = true) by decide)] at H; exact H
      clear H
      have H := H1
      clear H1
      exact absurd (H.trans (congrArg some hrt.out)) (by simp)
     subst c53
     have H1 : (if x7_2.length < 17592186044416 then ((some (([] : List Int) : List Int)).bind fun y531 => (if t502 ≤ (x5_2.length : Int) then ((some (x5_2.take (t502 : Int).toNat : List Int)).bind fun y534 => (if y531.length + y534.length < 17592186044416 then ((some (y531 ++ y534 : List Int)).bind fun y539 => (if 0 ≤ (wrap64 (t502 + 1)) then (if (wrap64 (t502 + 1)) ≤ (x5_2.length : Int) then ((some (x5_2.drop ((wrap64 (t502 + 1)) : Int).toNat : List Int)).bind fun y542 => (if y539.length + y542.length < 17592186044416 then (laws_FnQueues.l1 k2 t475 (y539 ++ y542) (x7_2 ++ [rd x5_2 t502]) (wrap64 (x8_2 + 1)) t508 t511 t514 t517) else (none))) else (none)) else (none))) else (none))) else (none))) else (none)) = some r := by rw [if_pos rfl] at H; exact H
     clear H
     have H := H1
     clear H1
     by_cases c54 : x7_2.length < 17592186044416
     rotate_left
     ·rw [if_neg c54] at H
      exact absurd H (by simp)
     rw [if_pos c54] at H
     have LMc54 := A_.mk c54
     clear c54
     obtain ⟨y528, hy528⟩ : ∃ y_ : List Int, y_ = (x7_2 ++ [rd x5_2 t502]) := ⟨_, rfl⟩
     replace H : ((some (([] : List Int) : List Int)).bind fun y531 => (if t502 ≤ (x5_2.length : Int) then ((some (x5_2.take (t502 : Int).toNat : List Int)).bind fun y534 => (if y531.length + y534.length < 17592186044416 then ((some (y531 ++ y534 : List Int)).bind fun y539 => (if 0 ≤ (wrap64 (t502 + 1)) then (if (wrap64 (t502 + 1)) ≤ (x5_2.length : Int) then ((some (x5_2.drop ((wrap64 (t502 + 1)) : Int).toNat : List Int)).bind fun y542 => (if y539.length + y542.length < 17592186044416 then (laws_FnQueues.l1 k2 t475 (y539 ++ y542) y528 (wrap64 (x8_2 + 1)) t508 t511 t514 t517) else (none))) else (none)) else (none))) else (none))) else (none))) = some r := by first | (rw [hy528]; with_reducible exact H) | (have H2_ := (Option.bind_some _ _).symm.trans H; rw [hy528]; with_reducible exact H2_) | (have H2_ := (Option.bind_some _ _).symm.trans H; with_reducible exact H2_) | with_reducible exact H | (rw [hy528]; exact H) | exact H
     have Ny528 := A_.mk hy528
     clear hy528
     obtain ⟨y531, hy531⟩ : ∃ y_ : List Int, y_ = (([] : List Int)) := ⟨_, rfl⟩
     replace H : (if t502 ≤ (x5_2.length : Int) then ((some (x5_2.take (t502 : Int).toNat : List Int)).bind fun y534 => (if y531.length + y534.length < 17592186044416 then ((some (y531 ++ y534 : List Int)).bind fun y539 => (if 0 ≤ (wrap64 (t502 + 1)) then (if (wrap64 (t502 + 1)) ≤ (x5_2.length : Int) then ((some (x5_2.drop ((wrap64 (t502 + 1)) : Int).toNat : List Int)).bind fun y542 => (if y539.length + y542.length < 17592186044416 then (laws_FnQueues.l1 k2 t475 (y539 ++ y542) y528 (wrap64 (x8_2 + 1)) t508 t511 t514 t517) else (none))) else (none)) else (none))) else (none))) else (none)) = some r := by first | (rw [hy531]; with_reducible exact H) | (have H2_ := (Option.bind_some _ _).symm.trans H; rw [hy531]; with_reducible exact H2_) | (have H2_ := (Option.bind_some _ _).symm.trans H; with_reducible exact H2_) | with_reducible exact H | (rw [hy531]; exact H) | exact H
     have Ny531 := A_.mk hy531
     clear hy531
     have c55b0 := eq_true (od_ : 0 ≤ t502)
     by_cases c56 : t502 ≤ (x5_2.length : Int)
     rotate_left
     ·rw [if_neg c56] at H
      exact absurd H (by simp)
     rw [if_pos c56] at H
     have c56b0 := eq_true c56
     have c56b1 : decide (t502 ≤ (x5_2.length : Int)) = true := decide_eq_true c56
     clear c56
     obtain ⟨y534, hy534⟩ : ∃ y_ : List Int, y_ = (x5_2.take (t502 : Int).toNat) := ⟨_, rfl⟩
     replace H : (if y531.length + y534.length < 17592186044416 then ((some (y531 ++ y534 : List Int)).bind fun y539 => (if 0 ≤ (wrap64 (t502 + 1)) then (if (wrap64 (t502 + 1)) ≤ (x5_2.length : Int) then ((some (x5_2.drop ((wrap64 (t502 + 1)) : Int).toNat : List Int)).bind fun y542 => (if y539.length + y542.length < 17592186044416 then (laws_FnQueues.l1 k2 t475 (y539 ++ y542) y528 (wrap64 (x8_2 + 1)) t508 t511 t514 t517) else (none))) else (none)) else (none))) else (none)) = some r := by first | (rw [hy534]; with_reducible exact H) | (have H2_ := (Option.bind_some _ _).symm.trans H; rw [hy534]; with_reducible exact H2_) | (have H2_ := (Option.bind_some _ _).symm.trans H; with_reducible exact H2_) | with_reducible exact H | (rw [hy534]; exact H) | exact H
     have Ny534 := A_.mk hy534
     clear hy534
     by_cases c57 : y531.length + y534.length < 17592186044416
     rotate_left
     ·rw [if_neg c57] at H
      exact absurd H (by simp)
     rw [if_pos c57] at H
     have LMc57 := A_.mk c57
     clear c57
     obtain ⟨y539, hy539⟩ : ∃ y_ : List Int, y_ = (y531 ++ y534) := ⟨_, rfl⟩
     replace H : (if 0 ≤ (wrap64 (t502 + 1)) then (if (wrap64 (t502 + 1)) ≤ (x5_2.length : Int) then ((some (x5_2.drop ((wrap64 (t502 + 1)) : Int).toNat : List Int)).bind fun y542 => (if y539.length + y542.length < 17592186044416 then (laws_FnQueues.l1 k2 t475 (y539 ++ y542) y528 (wrap64 (x8_2 + 1)) t508 t511 t514 t517) else (none))) else (none)) else (none)) = some r := by first | (rw [hy539]; with_reducible exact H) | (have H2_ := (Option.bind_some _ _).symm.trans H; rw [hy539]; with_reducible exact H2_) | (have H2_ := (Option.bind_some _ _).symm.trans H; with_reducible exact H2_) | with_reducible exact H | (rw [hy539]; exact H) | exact H
     have Ny539 := A_.mk hy539
     clear hy539
     obtain ⟨ji58, hji58⟩ : ∃ j_ : Int, (wrap64 (t502 + 1)) = j_ := ⟨_, rfl⟩
     replace H : (if 0 ≤ (ji58) then (if (ji58) ≤ (x5_2.length : Int) then ((some (x5_2.drop ((ji58) : Int).toNat : List Int)).bind fun y542 => (if y539.length + y542.length < 17592186044416 then (laws_FnQueues.l1 k2 t475 (y539 ++ y542) y528 (wrap64 (x8_2 + 1)) t508 t511 t514 t517) else (none))) else (none)) else (none)) = some r := by first | (rw [hji58] at H; exact H) | (simp only [hji58] at H ⊢; exact H)
     (try rw [hji58] at A20)
     (try rw [hji58] at A40)
     (try rw [hji58] at A50)
     (try rw [hji58] at A52)
     have hji58w : (IntKind.i64.wrap (t502 + 1)) = ji58 := (i64_w _).trans hji58
     by_cases c59 : 0 ≤ (ji58)
     rotate_left
     ·rw [if_neg c59] at H
      exact absurd H (by simp)
     rw [if_pos c59] at H
     have c59b0 := eq_true c59
     have c59b1 : decide (0 ≤ (ji58)) = true := decide_eq_true c59
     clear c59
     by_cases c60 : (ji58) ≤ (x5_2.length : Int)
     rotate_left
     ·rw [if_neg c60] at H
      exact absurd H (by simp)
     rw [if_pos c60] at H
     have c60b0 := eq_true c60
     have c60b1 : decide ((ji58) ≤ (x5_2.length : Int)) = true := decide_eq_true c60
     clear c60
     obtain ⟨y542, hy542⟩ : ∃ y_ : List Int, y_ = (x5_2.drop ((ji58) : Int).toNat) := ⟨_, rfl⟩
     replace H : (if y539.length + y542.length < 17592186044416 then (laws_FnQueues.l1 k2 t475 (y539 ++ y542) y528 (wrap64 (x8_2 + 1)) t508 t511 t514 t517) else (none)) = some r := by first | (rw [hy542]; with_reducible exact H) | (have H2_ := (Option.bind_some _ _).symm.trans H; rw [hy542]; with_reducible exact H2_) | (have H2_ := (Option.bind_some _ _).symm.trans H; with_reducible exact H2_) | with_reducible exact H | (rw [hy542]; exact H) | exact H
     have Ny542 := A_.mk hy542
     clear hy542
     by_cases c61 : y539.length + y542.length < 17592186044416
     rotate_left
     ·rw [if_neg c61] at H
      exact absurd H (by simp)
     rw [if_pos c61] at H
     have LMc61 := A_.mk c61
     clear c61
     obtain ⟨y547, hy547⟩ : ∃ y_ : List Int, y_ = (y539 ++ y542) := ⟨_, rfl⟩
     replace H : (laws_FnQueues.l1 k2 t475 y547 y528 (wrap64 (x8_2 + 1)) t508 t511 t514 t517) = some r := by first | (rw [hy547]; with_reducible exact H) | (have H2_ := (Option.bind_some _ _).symm.trans H; rw [hy547]; with_reducible exact H2_) | (have H2_ := (Option.bind_some _ _).symm.trans H; with_reducible exact H2_) | with_reducible exact H | (rw [hy547]; exact H) | exact H
     have Ny547 := A_.mk hy547
     clear hy547
     have H' := A_.mk H
     clear H
     obtain ⟨hcz62_0, hcz62_1, hcz62_2, hcz62_3, hfz62_0, hfz62_1, hfz62_2, hfz62_3⟩ := b4 BK487.out
     obtain ⟨Ao63, co63, eo63⟩ := Kd.N_slice HO_488000.out
     subst eo63
     obtain ⟨Ao64, co64, eo64⟩ := Kd.R_slice HO_488001.out
     subst eo64
     obtain ⟨Ao65, co65, eo65⟩ := Kd.R_slice HO_488002.out
     subst eo65
     obtain ⟨Ao66, co66, eo66⟩ := Kd.N_slice HO_488003.out
     subst eo66
     try go_wp2_with (first | ((with_reducible refine gc_ (f := 31) rfl ?_); refine gl_ (some 37) Try.func31 #[.agg #[.slice Ao63 x488000_2.length co63, .slice Ao64 x488001_2.length co64, .slice Ao65 x488002_2.length co65, .slice Ao66 x488003_2.length co66]] ?_; (with_reducible refine (impl_NextOut.calls k2 _ _ x488000_2 _ _ x488001_2 _ _ x488002_2 _ _ x488003_2 t502 _ ?side1 ?side2 ?side3 ?side4 ?side5 ?side6 ?side7 ?side8 A20.out).mono ?_); (case side1 => exact cY ((Kd.N_reads' HO_488000.out).2.2)); (case side2 => exact (Kd.N_reads' HO_488000.out).2.1); (case side3 => exact cY ((Kd.R_reads' HO_488001.out).2.2)); (case side4 => exact (Kd.R_reads' HO_488001.out).2.1); (case side5 => exact cY ((Kd.R_reads' HO_488002.out).2.2)); (case side6 => exact (Kd.R_reads' HO_488002.out).2.1); (case side7 => exact cY ((Kd.N_reads' HO_488003.out).2.2)); (case side8 => exact (Kd.N_reads' HO_488003.out).2.1); rintro e w67 ⟨rfl, hb⟩; refine ⟨_, rfl, ?_⟩; have n0_ := A_.mk (Kd.N_below (by (with_reducible repeat (first | apply Kd.N_alloc | apply Kd.N_drewN | apply Kd.N_drew)); exact HO_4.out) hb); have n1_ := A_.mk (Kd.R_below (rY HO_5.out) hb); have n2_ := A_.mk (Kd.R_below (rY HO_7.out) hb); have n3_ := A_.mk (Kd.N_below (by (with_reducible repeat (first | apply Kd.N_alloc | apply Kd.N_drewN | apply Kd.N_drew)); exact HO_488000.out) hb); have n4_ := A_.mk (Kd.R_below (rY HO_488001.out) hb); have n5_ := A_.mk (Kd.R_below (rY HO_488002.out) hb); have n6_ := A_.mk (Kd.N_below (by (with_reducible repeat (first | apply Kd.N_alloc | apply Kd.N_drewN | apply Kd.N_drew)); exact HO_488003.out) hb); have n7_ := A_.mk (bb_ (bY BK487.out) hb); have n8_ := A_.mk (bt_ (by repeat (first | (with_reducible first | exact HB.out | apply ba_ | apply bd_ | apply be_ | refine bs_ ?_ GE487.out) | exact HB.out)) hb); clear HO_4 HO_5 HO_7 HO_488000 HO_488001 HO_488002 HO_488003 BK487 HB; have HO_4 := n0_; have HO_5 := n1_; have HO_7 := n2_; have HO_488000 := n3_; have HO_488001 := n4_; have HO_488002 := n5_; have HO_488003 := n6_; have BK487 := n7_; have HB := n8_; clear n0_ n1_ n2_ n3_ n4_ n5_ n6_ n7_ n8_; (try clear hb); (try clear hb2); (try clear hk); (try clear hi); have hcz68_0 : w67.cell? ⟨gb487, 0, none⟩ = some (.slice Ao63 x488000_2.length co63) := (bc_ BK487.out 0).trans rfl; have hcz68_1 : w67.cell? ⟨gb487, 1, none⟩ = some (.slice Ao64 x488001_2.length co64) := (bc_ BK487.out 1).trans rfl; have hcz68_2 : w67.cell? ⟨gb487, 2, none⟩ = some (.slice Ao65 x488002_2.length co65) := (bc_ BK487.out 2).trans rfl; have hcz68_3 : w67.cell? ⟨gb487, 3, none⟩ = some (.slice Ao66 x488003_2.length co66) := (bc_ BK487.out 3).trans rfl; have hfz68_0 := bf_ BK487.out 0; have hfz68_1 := bf_ BK487.out 1; have hfz68_2 := bf_ BK487.out 2; have hfz68_3 := bf_ BK487.out 3) | ((with_reducible refine gc_ (f := 32) rfl ?_); refine gl_ (some 42) Try.func32 #[.agg #[.slice Ao63 x488000_2.length co63, .slice Ao64 x488001_2.length co64, .slice Ao65 x488002_2.length co65, .slice Ao66 x488003_2.length co66]] ?_; (with_reducible refine (impl_ForwardNext.calls k2 _ _ x488000_2 _ _ x488001_2 _ _ x488002_2 _ _ x488003_2 t508 t511 t514 t517 true _ ?side1 ?side2 ?side3 ?side4 ?side5 ?side6 ?side7 ?side8 A40.out).mono ?_); (case side1 => exact cY ((Kd.N_reads' HO_488000.out).2.2)); (case side2 => exact (Kd.N_reads' HO_488000.out).2.1); (case side3 => exact cY ((Kd.R_reads' HO_488001.out).2.2)); (case side4 => exact (Kd.R_reads' HO_488001.out).2.1); (case side5 => exact cY ((Kd.R_reads' HO_488002.out).2.2)); (case side6 => exact (Kd.R_reads' HO_488002.out).2.1); (case side7 => exact cY ((Kd.N_reads' HO_488003.out).2.2)); (case side8 => exact (Kd.N_reads' HO_488003.out).2.1); rintro e w69 ⟨v509, v512, v515, v518, rfl, ho0, ho1, ho2, ho3, hb⟩; refine ⟨_, rfl, ?_⟩; have n0_ := A_.mk (Kd.N_mono (Kd.N_told (Kd.N_told (Kd.N_told (Kd.N_told (Kd.N_old (by (with_reducible repeat (first | apply Kd.N_alloc | apply Kd.N_drewN | apply Kd.N_drew)); exact HO_4.out) hb) (Kd.N_base ho0)) (Kd.R_base ho1)) (Kd.R_base ho2)) (Kd.N_base ho3)) (fun _ h_ => h_.1)); have n1_ := A_.mk (Kd.R_mono (Kd.R_told (Kd.R_told (Kd.R_old (rY HO_5.out) hb) (Kd.R_base ho1)) (Kd.R_base ho2)) (fun _ h_ => h_.1)); have n2_ := A_.mk (Kd.R_mono (Kd.R_told (Kd.R_told (Kd.R_old (rY HO_7.out) hb) (Kd.R_base ho1)) (Kd.R_base ho2)) (fun _ h_ => h_.1)); have n3_ := A_.mk (Kd.N_mono (Kd.N_told (Kd.N_told (Kd.N_told (Kd.N_told (Kd.N_old (by (with_reducible repeat (first | apply Kd.N_alloc | apply Kd.N_drewN | apply Kd.N_drew)); exact HO_488000.out) hb) (Kd.N_base ho0)) (Kd.R_base ho1)) (Kd.R_base ho2)) (Kd.N_base ho3)) (fun _ h_ => h_.1)); have n4_ := A_.mk (Kd.R_mono (Kd.R_told (Kd.R_told (Kd.R_old (rY HO_488001.out) hb) (Kd.R_base ho1)) (Kd.R_base ho2)) (fun _ h_ => h_.1)); have n5_ := A_.mk (Kd.R_mono (Kd.R_told (Kd.R_told (Kd.R_old (rY HO_488002.out) hb) (Kd.R_base ho1)) (Kd.R_base ho2)) (fun _ h_ => h_.1)); have n6_ := A_.mk (Kd.N_mono (Kd.N_told (Kd.N_told (Kd.N_told (Kd.N_told (Kd.N_old (by (with_reducible repeat (first | apply Kd.N_alloc | apply Kd.N_drewN | apply Kd.N_drew)); exact HO_488003.out) hb) (Kd.N_base ho0)) (Kd.R_base ho1)) (Kd.R_base ho2)) (Kd.N_base ho3)) (fun _ h_ => h_.1)); have n7_ := A_.mk (Kd.N_lower (Kd.N_mono (ok' := fun k_ => some k_ ≠ (v512 : Value).ownBlock ∧ some k_ ≠ (v515 : Value).ownBlock ∧ some k_ ≠ (v518 : Value).ownBlock ∧ some k_ ≠ (.slice Ao7 t475.length co7 : Value).ownBlock ∧ some k_ ≠ (u5 : Value).ownBlock ∧ some k_ ≠ (u7 : Value).ownBlock ∧ some k_ ≠ (.slice Ao63 x488000_2.length co63 : Value).ownBlock ∧ some k_ ≠ (.slice Ao64 x488001_2.length co64 : Value).ownBlock ∧ some k_ ≠ (.slice Ao65 x488002_2.length co65 : Value).ownBlock ∧ some k_ ≠ (.slice Ao66 x488003_2.length co66 : Value).ownBlock ∧ k_ ≠ gb487) ho0 (fun k_ hk_ => ⟨hk_.1.1, hk_.1.2.1, hk_.1.2.2, (Kd.fresh' (Kd.N_lt (by (with_reducible repeat (first | apply Kd.N_alloc | apply Kd.N_drewN | apply Kd.N_drew)); exact HO_4.out)) k_ hk_.2.1), (Kd.fresh' (Kd.R_lt (rY HO_5.out)) k_ hk_.2.1), (Kd.fresh' (Kd.R_lt (rY HO_7.out)) k_ hk_.2.1), (Kd.fresh' (Kd.N_lt (by (with_reducible repeat (first | apply Kd.N_alloc | apply Kd.N_drewN | apply Kd.N_drew)); exact HO_488000.out)) k_ hk_.2.1), (Kd.fresh' (Kd.R_lt (rY HO_488001.out)) k_ hk_.2.1), (Kd.fresh' (Kd.R_lt (rY HO_488002.out)) k_ hk_.2.1), (Kd.fresh' (Kd.N_lt (by (with_reducible repeat (first | apply Kd.N_alloc | apply Kd.N_drewN | apply Kd.N_drew)); exact HO_488003.out)) k_ hk_.2.1), (Kd.freshB (g := gb487) (o := .cells #[.slice Ao63 x488000_2.length co63, .slice Ao64 x488001_2.length co64, .slice Ao65 x488002_2.length co65, .slice Ao66 x488003_2.length co66] 53 (0, 0)) (bY BK487.out) k_ hk_.2.1)⟩)) (bz_ (by repeat (first | (with_reducible first | exact HB.out | apply ba_ | apply bd_ | apply be_ | refine bs_ ?_ GE487.out) | exact HB.out)))); have n8_ := A_.mk (Kd.R_lower (Kd.R_new' (Kd.R_new' (Kd.R_new' (Kd.R_new' ho1 (Kd.R_lt (rY HO_5.out))) (Kd.R_lt (rY HO_7.out))) (Kd.R_lt (rY HO_488001.out))) (Kd.R_lt (rY HO_488002.out))) (bz_ (by repeat (first | (with_reducible first | exact HB.out | apply ba_ | apply bd_ | apply be_ | refine bs_ ?_ GE487.out) | exact HB.out)))); have n9_ := A_.mk (Kd.R_lower (Kd.R_new' (Kd.R_new' (Kd.R_new' (Kd.R_new' ho2 (Kd.R_lt (rY HO_5.out))) (Kd.R_lt (rY HO_7.out))) (Kd.R_lt (rY HO_488001.out))) (Kd.R_lt (rY HO_488002.out))) (bz_ (by repeat (first | (with_reducible first | exact HB.out | apply ba_ | apply bd_ | apply be_ | refine bs_ ?_ GE487.out) | exact HB.out)))); have n10_ := A_.mk (Kd.N_lower (Kd.N_mono (ok' := fun k_ => some k_ ≠ (v509 : Value).ownBlock ∧ some k_ ≠ (v512 : Value).ownBlock ∧ some k_ ≠ (v515 : Value).ownBlock ∧ some k_ ≠ (.slice Ao7 t475.length co7 : Value).ownBlock ∧ some k_ ≠ (u5 : Value).ownBlock ∧ some k_ ≠ (u7 : Value).ownBlock ∧ some k_ ≠ (.slice Ao63 x488000_2.length co63 : Value).ownBlock ∧ some k_ ≠ (.slice Ao64 x488001_2.length co64 : Value).ownBlock ∧ some k_ ≠ (.slice Ao65 x488002_2.length co65 : Value).ownBlock ∧ some k_ ≠ (.slice Ao66 x488003_2.length co66 : Value).ownBlock ∧ k_ ≠ gb487) ho3 (fun k_ hk_ => ⟨hk_.1.1, hk_.1.2.1, hk_.1.2.2, (Kd.fresh' (Kd.N_lt (by (with_reducible repeat (first | apply Kd.N_alloc | apply Kd.N_drewN | apply Kd.N_drew)); exact HO_4.out)) k_ hk_.2.1), (Kd.fresh' (Kd.R_lt (rY HO_5.out)) k_ hk_.2.1), (Kd.fresh' (Kd.R_lt (rY HO_7.out)) k_ hk_.2.1), (Kd.fresh' (Kd.N_lt (by (with_reducible repeat (first | apply Kd.N_alloc | apply Kd.N_drewN | apply Kd.N_drew)); exact HO_488000.out)) k_ hk_.2.1), (Kd.fresh' (Kd.R_lt (rY HO_488001.out)) k_ hk_.2.1), (Kd.fresh' (Kd.R_lt (rY HO_488002.out)) k_ hk_.2.1), (Kd.fresh' (Kd.N_lt (by (with_reducible repeat (first | apply Kd.N_alloc | apply Kd.N_drewN | apply Kd.N_drew)); exact HO_488003.out)) k_ hk_.2.1), (Kd.freshB (g := gb487) (o := .cells #[.slice Ao63 x488000_2.length co63, .slice Ao64 x488001_2.length co64, .slice Ao65 x488002_2.length co65, .slice Ao66 x488003_2.length co66] 53 (0, 0)) (bY BK487.out) k_ hk_.2.1)⟩)) (bz_ (by repeat (first | (with_reducible first | exact HB.out | apply ba_ | apply bd_ | apply be_ | refine bs_ ?_ GE487.out) | exact HB.out)))); have n11_ := A_.mk (bb_ (bY BK487.out) hb); have n12_ := A_.mk (bt_ (by repeat (first | (with_reducible first | exact HB.out | apply ba_ | apply bd_ | apply be_ | refine bs_ ?_ GE487.out) | exact HB.out)) hb); clear HO_4 HO_5 HO_7 HO_488000 HO_488001 HO_488002 HO_488003 BK487 HB; have HO_4 := n0_; have HO_5 := n1_; have HO_7 := n2_; have HO_488000 := n3_; have HO_488001 := n4_; have HO_488002 := n5_; have HO_488003 := n6_; have HO510 := n7_; have HO513 := n8_; have HO516 := n9_; have HO519 := n10_; have BK487 := n11_; have HB := n12_; clear n0_ n1_ n2_ n3_ n4_ n5_ n6_ n7_ n8_ n9_ n10_ n11_ n12_; (try clear hb); (try clear hb2); (try clear hk); (try clear hi); (try clear ho0); (try clear ho1); (try clear ho2); (try clear ho3)) | ((with_reducible refine gd_ (N := 10) rfl ?_); (try (refine gate_guard (by rfl) ?_; dsimp only)); refine by_ 10 (cs := #[.slice none 0 0, .slice none 0 0, .slice none 0 0, .slice none 0 0]) (t := 53) ?_; intro gb521 hg w70 hbox hb; have n0_ := A_.mk (Kd.N_below (Kd.N_elderB (by (with_reducible repeat (first | apply Kd.N_alloc | apply Kd.N_drewN | apply Kd.N_drew)); exact HO_4.out) gb521 (Nat.le_of_eq hg.symm)) hb); have n1_ := A_.mk (Kd.R_below (rY HO_5.out) hb); have n2_ := A_.mk (Kd.R_below (rY HO_7.out) hb); have n3_ := A_.mk (Kd.N_below (Kd.N_elderB (by (with_reducible repeat (first | apply Kd.N_alloc | apply Kd.N_drewN | apply Kd.N_drew)); exact HO_488000.out) gb521 (Nat.le_of_eq hg.symm)) hb); have n4_ := A_.mk (Kd.R_below (rY HO_488001.out) hb); have n5_ := A_.mk (Kd.R_below (rY HO_488002.out) hb); have n6_ := A_.mk (Kd.N_below (Kd.N_elderB (by (with_reducible repeat (first | apply Kd.N_alloc | apply Kd.N_drewN | apply Kd.N_drew)); exact HO_488003.out) gb521 (Nat.le_of_eq hg.symm)) hb); have n7_ := A_.mk (Kd.N_below (Kd.N_elderB (by (with_reducible repeat (first | apply Kd.N_alloc | apply Kd.N_drewN | apply Kd.N_drew)); exact HO510.out) gb521 (Nat.le_of_eq hg.symm)) hb); have n8_ := A_.mk (Kd.R_below (rY HO513.out) hb); have n9_ := A_.mk (Kd.R_below (rY HO516.out) hb); have n10_ := A_.mk (Kd.N_below (Kd.N_elderB (by (with_reducible repeat (first | apply Kd.N_alloc | apply Kd.N_drewN | apply Kd.N_drew)); exact HO519.out) gb521 (Nat.le_of_eq hg.symm)) hb); have n11_ := A_.mk (bb_ (bY BK487.out) hb); have n12_ := A_.mk (bt_ (by repeat (first | (with_reducible first | exact HB.out | apply ba_ | apply bd_ | apply be_ | refine bs_ ?_ GE487.out) | exact HB.out)) hb); have n13_ := A_.mk (hbox); have n14_ := A_.mk ((by rw [hg]; exact (bz_ (by repeat (first | (with_reducible first | exact HB.out | apply ba_ | apply bd_ | apply be_ | refine bs_ ?_ GE487.out) | exact HB.out))) : w.heap.size ≤ gb521)); have n15_ := A_.mk ((by rw [hg]; exact (bz_ (by repeat (first | (with_reducible first | exact HB.out | apply ba_ | apply bd_ | apply be_ | refine bs_ ?_ GE487.out) | exact HB.out))) : w.heap.size ≤ gb521)); have n16_ := A_.mk ((by rw [hg]; exact Nat.ne_of_lt (blk_lt (bY BK487.out)) : gb487 ≠ gb521)); have n17_ := A_.mk ((by rw [hg]; exact Nat.ne_of_gt (blk_lt (bY BK487.out)) : gb521 ≠ gb487)); clear HO_4 HO_5 HO_7 HO_488000 HO_488001 HO_488002 HO_488003 HO510 HO513 HO516 HO519 BK487 HB; have HO_4 := n0_; have HO_5 := n1_; have HO_7 := n2_; have HO_488000 := n3_; have HO_488001 := n4_; have HO_488002 := n5_; have HO_488003 := n6_; have HO510 := n7_; have HO513 := n8_; have HO516 := n9_; have HO519 := n10_; have BK487 := n11_; have HB := n12_; have BK521 := n13_; have GW521 := n14_; have GE521 := n15_; have NB487_521 := n16_; have NB521_487 := n17_; clear n0_ n1_ n2_ n3_ n4_ n5_ n6_ n7_ n8_ n9_ n10_ n11_ n12_ n13_ n14_ n15_ n16_ n17_ hb hbox hg; obtain ⟨Ao71, co71, eo71⟩ := Kd.N_slice HO510.out; subst eo71; have hnb72 := NB521_487.out; have hnc72 := NB487_521.out; have hcz73_0 : w70.cell? ⟨gb521, 0, none⟩ = some (.slice none 0 0) := (bc_ BK521.out 0).trans rfl; have hcz73_1 : w70.cell? ⟨gb521, 1, none⟩ = some (.slice none 0 0) := (bc_ BK521.out 1).trans rfl; have hcz73_2 : w70.cell? ⟨gb521, 2, none⟩ = some (.slice none 0 0) := (bc_ BK521.out 2).trans rfl; have hcz73_3 : w70.cell? ⟨gb521, 3, none⟩ = some (.slice none 0 0) := (bc_ BK521.out 3).trans rfl; have hfz73_0 := bf_ BK521.out 0; have hfz73_1 := bf_ BK521.out 1; have hfz73_2 := bf_ BK521.out 2; have hfz73_3 := bf_ BK521.out 3; obtain ⟨Ao74, co74, eo74⟩ := Kd.R_slice HO513.out; subst eo74; obtain ⟨Ao75, co75, eo75⟩ := Kd.R_slice HO516.out; subst eo75; obtain ⟨Ao76, co76, eo76⟩ := Kd.N_slice HO519.out; subst eo76))
     have n0_ : A_ (Kd.N k60 60 ((((w70.setCell ⟨gb521, 0, none⟩ (.slice Ao71 t508.length co71)).setCell ⟨gb521, 1, none⟩ (.slice Ao74 t511.length co74)).setCell ⟨gb521, 2, none⟩ (.slice Ao75 t514.length co75)).setCell ⟨gb521, 3, none⟩ (.slice Ao76 t517.length co76)) w.heap.size (fun k_ => some k_ ≠ (u5 : Value).ownBlock ∧ some k_ ≠ (u7 : Value).ownBlock ∧ some k_ ≠ (.slice Ao64 x488001_2.length co64 : Value).ownBlock ∧ some k_ ≠ (.slice Ao65 x488002_2.length co65 : Value).ownBlock ∧ some k_ ≠ (.slice Ao66 x488003_2.length co66 : Value).ownBlock ∧ some k_ ≠ (.slice Ao71 t508.length co71 : Value).ownBlock ∧ some k_ ≠ (.slice Ao74 t511.length co74 : Value).ownBlock ∧ some k_ ≠ (.slice Ao75 t514.length co75 : Value).ownBlock ∧ some k_ ≠ (.slice Ao76 t517.length co76 : Value).ownBlock ∧ k_ ≠ gb487 ∧ k_ ≠ gb521) (.slice Ao7 t475.length co7) t475) := ⟨by (with_reducible repeat (first | apply Kd.N_alloc | apply Kd.N_drewN | apply Kd.N_drew)); exact Kd.N_mono (Kd.N_far (p := ⟨gb521, 3, none⟩) (Kd.N_far (p := ⟨gb521, 2, none⟩) (Kd.N_far (p := ⟨gb521, 1, none⟩) (Kd.N_far (p := ⟨gb521, 0, none⟩) (Kd.N_mono HO_4.out (fun k_ hk => (⟨hk, hk.2⟩ : _ ∧ k_ ≠ gb521))) (fun _ hk => hk.2) (.slice Ao71 t508.length co71)) (fun _ hk => hk.2) (.slice Ao74 t511.length co74)) (fun _ hk => hk.2) (.slice Ao75 t514.length co75)) (fun _ hk => hk.2) (.slice Ao76 t517.length co76)) (fun _ hk => ⟨hk.1.1.1.1.1.1.1, ⟨hk.1.1.1.1.1.1.2.1, ⟨hk.1.1.1.1.1.1.2.2.1, ⟨hk.1.1.1.1.1.1.2.2.2.1, ⟨hk.1.1.1.1.1.1.2.2.2.2.1, ⟨hk.1.1.1.1.1.2, ⟨hk.1.1.1.1.2, ⟨hk.1.1.1.2, ⟨hk.1.1.2, ⟨hk.1.1.1.1.1.1.2.2.2.2.2, hk.1.2⟩⟩⟩⟩⟩⟩⟩⟩⟩⟩)⟩
     have n1_ : A_ (Kd.R (Kd.int .i64) 3 ((((w70.setCell ⟨gb521, 0, none⟩ (.slice Ao71 t508.length co71)).setCell ⟨gb521, 1, none⟩ (.slice Ao74 t511.length co74)).setCell ⟨gb521, 2, none⟩ (.slice Ao75 t514.length co75)).setCell ⟨gb521, 3, none⟩ (.slice Ao76 t517.length co76)) w.heap.size (fun k_ => some k_ ≠ (u7 : Value).ownBlock ∧ some k_ ≠ (.slice Ao64 x488001_2.length co64 : Value).ownBlock ∧ some k_ ≠ (.slice Ao65 x488002_2.length co65 : Value).ownBlock ∧ some k_ ≠ (.slice Ao74 t511.length co74 : Value).ownBlock ∧ some k_ ≠ (.slice Ao75 t514.length co75 : Value).ownBlock) u5 x5_2) := ⟨by (repeat apply rX); exact Kd.R_mono (Kd.R_far (p := ⟨gb521, 3, none⟩) (Kd.R_far (p := ⟨gb521, 2, none⟩) (Kd.R_far (p := ⟨gb521, 1, none⟩) (Kd.R_far (p := ⟨gb521, 0, none⟩) (Kd.R_types HO_5.out BK521.out (by decide)) (fun _ hk => hk.2) (.slice Ao71 t508.length co71)) (fun _ hk => hk.2) (.slice Ao74 t511.length co74)) (fun _ hk => hk.2) (.slice Ao75 t514.length co75)) (fun _ hk => hk.2) (.slice Ao76 t517.length co76)) (fun _ hk => ⟨hk.1.1.1.1, ⟨hk.1.1.1.2.1, ⟨hk.1.1.1.2.2, ⟨hk.1.1.2, hk.1.2⟩⟩⟩⟩)⟩
     have n2_ : A_ (Kd.R (Kd.int .i64) 3 ((((w70.setCell ⟨gb521, 0, none⟩ (.slice Ao71 t508.length co71)).setCell ⟨gb521, 1, none⟩ (.slice Ao74 t511.length co74)).setCell ⟨gb521, 2, none⟩ (.slice Ao75 t514.length co75)).setCell ⟨gb521, 3, none⟩ (.slice Ao76 t517.length co76)) w.heap.size (fun k_ => some k_ ≠ (u5 : Value).ownBlock ∧ some k_ ≠ (.slice Ao64 x488001_2.length co64 : Value).ownBlock ∧ some k_ ≠ (.slice Ao65 x488002_2.length co65 : Value).ownBlock ∧ some k_ ≠ (.slice Ao74 t511.length co74 : Value).ownBlock ∧ some k_ ≠ (.slice Ao75 t514.length co75 : Value).ownBlock) u7 x7_2) := ⟨by (repeat apply rX); exact Kd.R_mono (Kd.R_far (p := ⟨gb521, 3, none⟩) (Kd.R_far (p := ⟨gb521, 2, none⟩) (Kd.R_far (p := ⟨gb521, 1, none⟩) (Kd.R_far (p := ⟨gb521, 0, none⟩) (Kd.R_types HO_7.out BK521.out (by decide)) (fun _ hk => hk.2) (.slice Ao71 t508.length co71)) (fun _ hk => hk.2) (.slice Ao74 t511.length co74)) (fun _ hk => hk.2) (.slice Ao75 t514.length co75)) (fun _ hk => hk.2) (.slice Ao76 t517.length co76)) (fun _ hk => ⟨hk.1.1.1.1, ⟨hk.1.1.1.2.1, ⟨hk.1.1.1.2.2, ⟨hk.1.1.2, hk.1.2⟩⟩⟩⟩)⟩
     have n3_ : A_ (Kd.N k60 60 ((((w70.setCell ⟨gb521, 0, none⟩ (.slice Ao71 t508.length co71)).setCell ⟨gb521, 1, none⟩ (.slice Ao74 t511.length co74)).setCell ⟨gb521, 2, none⟩ (.slice Ao75 t514.length co75)).setCell ⟨gb521, 3, none⟩ (.slice Ao76 t517.length co76)) w.heap.size (fun k_ => some k_ ≠ (u5 : Value).ownBlock ∧ some k_ ≠ (u7 : Value).ownBlock ∧ some k_ ≠ (.slice Ao64 x488001_2.length co64 : Value).ownBlock ∧ some k_ ≠ (.slice Ao65 x488002_2.length co65 : Value).ownBlock ∧ some k_ ≠ (.slice Ao66 x488003_2.length co66 : Value).ownBlock ∧ some k_ ≠ (.slice Ao71 t508.length co71 : Value).ownBlock ∧ some k_ ≠ (.slice Ao74 t511.length co74 : Value).ownBlock ∧ some k_ ≠ (.slice Ao75 t514.length co75 : Value).ownBlock ∧ some k_ ≠ (.slice Ao76 t517.length co76 : Value).ownBlock ∧ k_ ≠ gb487 ∧ k_ ≠ gb521) (.slice Ao63 x488000_2.length co63) x488000_2) := ⟨by (with_reducible repeat (first | apply Kd.N_alloc | apply Kd.N_drewN | apply Kd.N_drew)); exact Kd.N_mono (Kd.N_far (p := ⟨gb521, 3, none⟩) (Kd.N_far (p := ⟨gb521, 2, none⟩) (Kd.N_far (p := ⟨gb521, 1, none⟩) (Kd.N_far (p := ⟨gb521, 0, none⟩) (Kd.N_mono HO_488000.out (fun k_ hk => (⟨hk, hk.2⟩ : _ ∧ k_ ≠ gb521))) (fun _ hk => hk.2) (.slice Ao71 t508.length co71)) (fun _ hk => hk.2) (.slice Ao74 t511.length co74)) (fun _ hk => hk.2) (.slice Ao75 t514.length co75)) (fun _ hk => hk.2) (.slice Ao76 t517.length co76)) (fun _ hk => ⟨hk.1.1.1.1.1.1.1, ⟨hk.1.1.1.1.1.1.2.1, ⟨hk.1.1.1.1.1.1.2.2.1, ⟨hk.1.1.1.1.1.1.2.2.2.1, ⟨hk.1.1.1.1.1.1.2.2.2.2.1, ⟨hk.1.1.1.1.1.2, ⟨hk.1.1.1.1.2, ⟨hk.1.1.1.2, ⟨hk.1.1.2, ⟨hk.1.1.1.1.1.1.2.2.2.2.2, hk.1.2⟩⟩⟩⟩⟩⟩⟩⟩⟩⟩)⟩
     have n4_ : A_ (Kd.R (Kd.int .i64) 3 ((((w70.setCell ⟨gb521, 0, none⟩ (.slice Ao71 t508.length co71)).setCell ⟨gb521, 1, none⟩ (.slice Ao74 t511.length co74)).setCell ⟨gb521, 2, none⟩ (.slice Ao75 t514.length co75)).setCell ⟨gb521, 3, none⟩ (.slice Ao76 t517.length co76)) w.heap.size (fun k_ => some k_ ≠ (u5 : Value).ownBlock ∧ some k_ ≠ (u7 : Value).ownBlock ∧ some k_ ≠ (.slice Ao65 x488002_2.length co65 : Value).ownBlock ∧ some k_ ≠ (.slice Ao74 t511.length co74 : Value).ownBlock ∧ some k_ ≠ (.slice Ao75 t514.length co75 : Value).ownBlock) (.slice Ao64 x488001_2.length co64) x488001_2) := ⟨by (repeat apply rX); exact Kd.R_mono (Kd.R_far (p := ⟨gb521, 3, none⟩) (Kd.R_far (p := ⟨gb521, 2, none⟩) (Kd.R_far (p := ⟨gb521, 1, none⟩) (Kd.R_far (p := ⟨gb521, 0, none⟩) (Kd.R_types HO_488001.out BK521.out (by decide)) (fun _ hk => hk.2) (.slice Ao71 t508.length co71)) (fun _ hk => hk.2) (.slice Ao74 t511.length co74)) (fun _ hk => hk.2) (.slice Ao75 t514.length co75)) (fun _ hk => hk.2) (.slice Ao76 t517.length co76)) (fun _ hk => ⟨hk.1.1.1.1, ⟨hk.1.1.1.2.1, ⟨hk.1.1.1.2.2, ⟨hk.1.1.2, hk.1.2⟩⟩⟩⟩)⟩
     have n5_ : A_ (Kd.R (Kd.int .i64) 3 ((((w70.setCell ⟨gb521, 0, none⟩ (.slice Ao71 t508.length co71)).setCell ⟨gb521, 1, none⟩ (.slice Ao74 t511.length co74)).setCell ⟨gb521, 2, none⟩ (.slice Ao75 t514.length co75)).setCell ⟨gb521, 3, none⟩ (.slice Ao76 t517.length co76)) w.heap.size (fun k_ => some k_ ≠ (u5 : Value).ownBlock ∧ some k_ ≠ (u7 : Value).ownBlock ∧ some k_ ≠ (.slice Ao64 x488001_2.length co64 : Value).ownBlock ∧ some k_ ≠ (.slice Ao74 t511.length co74 : Value).ownBlock ∧ some k_ ≠ (.slice Ao75 t514.length co75 : Value).ownBlock) (.slice Ao65 x488002_2.length co65) x488002_2) := ⟨by (repeat apply rX); exact Kd.R_mono (Kd.R_far (p := ⟨gb521, 3, none⟩) (Kd.R_far (p := ⟨gb521, 2, none⟩) (Kd.R_far (p := ⟨gb521, 1, none⟩) (Kd.R_far (p := ⟨gb521, 0, none⟩) (Kd.R_types HO_488002.out BK521.out (by decide)) (fun _ hk => hk.2) (.slice Ao71 t508.length co71)) (fun _ hk => hk.2) (.slice Ao74 t511.length co74)) (fun _ hk => hk.2) (.slice Ao75 t514.length co75)) (fun _ hk => hk.2) (.slice Ao76 t517.length co76)) (fun _ hk => ⟨hk.1.1.1.1, ⟨hk.1.1.1.2.1, ⟨hk.1.1.1.2.2, ⟨hk.1.1.2, hk.1.2⟩⟩⟩⟩)⟩
     have n6_ : A_ (Kd.N k60 60 ((((w70.setCell ⟨gb521, 0, none⟩ (.slice Ao71 t508.length co71)).setCell ⟨gb521, 1, none⟩ (.slice Ao74 t511.length co74)).setCell ⟨gb521, 2, none⟩ (.slice Ao75 t514.length co75)).setCell ⟨gb521, 3, none⟩ (.slice Ao76 t517.length co76)) w.heap.size (fun k_ => some k_ ≠ (.slice Ao7 t475.length co7 : Value).ownBlock ∧ some k_ ≠ (u5 : Value).ownBlock ∧ some k_ ≠ (u7 : Value).ownBlock ∧ some k_ ≠ (.slice Ao63 x488000_2.length co63 : Value).ownBlock ∧ some k_ ≠ (.slice Ao64 x488001_2.length co64 : Value).ownBlock ∧ some k_ ≠ (.slice Ao65 x488002_2.length co65 : Value).ownBlock ∧ some k_ ≠ (.slice Ao71 t508.length co71 : Value).ownBlock ∧ some k_ ≠ (.slice Ao74 t511.length co74 : Value).ownBlock ∧ some k_ ≠ (.slice Ao75 t514.length co75 : Value).ownBlock ∧ some k_ ≠ (.slice Ao76 t517.length co76 : Value).ownBlock ∧ k_ ≠ gb487 ∧ k_ ≠ gb521) (.slice Ao66 x488003_2.length co66) x488003_2) := ⟨by (with_reducible repeat (first | apply Kd.N_alloc | apply Kd.N_drewN | apply Kd.N_drew)); exact Kd.N_mono (Kd.N_far (p := ⟨gb521, 3, none⟩) (Kd.N_far (p := ⟨gb521, 2, none⟩) (Kd.N_far (p := ⟨gb521, 1, none⟩) (Kd.N_far (p := ⟨gb521, 0, none⟩) (Kd.N_mono HO_488003.out (fun k_ hk => (⟨hk, hk.2⟩ : _ ∧ k_ ≠ gb521))) (fun _ hk => hk.2) (.slice Ao71 t508.length co71)) (fun _ hk => hk.2) (.slice Ao74 t511.length co74)) (fun _ hk => hk.2) (.slice Ao75 t514.length co75)) (fun _ hk => hk.2) (.slice Ao76 t517.length co76)) (fun _ hk => ⟨hk.1.1.1.1.1.1.1, ⟨hk.1.1.1.1.1.1.2.1, ⟨hk.1.1.1.1.1.1.2.2.1, ⟨hk.1.1.1.1.1.1.2.2.2.1, ⟨hk.1.1.1.1.1.1.2.2.2.2.1, ⟨hk.1.1.1.1.1.1.2.2.2.2.2.1, ⟨hk.1.1.1.1.1.2, ⟨hk.1.1.1.1.2, ⟨hk.1.1.1.2, ⟨hk.1.1.2, ⟨hk.1.1.1.1.1.1.2.2.2.2.2.2, hk.1.2⟩⟩⟩⟩⟩⟩⟩⟩⟩⟩⟩)⟩
     have n7_ : A_ (Kd.N k60 60 ((((w70.setCell ⟨gb521, 0, none⟩ (.slice Ao71 t508.length co71)).setCell ⟨gb521, 1, none⟩ (.slice Ao74 t511.length co74)).setCell ⟨gb521, 2, none⟩ (.slice Ao75 t514.length co75)).setCell ⟨gb521, 3, none⟩ (.slice Ao76 t517.length co76)) w.heap.size (fun k_ => some k_ ≠ (.slice Ao7 t475.length co7 : Value).ownBlock ∧ some k_ ≠ (u5 : Value).ownBlock ∧ some k_ ≠ (u7 : Value).ownBlock ∧ some k_ ≠ (.slice Ao63 x488000_2.length co63 : Value).ownBlock ∧ some k_ ≠ (.slice Ao64 x488001_2.length co64 : Value).ownBlock ∧ some k_ ≠ (.slice Ao65 x488002_2.length co65 : Value).ownBlock ∧ some k_ ≠ (.slice Ao66 x488003_2.length co66 : Value).ownBlock ∧ some k_ ≠ (.slice Ao74 t511.length co74 : Value).ownBlock ∧ some k_ ≠ (.slice Ao75 t514.length co75 : Value).ownBlock ∧ some k_ ≠ (.slice Ao76 t517.length co76 : Value).ownBlock ∧ k_ ≠ gb487 ∧ k_ ≠ gb521) (.slice Ao71 t508.length co71) t508) := ⟨by (with_reducible repeat (first | apply Kd.N_alloc | apply Kd.N_drewN | apply Kd.N_drew)); exact Kd.N_mono (Kd.N_far (p := ⟨gb521, 3, none⟩) (Kd.N_far (p := ⟨gb521, 2, none⟩) (Kd.N_far (p := ⟨gb521, 1, none⟩) (Kd.N_far (p := ⟨gb521, 0, none⟩) (Kd.N_mono HO510.out (fun k_ hk => (⟨hk, hk.2⟩ : _ ∧ k_ ≠ gb521))) (fun _ hk => hk.2) (.slice Ao71 t508.length co71)) (fun _ hk => hk.2) (.slice Ao74 t511.length co74)) (fun _ hk => hk.2) (.slice Ao75 t514.length co75)) (fun _ hk => hk.2) (.slice Ao76 t517.length co76)) (fun _ hk => ⟨hk.1.1.2.2.2.1, ⟨hk.1.1.2.2.2.2.1, ⟨hk.1.1.2.2.2.2.2.1, ⟨hk.1.1.2.2.2.2.2.2.1, ⟨hk.1.1.2.2.2.2.2.2.2.1, ⟨hk.1.1.2.2.2.2.2.2.2.2.1, ⟨hk.1.1.2.2.2.2.2.2.2.2.2.1, ⟨hk.1.1.1, ⟨hk.1.1.2.1, ⟨hk.1.1.2.2.1, ⟨hk.1.1.2.2.2.2.2.2.2.2.2.2, hk.1.2⟩⟩⟩⟩⟩⟩⟩⟩⟩⟩⟩)⟩
     have n8_ : A_ (Kd.R (Kd.int .i64) 3 ((((w70.setCell ⟨gb521, 0, none⟩ (.slice Ao71 t508.length co71)).setCell ⟨gb521, 1, none⟩ (.slice Ao74 t511.length co74)).setCell ⟨gb521, 2, none⟩ (.slice Ao75 t514.length co75)).setCell ⟨gb521, 3, none⟩ (.slice Ao76 t517.length co76)) w.heap.size (fun k_ => some k_ ≠ (u5 : Value).ownBlock ∧ some k_ ≠ (u7 : Value).ownBlock ∧ some k_ ≠ (.slice Ao64 x488001_2.length co64 : Value).ownBlock ∧ some k_ ≠ (.slice Ao65 x488002_2.length co65 : Value).ownBlock ∧ some k_ ≠ (.slice Ao75 t514.length co75 : Value).ownBlock) (.slice Ao74 t511.length co74) t511) := ⟨by (repeat apply rX); exact Kd.R_mono (Kd.R_far (p := ⟨gb521, 3, none⟩) (Kd.R_far (p := ⟨gb521, 2, none⟩) (Kd.R_far (p := ⟨gb521, 1, none⟩) (Kd.R_far (p := ⟨gb521, 0, none⟩) (Kd.R_types HO513.out BK521.out (by decide)) (fun _ hk => hk.2) (.slice Ao71 t508.length co71)) (fun _ hk => hk.2) (.slice Ao74 t511.length co74)) (fun _ hk => hk.2) (.slice Ao75 t514.length co75)) (fun _ hk => hk.2) (.slice Ao76 t517.length co76)) (fun _ hk => ⟨hk.1.1.1.1.2, ⟨hk.1.1.1.2, ⟨hk.1.1.2, ⟨hk.1.2, hk.1.1.1.1.1⟩⟩⟩⟩)⟩
     have n9_ : A_ (Kd.R (Kd.int .i64) 3 ((((w70.setCell ⟨gb521, 0, none⟩ (.slice Ao71 t508.length co71)).setCell ⟨gb521, 1, none⟩ (.slice Ao74 t511.length co74)).setCell ⟨gb521, 2, none⟩ (.slice Ao75 t514.length co75)).setCell ⟨gb521, 3, none⟩ (.slice Ao76 t517.length co76)) w.heap.size (fun k_ => some k_ ≠ (u5 : Value).ownBlock ∧ some k_ ≠ (u7 : Value).ownBlock ∧ some k_ ≠ (.slice Ao64 x488001_2.length co64 : Value).ownBlock ∧ some k_ ≠ (.slice Ao65 x488002_2.length co65 : Value).ownBlock ∧ some k_ ≠ (.slice Ao74 t511.length co74 : Value).ownBlock) (.slice Ao75 t514.length co75) t514) := ⟨by (repeat apply rX); exact Kd.R_mono (Kd.R_far (p := ⟨gb521, 3, none⟩) (Kd.R_far (p := ⟨gb521, 2, none⟩) (Kd.R_far (p := ⟨gb521, 1, none⟩) (Kd.R_far (p := ⟨gb521, 0, none⟩) (Kd.R_types HO516.out BK521.out (by decide)) (fun _ hk => hk.2) (.slice Ao71 t508.length co71)) (fun _ hk => hk.2) (.slice Ao74 t511.length co74)) (fun _ hk => hk.2) (.slice Ao75 t514.length co75)) (fun _ hk => hk.2) (.slice Ao76 t517.length co76)) (fun _ hk => ⟨hk.1.1.1.1.2, ⟨hk.1.1.1.2, ⟨hk.1.1.2, ⟨hk.1.2, hk.1.1.1.1.1⟩⟩⟩⟩)⟩
     have n10_ : A_ (Kd.N k60 60 ((((w70.setCell ⟨gb521, 0, none⟩ (.slice Ao71 t508.length co71)).setCell ⟨gb521, 1, none⟩ (.slice Ao74 t511.length co74)).setCell ⟨gb521, 2, none⟩ (.slice Ao75 t514.length co75)).setCell ⟨gb521, 3, none⟩ (.slice Ao76 t517.length co76)) w.heap.size (fun k_ => some k_ ≠ (.slice Ao7 t475.length co7 : Value).ownBlock ∧ some k_ ≠ (u5 : Value).ownBlock ∧ some k_ ≠ (u7 : Value).ownBlock ∧ some k_ ≠ (.slice Ao63 x488000_2.length co63 : Value).ownBlock ∧ some k_ ≠ (.slice Ao64 x488001_2.length co64 : Value).ownBlock ∧ some k_ ≠ (.slice Ao65 x488002_2.length co65 : Value).ownBlock ∧ some k_ ≠ (.slice Ao66 x488003_2.length co66 : Value).ownBlock ∧ some k_ ≠ (.slice Ao71 t508.length co71 : Value).ownBlock ∧ some k_ ≠ (.slice Ao74 t511.length co74 : Value).ownBlock ∧ some k_ ≠ (.slice Ao75 t514.length co75 : Value).ownBlock ∧ k_ ≠ gb487 ∧ k_ ≠ gb521) (.slice Ao76 t517.length co76) t517) := ⟨by (with_reducible repeat (first | apply Kd.N_alloc | apply Kd.N_drewN | apply Kd.N_drew)); exact Kd.N_mono (Kd.N_far (p := ⟨gb521, 3, none⟩) (Kd.N_far (p := ⟨gb521, 2, none⟩) (Kd.N_far (p := ⟨gb521, 1, none⟩) (Kd.N_far (p := ⟨gb521, 0, none⟩) (Kd.N_mono HO519.out (fun k_ hk => (⟨hk, hk.2⟩ : _ ∧ k_ ≠ gb521))) (fun _ hk => hk.2) (.slice Ao71 t508.length co71)) (fun _ hk => hk.2) (.slice Ao74 t511.length co74)) (fun _ hk => hk.2) (.slice Ao75 t514.length co75)) (fun _ hk => hk.2) (.slice Ao76 t517.length co76)) (fun _ hk => ⟨hk.1.1.2.2.2.1, ⟨hk.1.1.2.2.2.2.1, ⟨hk.1.1.2.2.2.2.2.1, ⟨hk.1.1.2.2.2.2.2.2.1, ⟨hk.1.1.2.2.2.2.2.2.2.1, ⟨hk.1.1.2.2.2.2.2.2.2.2.1, ⟨hk.1.1.2.2.2.2.2.2.2.2.2.1, ⟨hk.1.1.1, ⟨hk.1.1.2.1, ⟨hk.1.1.2.2.1, ⟨hk.1.1.2.2.2.2.2.2.2.2.2.2, hk.1.2⟩⟩⟩⟩⟩⟩⟩⟩⟩⟩⟩)⟩
     have n11_ : A_ (((((w70.setCell ⟨gb521, 0, none⟩ (.slice Ao71 t508.length co71)).setCell ⟨gb521, 1, none⟩ (.slice Ao74 t511.length co74)).setCell ⟨gb521, 2, none⟩ (.slice Ao75 t514.length co75)).setCell ⟨gb521, 3, none⟩ (.slice Ao76 t517.length co76)).heap[gb487]? = some (.cells #[.slice Ao63 x488000_2.length co63, .slice Ao64 x488001_2.length co64, .slice Ao65 x488002_2.length co65, .slice Ao66 x488003_2.length co66] 53 (0, 0))) := ⟨by (repeat apply bX); refine blk_far ?_ NB487_521.out _; (repeat apply bX); refine blk_far ?_ NB487_521.out _; (repeat apply bX); refine blk_far ?_ NB487_521.out _; (repeat apply bX); refine blk_far ?_ NB487_521.out _; (repeat apply bX); exact BK487.out⟩
     have n12_ : A_ (((((w70.setCell ⟨gb521, 0, none⟩ (.slice Ao71 t508.length co71)).setCell ⟨gb521, 1, none⟩ (.slice Ao74 t511.length co74)).setCell ⟨gb521, 2, none⟩ (.slice Ao75 t514.length co75)).setCell ⟨gb521, 3, none⟩ (.slice Ao76 t517.length co76)).heap[gb521]? = some (.cells #[.slice Ao71 t508.length co71, .slice Ao74 t511.length co74, .slice Ao75 t514.length co75, .slice Ao76 t517.length co76] 53 (0, 0))) := ⟨by (repeat apply bX); refine bp_ (cs := #[.slice Ao71 t508.length co71, .slice Ao74 t511.length co74, .slice Ao75 t514.length co75, .slice none 0 0]) ?_ 3 _ rfl; (repeat apply bX); refine bp_ (cs := #[.slice Ao71 t508.length co71, .slice Ao74 t511.length co74, .slice none 0 0, .slice none 0 0]) ?_ 2 _ rfl; (repeat apply bX); refine bp_ (cs := #[.slice Ao71 t508.length co71, .slice none 0 0, .slice none 0 0, .slice none 0 0]) ?_ 1 _ rfl; (repeat apply bX); refine bp_ (cs := #[.slice none 0 0, .slice none 0 0, .slice none 0 0, .slice none 0 0]) ?_ 0 _ rfl; (repeat apply bX); exact BK521.out⟩
     have n13_ : A_ (Below w.heap.size w ((((w70.setCell ⟨gb521, 0, none⟩ (.slice Ao71 t508.length co71)).setCell ⟨gb521, 1, none⟩ (.slice Ao74 t511.length co74)).setCell ⟨gb521, 2, none⟩ (.slice Ao75 t514.length co75)).setCell ⟨gb521, 3, none⟩ (.slice Ao76 t517.length co76))) := ⟨by repeat (first | (with_reducible first | exact HB.out | apply ba_ | apply bd_ | apply be_ | refine bs_ ?_ GE487.out | refine bs_ ?_ GE521.out) | exact HB.out)⟩
     generalize ((((w70.setCell ⟨gb521, 0, none⟩ (.slice Ao71 t508.length co71)).setCell ⟨gb521, 1, none⟩ (.slice Ao74 t511.length co74)).setCell ⟨gb521, 2, none⟩ (.slice Ao75 t514.length co75)).setCell ⟨gb521, 3, none⟩ (.slice Ao76 t517.length co76)) = w77 at n0_ n1_ n2_ n3_ n4_ n5_ n6_ n7_ n8_ n9_ n10_ n11_ n12_ n13_ ⊢
     have HO_4 := n0_
     have HO_5 := n1_
     have HO_7 := n2_
     have HO_488000 := n3_
     have HO_488001 := n4_
     have HO_488002 := n5_
     have HO_488003 := n6_
     have HO510 := n7_
     have HO513 := n8_
     have HO516 := n9_
     have HO519 := n10_
     have BK487 := n11_
     have BK521 := n12_
     have HB := n13_
     clear n0_ n1_ n2_ n3_ n4_ n5_ n6_ n7_ n8_ n9_ n10_ n11_ n12_ n13_
     have n0_ := A_.mk (Kd.N_drew HO_4.out)
     have n1_ := A_.mk (Kd.R_drew HO_5.out)
     have n2_ := A_.mk (Kd.R_drew HO_7.out)
     have n3_ := A_.mk (Kd.N_drew HO_488000.out)
     have n4_ := A_.mk (Kd.R_drew HO_488001.out)
     have n5_ := A_.mk (Kd.R_drew HO_488002.out)
     have n6_ := A_.mk (Kd.N_drew HO_488003.out)
     have n7_ := A_.mk (Kd.N_drew HO510.out)
     have n8_ := A_.mk (Kd.R_drew HO513.out)
     have n9_ := A_.mk (Kd.R_drew HO516.out)
     have n10_ := A_.mk (Kd.N_drew HO519.out)
     have n11_ := A_.mk (bw_ BK487.out)
     have n12_ := A_.mk (bw_ BK521.out)
     have n13_ := A_.mk (be_ HB.out)
     clear HO_4 HO_5 HO_7 HO_488000 HO_488001 HO_488002 HO_488003 HO510 HO513 HO516 HO519 BK487 BK521 HB
     have HO_4 := n0_
     have HO_5 := n1_
     have HO_7 := n2_
     have HO_488000 := n3_
     have HO_488001 := n4_
     have HO_488002 := n5_
     have HO_488003 := n6_
     have HO510 := n7_
     have HO513 := n8_
     have HO516 := n9_
     have HO519 := n10_
     have BK487 := n11_
     have BK521 := n12_
     have HB := n13_
     clear n0_ n1_ n2_ n3_ n4_ n5_ n6_ n7_ n8_ n9_ n10_ n11_ n12_ n13_
     obtain ⟨Ao79, co79, eo79⟩ := Kd.R_slice HO_5.out
     (first | subst eo79 | (injection eo79 with f1_ f2_ f3_; have f4_ := f1_.symm; have f5_ := f3_.symm; clear f1_ f2_ f3_; subst f4_; subst f5_))
     obtain ⟨Ao80, co80, eo80⟩ := Kd.R_slice HO_7.out
     (first | subst eo80 | (injection eo80 with f1_ f2_ f3_; have f4_ := f1_.symm; have f5_ := f3_.symm; clear f1_ f2_ f3_; subst f4_; subst f5_))
     have p522 : 0 ≤ ((x7_2.length : Int) : Int) := od_
     have q522 : (x7_2.length : Int) < (t517.length : Int) := od_
     obtain ⟨ad522, A522_7, c522_7, e522, hx522_0, hx522_1, hx522_2, hx522_3, hx522_4, hx522_5, hx522_6, hx522_7, hl522_7, hi522_7⟩ := at_T60 (Kd.N_reads' HO519.out).2.2 (x7_2.length : Int) p522 q522
     cases e522
     obtain ⟨ce522, hce522, hMe522, hcc522⟩ := Kd.N_get HO519.out z60 (x7_2.length : Int) p522 (by first | exact q522 | exact od_ | (have e_ := (Kd.N_reads' HO519.out).1; omega))
     obtain ⟨ua522_7, uc522_7, rfl, ul522_7, ge522_7⟩ := k60_openF hMe522
     have hv522_7 := hcc522 7 _ rfl
     rw [add_field _ _ 7 (by omega)] at hv522_7
     replace hv522_7 := Option.some.inj (hv522_7.symm.trans hx522_7)
     injection hv522_7 with hva_ hvn_ hvc_
     rw [hva_] at ge522_7
     rw [hvc_] at ul522_7
     have HL522_7 := A_.mk (show Kd.V (Kd.int .i64) 3 _ w.heap.size _ _ ((rd_T60 t517 (x7_2.length : Int)).f7) from Kd.V_mk ul522_7 ge522_7)
     clear hva_ hvn_ hvc_ ge522_7 ul522_7 hcc522 hce522
     have HR522_7 := A_.mk hi522_7
     have HC522_7 := A_.mk hl522_7
     clear hi522_7 hl522_7
     (try simp only [Go.IntWalk.toNatUp] at hx522_0)
     (try simp only [Go.IntWalk.toNatUp] at hx522_1)
     (try simp only [Go.IntWalk.toNatUp] at hx522_2)
     (try simp only [Go.IntWalk.toNatUp] at hx522_3)
     (try simp only [Go.IntWalk.toNatUp] at hx522_4)
     (try simp only [Go.IntWalk.toNatUp] at hx522_5)
     (try simp only [Go.IntWalk.toNatUp] at hx522_6)
     (try simp only [Go.IntWalk.toNatUp] at hx522_7)
     replace p522 := eq_true p522
     replace q522 := eq_true q522
     have p523 : 0 ≤ (t502 : Int) := od_
     have q523 : t502 < (x5_2.length : Int) := od_
     obtain ⟨ad523, e523, hx523_0⟩ := Kd.at_int (Kd.R_reads' HO_5.out).2.2 t502 p523 q523
     cases e523
     replace p523 := eq_true p523
     replace q523 := eq_true q523
     have p524 : 0 ≤ ((rd x5_2 t502) : Int) := od_
     have q524 : (rd x5_2 t502) < (t475.length : Int) := od_
     obtain ⟨ad524, A524_7, c524_7, e524, hx524_0, hx524_1, hx524_2, hx524_3, hx524_4, hx524_5, hx524_6, hx524_7, hl524_7, hi524_7⟩ := at_T60 (Kd.N_reads' HO_4.out).2.2 (rd x5_2 t502) p524 q524
     cases e524
     obtain ⟨ce524, hce524, hMe524, hcc524⟩ := Kd.N_get HO_4.out z60 (rd x5_2 t502) p524 (by first | exact q524 | exact od_ | (have e_ := (Kd.N_reads' HO_4.out).1; omega))
     obtain ⟨ua524_7, uc524_7, rfl, ul524_7, ge524_7⟩ := k60_openF hMe524
     have hv524_7 := hcc524 7 _ rfl
     rw [add_field _ _ 7 (by omega)] at hv524_7
     replace hv524_7 := Option.some.inj (hv524_7.symm.trans hx524_7)
     injection hv524_7 with hva_ hvn_ hvc_
     rw [hva_] at ge524_7
     rw [hvc_] at ul524_7
     have HL524_7 := A_.mk (show Kd.V (Kd.int .i64) 3 _ w.heap.size _ _ ((rd_T60 t475 (rd x5_2 t502)).f7) from Kd.V_mk ul524_7 ge524_7)
     clear hva_ hvn_ hvc_ ge524_7 ul524_7 hcc524 hce524
     have HR524_7 := A_.mk hi524_7
     have HC524_7 := A_.mk hl524_7
     clear hi524_7 hl524_7
     replace p524 := eq_true p524
     replace q524 := eq_true q524
     refine start_ (n := 39) (S := fun w' => w'.cell? ⟨gb521, 0, none⟩ = some (.slice Ao71 t508.length co71) ∧ w'.cell? ⟨gb521, 1, none⟩ = some (.slice Ao74 t511.length co74) ∧ w'.cell? ⟨gb521, 2, none⟩ = some (.slice Ao75 t514.length co75) ∧ w'.cell? ⟨gb521, 3, none⟩ = some (.slice (some ad522) t517.length co76) ∧ w'.cell? (ad522.add (x7_2.length * 8)) = some (.int .i64 ((rd_T60 t517 (x7_2.length : Int)).f0)) ∧ w'.cell? ⟨(ad522.add (x7_2.length * 8)).block, (ad522.add (x7_2.length * 8)).off + 1, none⟩ = some (.int .i64 ((rd_T60 t517 (x7_2.length : Int)).f1)) ∧ w'.cell? ⟨(ad522.add (x7_2.length * 8)).block, (ad522.add (x7_2.length * 8)).off + 2, none⟩ = some (.int .i64 ((rd_T60 t517 (x7_2.length : Int)).f2)) ∧ w'.cell? ⟨(ad522.add (x7_2.length * 8)).block, (ad522.add (x7_2.length * 8)).off + 3, none⟩ = some (.int .i64 ((rd_T60 t517 (x7_2.length : Int)).f3)) ∧ w'.cell? ⟨(ad522.add (x7_2.length * 8)).block, (ad522.add (x7_2.length * 8)).off + 4, none⟩ = some (.int .i64 ((rd_T60 t517 (x7_2.length : Int)).f4)) ∧ w'.cell? ⟨(ad522.add (x7_2.length * 8)).block, (ad522.add (x7_2.length * 8)).off + 5, none⟩ = some (.int .i64 ((rd_T60 t517 (x7_2.length : Int)).f5)) ∧ w'.cell? ⟨(ad522.add (x7_2.length * 8)).block, (ad522.add (x7_2.length * 8)).off + 6, none⟩ = some (.int .i64 ((rd_T60 t517 (x7_2.length : Int)).f6)) ∧ w'.cell? ⟨(ad522.add (x7_2.length * 8)).block, (ad522.add (x7_2.length * 8)).off + 7, none⟩ = some (.slice A522_7 ((rd_T60 t517 (x7_2.length : Int)).f7).length c522_7) ∧ w'.cell? (ad523.add (t502).toNat) = some (.int .i64 (rd x5_2 t502)) ∧ w'.cell? (ad524.add (((rd x5_2 t502)).toNat * 8)) = some (.int .i64 ((rd_T60 t475 (rd x5_2 t502)).f0)) ∧ w'.cell? ⟨(ad524.add (((rd x5_2 t502)).toNat * 8)).block, (ad524.add (((rd x5_2 t502)).toNat * 8)).off + 1, none⟩ = some (.int .i64 ((rd_T60 t475 (rd x5_2 t502)).f1)) ∧ w'.cell? ⟨(ad524.add (((rd x5_2 t502)).toNat * 8)).block, (ad524.add (((rd x5_2 t502)).toNat * 8)).off + 2, none⟩ = some (.int .i64 ((rd_T60 t475 (rd x5_2 t502)).f2)) ∧ w'.cell? ⟨(ad524.add (((rd x5_2 t502)).toNat * 8)).block, (ad524.add (((rd x5_2 t502)).toNat * 8)).off + 3, none⟩ = some (.int .i64 ((rd_T60 t475 (rd x5_2 t502)).f3)) ∧ w'.cell? ⟨(ad524.add (((rd x5_2 t502)).toNat * 8)).block, (ad524.add (((rd x5_2 t502)).toNat * 8)).off + 4, none⟩ = some (.int .i64 ((rd_T60 t475 (rd x5_2 t502)).f4)) ∧ w'.cell? ⟨(ad524.add (((rd x5_2 t502)).toNat * 8)).block, (ad524.add (((rd x5_2 t502)).toNat * 8)).off + 5, none⟩ = some (.int .i64 ((rd_T60 t475 (rd x5_2 t502)).f5)) ∧ w'.cell? ⟨(ad524.add (((rd x5_2 t502)).toNat * 8)).block, (ad524.add (((rd x5_2 t502)).toNat * 8)).off + 6, none⟩ = some (.int .i64 ((rd_T60 t475 (rd x5_2 t502)).f6)) ∧ w'.cell? ⟨(ad524.add (((rd x5_2 t502)).toNat * 8)).block, (ad524.add (((rd x5_2 t502)).toNat * 8)).off + 7, none⟩ = some (.slice A524_7 ((rd_T60 t475 (rd x5_2 t502)).f7).length c524_7)) (ds := []) #[F, F, F, F, F, F, F, F, F, F, F, F, F, F, F, F, F, F, F, F, F, F, F, F, F, F, F, F, F, F, F, F, F, F, F, F, F, F, F] (by kernel_rfl) rfl rfl ⟨(bc_ BK521.out 0).trans rfl, (bc_ BK521.out 1).trans rfl, (bc_ BK521.out 2).trans rfl, (bc_ BK521.out 3).trans rfl, hx522_0, hx522_1, hx522_2, hx522_3, hx522_4, hx522_5, hx522_6, hx522_7, hx523_0, hx524_0, hx524_1, hx524_2, hx524_3, hx524_4, hx524_5, hx524_6, hx524_7⟩ (fun hHeld => ?_); refine with_tabW laws_FnQueues.tab17 laws_FnQueues.bits17 (fun HT_ HW_ => ?_)
     generalize w77.drew = w78 at HO_4 HO_5 HO_7 HO_488000 HO_488001 HO_488002 HO_488003 HO510 HO513 HO516 HO519 BK487 BK521 HB HL522_7 HL524_7 HR522_7 HR524_7 hx522_0 hx522_1 hx522_2 hx522_3 hx522_4 hx522_5 hx522_6 hx522_7 hx523_0 hx524_0 hx524_1 hx524_2 hx524_3 hx524_4 hx524_5 hx524_6 hx524_7 hHeld ⊢
     refine pr_ (i := 0) (N := some 45) #[T, F, F, F, F, F, F, F, F, F, F, F, F, F, F, F, F, F, F, F, F, F, F, F, F, F, F, F, F, F, F, F, F, F, F, F, F, F, F] rfl HT_.out ?_
     refine pr_ (i := 1) (N := some 46) #[T, T, F, F, F, F, F, F, F, F, F, F, F, F, F, F, F, F, F, F, F, F, F, F, F, F, F, F, F, F, F, F, F, F, F, F, F, F, F] rfl HT_.out ?_
     refine pr_ (i := 2) (N := some 47) #[T, T, T, F, F, F, F, F, F, F, F, F, F, F, F, F, F, F, F, F, F, F, F, F, F, F, F, F, F, F, F, F, F, F, F, F, F, F, F] rfl HT_.out ?_
     refine pr_ (i := 3) (N := some 48) #[T, T, T, T, F, F, F, F, F, F, F, F, F, F, F, F, F, F, F, F, F, F, F, F, F, F, F, F, F, F, F, F, F, F, F, F, F, F, F] rfl HT_.out ?_
     refine pr_ (i := 4) (N := some 49) #[T, T, T, T, T, F, F, F, F, F, F, F, F, F, F, F, F, F, F, F, F, F, F, F, F, F, F, F, F, F, F, F, F, F, F, F, F, F, F] rfl HT_.out ?_
     refine pr_ (i := 5) (N := some 50) #[T, T, T, T, T, T, F, F, F, F, F, F, F, F, F, F, F, F, F, F, F, F, F, F, F, F, F, F, F, F, F, F, F, F, F, F, F, F, F] rfl HT_.out ?_
     refine pr_ (i := 6) (N := some 51) #[T, T, T, T, T, T, T, F, F, F, F, F, F, F, F, F, F, F, F, F, F, F, F, F, F, F, F, F, F, F, F, F, F, F, F, F, F, F, F] rfl HT_.out ?_
     refine pr_ (i := 7) (N := some 52) #[T, T, T, T, T, T, T, T, F, F, F, F, F, F, F, F, F, F, F, F, F, F, F, F, F, F, F, F, F, F, F, F, F, F, F, F, F, F, F] rfl HT_.out ?_
     refine pr_ (i := 8) (N := some 53) #[T, T, T, T, T, T, T, T, T, F, F, F, F, F, F, F, F, F, F, F, F, F, F, F, F, F, F, F, F, F, F, F, F, F, F, F, F, F, F] rfl HT_.out ?_
     refine pr_ (i := 9) (N := some 54) #[T, T, T, T, T, T, T, T, T, T, F, F, F, F, F, F, F, F, F, F, F, F, F, F, F, F, F, F, F, F, F, F, F, F, F, F, F, F, F] rfl HT_.out ?_
     refine pr_ (i := 12) (N := some 57) #[T, T, T, T, T, T, T, T, T, T, F, F, T, F, F, F, F, F, F, F, F, F, F, F, F, F, F, F, F, F, F, F, F, F, F, F, F, F, F] rfl HT_.out ?_
     refine pr_ (i := 13) (N := some 58) #[T, T, T, T, T, T, T, T, T, T, F, F, T, T, F, F, F, F, F, F, F, F, F, F, F, F, F, F, F, F, F, F, F, F, F, F, F, F, F] rfl HT_.out ?_
     refine pr_ (i := 14) (N := some 59) #[T, T, T, T, T, T, T, T, T, T, F, F, T, T, T, F, F, F, F, F, F, F, F, F, F, F, F, F, F, F, F, F, F, F, F, F, F, F, F] rfl HT_.out ?_
     refine take_ (i := 10) (N := some 55) (v := ?_) (a' := ?_) #[T, T, T, T, T, T, T, T, T, T, T, F, T, T, T, F, F, F, F, F, F, F, F, F, F, F, F, F, F, F, F, F, F, F, F, F, F, F, F] rfl rfl (take_ofW HT_.out HW_.out (by kernel_rfl)) (fun _ _ _ h => h) (Or.inl ⟨by rfl, ?_⟩) hHeld ?_ ?_
     rotate_left
     ·rintro w' ⟨s0, s1, s2, s3, s4, s5, s6, s7, s8, s9, s10, s11, s12, s13, s14, s15, s16, s17, s18, s19, s20⟩
      go_simp
      with_reducible rfl
     rotate_left
     ·simp only [pS]
      rfl
     refine pr_ (i := 11) (N := some 56) #[T, T, T, T, T, T, T, T, T, T, T, T, T, T, T, F, F, F, F, F, F, F, F, F, F, F, F, F, F, F, F, F, F, F, F, F, F, F, F] rfl HT_.out ?_
     refine pr_ (i := 15) (N := some 60) #[T, T, T, T, T, T, T, T, T, T, T, T, T, T, T, T, F, F, F, F, F, F, F, F, F, F, F, F, F, F, F, F, F, F, F, F, F, F, F] rfl HT_.out ?_
     refine pr_ (i := 16) (N := some 61) #[T, T, T, T, T, T, T, T, T, T, T, T, T, T, T, T, T, F, F, F, F, F, F, F, F, F, F, F, F, F, F, F, F, F, F, F, F, F, F] rfl HT_.out ?_
     refine pr_ (i := 17) (N := some 62) #[T, T, T, T, T, T, T, T, T, T, T, T, T, T, T, T, T, T, F, F, F, F, F, F, F, F, F, F, F, F, F, F, F, F, F, F, F, F, F] rfl HT_.out ?_
     refine pr_ (i := 18) (N := some 63) #[T, T, T, T, T, T, T, T, T, T, T, T, T, T, T, T, T, T, T, F, F, F, F, F, F, F, F, F, F, F, F, F, F, F, F, F, F, F, F] rfl HT_.out ?_
     refine pr_ (i := 20) (N := some 65) #[T, T, T, T, T, T, T, T, T, T, T, T, T, T, T, T, T, T, T, F, T, F, F, F, F, F, F, F, F, F, F, F, F, F, F, F, F, F, F] rfl HT_.out ?_
     refine pr_ (i := 21) (N := some 66) #[T, T, T, T, T, T, T, T, T, T, T, T, T, T, T, T, T, T, T, F, T, T, F, F, F, F, F, F, F, F, F, F, F, F, F, F, F, F, F] rfl HT_.out ?_
     refine pr_ (i := 24) (N := some 69) #[T, T, T, T, T, T, T, T, T, T, T, T, T, T, T, T, T, T, T, F, T, T, F, F, T, F, F, F, F, F, F, F, F, F, F, F, F, F, F] rfl HT_.out ?_
     refine pr_ (i := 25) (N := some 70) #[T, T, T, T, T, T, T, T, T, T, T, T, T, T, T, T, T, T, T, F, T, T, F, F, T, T, F, F, F, F, F, F, F, F, F, F, F, F, F] rfl HT_.out ?_
     refine pr_ (i := 26) (N := some 71) #[T, T, T, T, T, T, T, T, T, T, T, T, T, T, T, T, T, T, T, F, T, T, F, F, T, T, T, F, F, F, F, F, F, F, F, F, F, F, F] rfl HT_.out ?_
     refine pr_ (i := 27) (N := some 72) #[T, T, T, T, T, T, T, T, T, T, T, T, T, T, T, T, T, T, T, F, T, T, F, F, T, T, T, T, F, F, F, F, F, F, F, F, F, F, F] rfl HT_.out ?_
     refine take_ (i := 19) (N := some 64) (v := ?_) (a' := ?_) #[T, T, T, T, T, T, T, T, T, T, T, T, T, T, T, T, T, T, T, T, T, T, F, F, T, T, T, T, F, F, F, F, F, F, F, F, F, F, F] rfl rfl (take_ofW HT_.out HW_.out (by kernel_rfl)) (fun _ _ _ h => h) (Or.inl ⟨by rfl, ?_⟩) hHeld ?_ ?_
     rotate_left
     ·rintro w' ⟨s0, s1, s2, s3, s4, s5, s6, s7, s8, s9, s10, s11, s12, s13, s14, s15, s16, s17, s18, s19, s20⟩
      go_simp
      with_reducible rfl
     rotate_left
     ·simp only [pS]
      rfl
     refine pr_ (i := 22) (N := some 67) #[T, T, T, T, T, T, T, T, T, T, T, T, T, T, T, T, T, T, T, T, T, T, T, F, T, T, T, T, F, F, F, F, F, F, F, F, F, F, F] rfl HT_.out ?_
     refine take_ (i := 23) (N := some 68) (v := ?_) (a' := ?_) #[T, T, T, T, T, T, T, T, T, T, T, T, T, T, T, T, T, T, T, T, T, T, T, T, T, T, T, T, F, F, F, F, F, F, F, F, F, F, F] rfl rfl (take_ofW HT_.out HW_.out (by kernel_rfl)) (fun _ _ _ h => h) (Or.inl ⟨by rfl, ?_⟩) hHeld ?_ ?_
     rotate_left
     ·rintro w' ⟨s0, s1, s2, s3, s4, s5, s6, s7, s8, s9, s10, s11, s12, s13, s14, s15, s16, s17, s18, s19, s20⟩
      go_simp
      with_reducible rfl
     rotate_left
     ·simp only [pS]
      rfl
     refine take_ (i := 28) (N := some 73) (v := ?_) (a' := ?_) #[T, T, T, T, T, T, T, T, T, T, T, T, T, T, T, T, T, T, T, T, T, T, T, T, T, T, T, T, T, F, F, F, F, F, F, F, F, F, F] rfl rfl (take_ofW HT_.out HW_.out (by kernel_rfl)) (fun _ _ _ h => h) (Or.inl ⟨by rfl, ?_⟩) hHeld ?_ ?_
     rotate_left
     ·rintro w' ⟨s0, s1, s2, s3, s4, s5, s6, s7, s8, s9, s10, s11, s12, s13, s14, s15, s16, s17, s18, s19, s20⟩
      go_simp
      with_reducible rfl
     rotate_left
     ·simp only [pS]
      rfl
     refine pr_ (i := 29) (N := some 74) #[T, T, T, T, T, T, T, T, T, T, T, T, T, T, T, T, T, T, T, T, T, T, T, T, T, T, T, T, T, T, F, F, F, F, F, F, F, F, F] rfl HT_.out ?_
     refine take_ (i := 30) (N := some 75) (v := ?_) (a' := ?_) #[T, T, T, T, T, T, T, T, T, T, T, T, T, T, T, T, T, T, T, T, T, T, T, T, T, T, T, T, T, T, T, F, F, F, F, F, F, F, F] rfl rfl (take_ofW HT_.out HW_.out (by kernel_rfl)) (fun _ _ _ h => h) (Or.inl ⟨by rfl, ?_⟩) hHeld ?_ ?_
     rotate_left
     ·rintro w' ⟨s0, s1, s2, s3, s4, s5, s6, s7, s8, s9, s10, s11, s12, s13, s14, s15, s16, s17, s18, s19, s20⟩
      go_simp
      with_reducible rfl
     rotate_left
     ·simp only [pS]
      rfl
     refine one_ (i := 31) (N := some 76) #[T, T, T, T, T, T, T, T, T, T, T, T, T, T, T, T, T, T, T, T, T, T, T, T, T, T, T, T, T, T, T, T, F, F, F, F, F, F, F] rfl rfl (one_of HT_.out (by kernel_rfl)) (by decide) (fun K hK => ?_)
     refine goes_ Try.func33 (by kernel_rfl) rfl #[.agg #[.int .i64 ((rd_T60 t517 (x7_2.length : Int)).f0), .int .i64 ((rd_T60 t517 (x7_2.length : Int)).f1), .int .i64 ((rd_T60 t517 (x7_2.length : Int)).f2), .int .i64 ((rd_T60 t517 (x7_2.length : Int)).f3), .int .i64 ((rd_T60 t517 (x7_2.length : Int)).f4), .int .i64 ((rd_T60 t517 (x7_2.length : Int)).f5), .int .i64 ((rd_T60 t517 (x7_2.length : Int)).f6), .slice A522_7 ((rd_T60 t517 (x7_2.length : Int)).f7).length c522_7], .agg #[.int .i64 ((rd_T60 t475 (rd x5_2 t502)).f0), .int .i64 ((rd_T60 t475 (rd x5_2 t502)).f1), .int .i64 ((rd_T60 t475 (rd x5_2 t502)).f2), .int .i64 ((rd_T60 t475 (rd x5_2 t502)).f3), .int .i64 ((rd_T60 t475 (rd x5_2 t502)).f4), .int .i64 ((rd_T60 t475 (rd x5_2 t502)).f5), .int .i64 ((rd_T60 t475 (rd x5_2 t502)).f6), .slice A524_7 ((rd_T60 t475 (rd x5_2 t502)).f7).length c524_7]] (by rfl) rfl rfl (by (try simp only [List.map_toArray, List.map_cons, List.map_nil]); first | done | rfl) ?_
     with_reducible refine (impl_SamePacket.calls k2 ((rd_T60 t517 (x7_2.length : Int)).f0) ((rd_T60 t517 (x7_2.length : Int)).f1) ((rd_T60 t517 (x7_2.length : Int)).f2) ((rd_T60 t517 (x7_2.length : Int)).f3) ((rd_T60 t517 (x7_2.length : Int)).f4) ((rd_T60 t517 (x7_2.length : Int)).f5) ((rd_T60 t517 (x7_2.length : Int)).f6) _ _ ((rd_T60 t517 (x7_2.length : Int)).f7) ((rd_T60 t475 (rd x5_2 t502)).f0) ((rd_T60 t475 (rd x5_2 t502)).f1) ((rd_T60 t475 (rd x5_2 t502)).f2) ((rd_T60 t475 (rd x5_2 t502)).f3) ((rd_T60 t475 (rd x5_2 t502)).f4) ((rd_T60 t475 (rd x5_2 t502)).f5) ((rd_T60 t475 (rd x5_2 t502)).f6) _ _ ((rd_T60 t475 (rd x5_2 t502)).f7) true _ ?side1 ?side2 ?side3 ?side4 A50.out).mono ?_
     (case side1 => repeat (first | exact (by repeat (first | (with_reducible exact HR522_7.out) | (with_reducible refine Kd.C_alloc ?_ _) | (with_reducible refine Kd.C_drewN ?_ _) | (with_reducible refine Kd.C_drew ?_) | exact HR522_7.out)) | (with_reducible refine Kd.C_alloc ?_ _) | (with_reducible refine Kd.C_drewN ?_ _) | (with_reducible refine Kd.C_drew ?_)))
     (case side2 => exact HC522_7.out)
     (case side3 => repeat (first | exact (by repeat (first | (with_reducible exact HR524_7.out) | (with_reducible refine Kd.C_alloc ?_ _) | (with_reducible refine Kd.C_drewN ?_ _) | (with_reducible refine Kd.C_drew ?_) | exact HR524_7.out)) | (with_reducible refine Kd.C_alloc ?_ _) | (with_reducible refine Kd.C_drewN ?_ _) | (with_reducible refine Kd.C_drew ?_)))
     (case side4 => exact HC524_7.out)
     rintro e w81 ⟨rfl, hb⟩
     have HS4_ := (hb.cell (wl_ _ _ (hHeld.2.2.2.2.1))).trans (hHeld.2.2.2.2.1)
     have HS5_ := (hb.cell (wl_ _ _ (hHeld.2.2.2.2.2.1))).trans (hHeld.2.2.2.2.2.1)
     have HS6_ := (hb.cell (wl_ _ _ (hHeld.2.2.2.2.2.2.1))).trans (hHeld.2.2.2.2.2.2.1)
     have HS7_ := (hb.cell (wl_ _ _ (hHeld.2.2.2.2.2.2.2.1))).trans (hHeld.2.2.2.2.2.2.2.1)
     have HS8_ := (hb.cell (wl_ _ _ (hHeld.2.2.2.2.2.2.2.2.1))).trans (hHeld.2.2.2.2.2.2.2.2.1)
     have HS9_ := (hb.cell (wl_ _ _ (hHeld.2.2.2.2.2.2.2.2.2.1))).trans (hHeld.2.2.2.2.2.2.2.2.2.1)
     have HS10_ := (hb.cell (wl_ _ _ (hHeld.2.2.2.2.2.2.2.2.2.2.1))).trans (hHeld.2.2.2.2.2.2.2.2.2.2.1)
     have HS11_ := (hb.cell (wl_ _ _ (hHeld.2.2.2.2.2.2.2.2.2.2.2.1))).trans (hHeld.2.2.2.2.2.2.2.2.2.2.2.1)
     have HS12_ := (hb.cell (wl_ _ _ (hHeld.2.2.2.2.2.2.2.2.2.2.2.2.1))).trans (hHeld.2.2.2.2.2.2.2.2.2.2.2.2.1)
     have HS13_ := (hb.cell (wl_ _ _ (hHeld.2.2.2.2.2.2.2.2.2.2.2.2.2.1))).trans (hHeld.2.2.2.2.2.2.2.2.2.2.2.2.2.1)
     have HS14_ := (hb.cell (wl_ _ _ (hHeld.2.2.2.2.2.2.2.2.2.2.2.2.2.2.1))).trans (hHeld.2.2.2.2.2.2.2.2.2.2.2.2.2.2.1)
     have HS15_ := (hb.cell (wl_ _ _ (hHeld.2.2.2.2.2.2.2.2.2.2.2.2.2.2.2.1))).trans (hHeld.2.2.2.2.2.2.2.2.2.2.2.2.2.2.2.1)
     have HS16_ := (hb.cell (wl_ _ _ (hHeld.2.2.2.2.2.2.2.2.2.2.2.2.2.2.2.2.1))).trans (hHeld.2.2.2.2.2.2.2.2.2.2.2.2.2.2.2.2.1)
     have HS17_ := (hb.cell (wl_ _ _ (hHeld.2.2.2.2.2.2.2.2.2.2.2.2.2.2.2.2.2.1))).trans (hHeld.2.2.2.2.2.2.2.2.2.2.2.2.2.2.2.2.2.1)
     have HS18_ := (hb.cell (wl_ _ _ (hHeld.2.2.2.2.2.2.2.2.2.2.2.2.2.2.2.2.2.2.1))).trans (hHeld.2.2.2.2.2.2.2.2.2.2.2.2.2.2.2.2.2.2.1)
     have HS19_ := (hb.cell (wl_ _ _ (hHeld.2.2.2.2.2.2.2.2.2.2.2.2.2.2.2.2.2.2.2.1))).trans (hHeld.2.2.2.2.2.2.2.2.2.2.2.2.2.2.2.2.2.2.2.1)
     have HS20_ := (hb.cell (wl_ _ _ (hHeld.2.2.2.2.2.2.2.2.2.2.2.2.2.2.2.2.2.2.2.2))).trans (hHeld.2.2.2.2.2.2.2.2.2.2.2.2.2.2.2.2.2.2.2.2)
     refine ⟨_, rfl, ?_⟩
     have n0_ := A_.mk (Kd.N_below (by (with_reducible repeat (first | apply Kd.N_alloc | apply Kd.N_drewN | apply Kd.N_drew)); exact HO_4.out) hb)
     have n1_ := A_.mk (Kd.R_below (rY HO_5.out) hb)
     have n2_ := A_.mk (Kd.R_below (rY HO_7.out) hb)
     have n3_ := A_.mk (Kd.N_below (by (with_reducible repeat (first | apply Kd.N_alloc | apply Kd.N_drewN | apply Kd.N_drew)); exact HO_488000.out) hb)
     have n4_ := A_.mk (Kd.R_below (rY HO_488001.out) hb)
     have n5_ := A_.mk (Kd.R_below (rY HO_488002.out) hb)
     have n6_ := A_.mk (Kd.N_below (by (with_reducible repeat (first | apply Kd.N_alloc | apply Kd.N_drewN | apply Kd.N_drew)); exact HO_488003.out) hb)
     have n7_ := A_.mk (Kd.N_below (by (with_reducible repeat (first | apply Kd.N_alloc | apply Kd.N_drewN | apply Kd.N_drew)); exact HO510.out) hb)
     have n8_ := A_.mk (Kd.R_below (rY HO513.out) hb)
     have n9_ := A_.mk (Kd.R_below (rY HO516.out) hb)
     have n10_ := A_.mk (Kd.N_below (by (with_reducible repeat (first | apply Kd.N_alloc | apply Kd.N_drewN | apply Kd.N_drew)); exact HO519.out) hb)
     have n11_ := A_.mk (Kd.V_below (by (with_reducible repeat (first | apply Kd.V_alloc | apply Kd.V_drewN | apply Kd.V_drew)); exact HL522_7.out) hb)
     have n12_ := A_.mk (Kd.V_below (by (with_reducible repeat (first | apply Kd.V_alloc | apply Kd.V_drewN | apply Kd.V_drew)); exact HL524_7.out) hb)
     have n13_ := A_.mk (bb_ (bY BK487.out) hb)
     have n14_ := A_.mk (bb_ (bY BK521.out) hb)
     have n15_ := A_.mk (Kd.C_below (by repeat (first | (with_reducible exact HR522_7.out) | (with_reducible refine Kd.C_alloc ?_ _) | (with_reducible refine Kd.C_drewN ?_ _) | (with_reducible refine Kd.C_drew ?_) | exact HR522_7.out)) hb)
     have n16_ := A_.mk (Kd.C_below (by repeat (first | (with_reducible exact HR524_7.out) | (with_reducible refine Kd.C_alloc ?_ _) | (with_reducible refine Kd.C_drewN ?_ _) | (with_reducible refine Kd.C_drew ?_) | exact HR524_7.out)) hb)
     have n17_ := A_.mk (bt_ (by repeat (first | (with_reducible first | exact HB.out | apply ba_ | apply bd_ | apply be_ | refine bs_ ?_ GE487.out | refine bs_ ?_ GE521.out) | exact HB.out)) hb)
     clear HO_4 HO_5 HO_7 HO_488000 HO_488001 HO_488002 HO_488003 HO510 HO513 HO516 HO519 HL522_7 HL524_7 BK487 BK521 HR522_7 HR524_7 HB
     have HO_4 := n0_
     have HO_5 := n1_
     have HO_7 := n2_
     have HO_488000 := n3_
     have HO_488001 := n4_
     have HO_488002 := n5_
     have HO_488003 := n6_
     have HO510 := n7_
     have HO513 := n8_
     have HO516 := n9_
     have HO519 := n10_
     have HL522_7 := n11_
     have HL524_7 := n12_
     have BK487 := n13_
     have BK521 := n14_
     have HR522_7 := n15_
     have HR524_7 := n16_
     have HB := n17_
     clear n0_ n1_ n2_ n3_ n4_ n5_ n6_ n7_ n8_ n9_ n10_ n11_ n12_ n13_ n14_ n15_ n16_ n17_
     refine hK.out _ _ ⟨(bc_ BK521.out 0).trans rfl, (bc_ BK521.out 1).trans rfl, (bc_ BK521.out 2).trans rfl, (bc_ BK521.out 3).trans rfl, HS4_, HS5_, HS6_, HS7_, HS8_, HS9_, HS10_, HS11_, HS12_, HS13_, HS14_, HS15_, HS16_, HS17_, HS18_, HS19_, HS20_⟩ (fun hHeld => ?_)
     clear hK K
     refine norm_ (a' := ?_) ?_ ?_
     rotate_left
     ·show Act.put _ (some 76) _ = _
      simp only [pS]
      rfl
     refine pr_ (i := 32) (N := some 77) #[T, T, T, T, T, T, T, T, T, T, T, T, T, T, T, T, T, T, T, T, T, T, T, T, T, T, T, T, T, T, T, T, T, F, F, F, F, F, F] rfl HT_.out ?_
     refine pr_ (i := 33) (N := some 78) #[T, T, T, T, T, T, T, T, T, T, T, T, T, T, T, T, T, T, T, T, T, T, T, T, T, T, T, T, T, T, T, T, T, T, F, F, F, F, F] rfl HT_.out ?_
     refine pr_ (i := 34) (N := some 79) #[T, T, T, T, T, T, T, T, T, T, T, T, T, T, T, T, T, T, T, T, T, T, T, T, T, T, T, T, T, T, T, T, T, T, T, F, F, F, F] rfl HT_.out ?_
     refine take_ (i := 35) (N := some 80) (v := ?_) (a' := ?_) #[T, T, T, T, T, T, T, T, T, T, T, T, T, T, T, T, T, T, T, T, T, T, T, T, T, T, T, T, T, T, T, T, T, T, T, T, F, F, F] rfl rfl (take_ofW HT_.out HW_.out (by kernel_rfl)) (fun _ _ _ h => h) (Or.inl ⟨by rfl, ?_⟩) hHeld ?_ ?_
     rotate_left
     ·rintro w' ⟨s0, s1, s2, s3, s4, s5, s6, s7, s8, s9, s10, s11, s12, s13, s14, s15, s16, s17, s18, s19, s20⟩
      go_simp
      with_reducible rfl
     rotate_left
     ·simp only [pS]
      rfl
     refine one_ (i := 36) (N := some 81) #[T, T, T, T, T, T, T, T, T, T, T, T, T, T, T, T, T, T, T, T, T, T, T, T, T, T, T, T, T, T, T, T, T, T, T, T, T, F, F] rfl rfl (one_of HT_.out (by kernel_rfl)) (by decide) (fun K hK => ?_)
     refine goes_ Try.func34 (by kernel_rfl) rfl #[.agg #[.slice Ao71 t508.length co71, .slice Ao74 t511.length co74, .slice Ao75 t514.length co75, .slice (some ad522) t517.length co76]] (by rfl) rfl rfl (by (try simp only [List.map_toArray, List.map_cons, List.map_nil]); first | done | rfl) ?_
     with_reducible refine (impl_QueueOk.calls k2 _ _ t508 _ _ t511 _ _ t514 _ _ t517 true _ ?side1 ?side2 ?side3 ?side4 ?side5 ?side6 ?side7 ?side8 A52.out).mono ?_
     (case side1 => exact cY ((Kd.N_reads' HO510.out).2.2))
     (case side2 => exact (Kd.N_reads' HO510.out).2.1)
     (case side3 => exact cY ((Kd.R_reads' HO513.out).2.2))
     (case side4 => exact (Kd.R_reads' HO513.out).2.1)
     (case side5 => exact cY ((Kd.R_reads' HO516.out).2.2))
     (case side6 => exact (Kd.R_reads' HO516.out).2.1)
     (case side7 => exact cY ((Kd.N_reads' HO519.out).2.2))
     (case side8 => exact (Kd.N_reads' HO519.out).2.1)
     rintro e w82 ⟨rfl, hb⟩
     have HS4_ := (hb.cell (wl_ _ _ (hHeld.2.2.2.2.1))).trans (hHeld.2.2.2.2.1)
     have HS5_ := (hb.cell (wl_ _ _ (hHeld.2.2.2.2.2.1))).trans (hHeld.2.2.2.2.2.1)
     have HS6_ := (hb.cell (wl_ _ _ (hHeld.2.2.2.2.2.2.1))).trans (hHeld.2.2.2.2.2.2.1)
     have HS7_ := (hb.cell (wl_ _ _ (hHeld.2.2.2.2.2.2.2.1))).trans (hHeld.2.2.2.2.2.2.2.1)
     have HS8_ := (hb.cell (wl_ _ _ (hHeld.2.2.2.2.2.2.2.2.1))).trans (hHeld.2.2.2.2.2.2.2.2.1)
     have HS9_ := (hb.cell (wl_ _ _ (hHeld.2.2.2.2.2.2.2.2.2.1))).trans (hHeld.2.2.2.2.2.2.2.2.2.1)
     have HS10_ := (hb.cell (wl_ _ _ (hHeld.2.2.2.2.2.2.2.2.2.2.1))).trans (hHeld.2.2.2.2.2.2.2.2.2.2.1)
     have HS11_ := (hb.cell (wl_ _ _ (hHeld.2.2.2.2.2.2.2.2.2.2.2.1))).trans (hHeld.2.2.2.2.2.2.2.2.2.2.2.1)
     have HS12_ := (hb.cell (wl_ _ _ (hHeld.2.2.2.2.2.2.2.2.2.2.2.2.1))).trans (hHeld.2.2.2.2.2.2.2.2.2.2.2.2.1)
     have HS13_ := (hb.cell (wl_ _ _ (hHeld.2.2.2.2.2.2.2.2.2.2.2.2.2.1))).trans (hHeld.2.2.2.2.2.2.2.2.2.2.2.2.2.1)
     have HS14_ := (hb.cell (wl_ _ _ (hHeld.2.2.2.2.2.2.2.2.2.2.2.2.2.2.1))).trans (hHeld.2.2.2.2.2.2.2.2.2.2.2.2.2.2.1)
     have HS15_ := (hb.cell (wl_ _ _ (hHeld.2.2.2.2.2.2.2.2.2.2.2.2.2.2.2.1))).trans (hHeld.2.2.2.2.2.2.2.2.2.2.2.2.2.2.2.1)
     have HS16_ := (hb.cell (wl_ _ _ (hHeld.2.2.2.2.2.2.2.2.2.2.2.2.2.2.2.2.1))).trans (hHeld.2.2.2.2.2.2.2.2.2.2.2.2.2.2.2.2.1)
     have HS17_ := (hb.cell (wl_ _ _ (hHeld.2.2.2.2.2.2.2.2.2.2.2.2.2.2.2.2.2.1))).trans (hHeld.2.2.2.2.2.2.2.2.2.2.2.2.2.2.2.2.2.1)
     have HS18_ := (hb.cell (wl_ _ _ (hHeld.2.2.2.2.2.2.2.2.2.2.2.2.2.2.2.2.2.2.1))).trans (hHeld.2.2.2.2.2.2.2.2.2.2.2.2.2.2.2.2.2.2.1)
     have HS19_ := (hb.cell (wl_ _ _ (hHeld.2.2.2.2.2.2.2.2.2.2.2.2.2.2.2.2.2.2.2.1))).trans (hHeld.2.2.2.2.2.2.2.2.2.2.2.2.2.2.2.2.2.2.2.1)
     have HS20_ := (hb.cell (wl_ _ _ (hHeld.2.2.2.2.2.2.2.2.2.2.2.2.2.2.2.2.2.2.2.2))).trans (hHeld.2.2.2.2.2.2.2.2.2.2.2.2.2.2.2.2.2.2.2.2)
     refine ⟨_, rfl, ?_⟩
     have n0_ := A_.mk (Kd.N_below (by (with_reducible repeat (first | apply Kd.N_alloc | apply Kd.N_drewN | apply Kd.N_drew)); exact HO_4.out) hb)
     have n1_ := A_.mk (Kd.R_below (rY HO_5.out) hb)
     have n2_ := A_.mk (Kd.R_below (rY HO_7.out) hb)
     have n3_ := A_.mk (Kd.N_below (by (with_reducible repeat (first | apply Kd.N_alloc | apply Kd.N_drewN | apply Kd.N_drew)); exact HO_488000.out) hb)
     have n4_ := A_.mk (Kd.R_below (rY HO_488001.out) hb)
     have n5_ := A_.mk (Kd.R_below (rY HO_488002.out) hb)
     have n6_ := A_.mk (Kd.N_below (by (with_reducible repeat (first | apply Kd.N_alloc | apply Kd.N_drewN | apply Kd.N_drew)); exact HO_488003.out) hb)
     have n7_ := A_.mk (Kd.N_below (by (with_reducible repeat (first | apply Kd.N_alloc | apply Kd.N_drewN | apply Kd.N_drew)); exact HO510.out) hb)
     have n8_ := A_.mk (Kd.R_below (rY HO513.out) hb)
     have n9_ := A_.mk (Kd.R_below (rY HO516.out) hb)
     have n10_ := A_.mk (Kd.N_below (by (with_reducible repeat (first | apply Kd.N_alloc | apply Kd.N_drewN | apply Kd.N_drew)); exact HO519.out) hb)
     have n11_ := A_.mk (Kd.V_below (by (with_reducible repeat (first | apply Kd.V_alloc | apply Kd.V_drewN | apply Kd.V_drew)); exact HL522_7.out) hb)
     have n12_ := A_.mk (Kd.V_below (by (with_reducible repeat (first | apply Kd.V_alloc | apply Kd.V_drewN | apply Kd.V_drew)); exact HL524_7.out) hb)
     have n13_ := A_.mk (bb_ (bY BK487.out) hb)
     have n14_ := A_.mk (bb_ (bY BK521.out) hb)
     have n15_ := A_.mk (Kd.C_below (by repeat (first | (with_reducible exact HR522_7.out) | (with_reducible refine Kd.C_alloc ?_ _) | (with_reducible refine Kd.C_drewN ?_ _) | (with_reducible refine Kd.C_drew ?_) | exact HR522_7.out)) hb)
     have n16_ := A_.mk (Kd.C_below (by repeat (first | (with_reducible exact HR524_7.out) | (with_reducible refine Kd.C_alloc ?_ _) | (with_reducible refine Kd.C_drewN ?_ _) | (with_reducible refine Kd.C_drew ?_) | exact HR524_7.out)) hb)
     have n17_ := A_.mk (bt_ (by repeat (first | (with_reducible first | exact HB.out | apply ba_ | apply bd_ | apply be_ | refine bs_ ?_ GE487.out | refine bs_ ?_ GE521.out) | exact HB.out)) hb)
     clear HO_4 HO_5 HO_7 HO_488000 HO_488001 HO_488002 HO_488003 HO510 HO513 HO516 HO519 HL522_7 HL524_7 BK487 BK521 HR522_7 HR524_7 HB
     have HO_4 := n0_
     have HO_5 := n1_
     have HO_7 := n2_
     have HO_488000 := n3_
     have HO_488001 := n4_
     have HO_488002 := n5_
     have HO_488003 := n6_
     have HO510 := n7_
     have HO513 := n8_
     have HO516 := n9_
     have HO519 := n10_
     have HL522_7 := n11_
     have HL524_7 := n12_
     have BK487 := n13_
     have BK521 := n14_
     have HR522_7 := n15_
     have HR524_7 := n16_
     have HB := n17_
     clear n0_ n1_ n2_ n3_ n4_ n5_ n6_ n7_ n8_ n9_ n10_ n11_ n12_ n13_ n14_ n15_ n16_ n17_
     refine hK.out _ _ ⟨(bc_ BK521.out 0).trans rfl, (bc_ BK521.out 1).trans rfl, (bc_ BK521.out 2).trans rfl, (bc_ BK521.out 3).trans rfl, HS4_, HS5_, HS6_, HS7_, HS8_, HS9_, HS10_, HS11_, HS12_, HS13_, HS14_, HS15_, HS16_, HS17_, HS18_, HS19_, HS20_⟩ (fun hHeld => ?_)
     clear hK K
     refine norm_ (a' := ?_) ?_ ?_
     rotate_left
     ·show Act.put _ (some 81) _ = _
      simp only [pS]
      rfl
     refine pr_ (i := 37) (N := some 82) #[T, T, T, T, T, T, T, T, T, T, T, T, T, T, T, T, T, T, T, T, T, T, T, T, T, T, T, T, T, T, T, T, T, T, T, T, T, T, F] rfl HT_.out ?_
     refine pr_ (i := 38) (N := some 83) #[T, T, T, T, T, T, T, T, T, T, T, T, T, T, T, T, T, T, T, T, T, T, T, T, T, T, T, T, T, T, T, T, T, T, T, T, T, T, T] rfl HT_.out ?_
     refine done_ (done_of HT_.out (by kernel_rfl)) ?_
     have p527 : 0 ≤ (t502 : Int) := od_
     have q527 : t502 < (x5_2.length : Int) := od_
     obtain ⟨ad527, e527, hx527_0⟩ := Kd.at_int (Kd.R_reads' HO_5.out).2.2 t502 p527 q527
     obtain rfl : ad523 = ad527 := (by injection e527)
     replace p527 := eq_true p527
     replace q527 := eq_true q527
     try go_wp2_with (first | ((with_reducible refine gate_builtin (b := .append) (xs := #[.tmp 84, .tmp 89]) rfl ?_); (try (refine gate_guard (by rfl) ?_; dsimp only)); at_builtin; refine Kd.R_append (Kd.int .i64) (w0 := w) w.heap.size rfl (.tmp 84) (.tmp 89) 22 3 (.int .i64 0) 8 rfl Try.underlying22 info3 rfl (by decide) (by omega) (.slice Ao80 x7_2.length co80) x7_2 (rd x5_2 t502) [.int .i64 (rd x5_2 t502)] (fun k_ => some k_ ≠ (.slice (some ad523) x5_2.length co79 : Value).ownBlock ∧ some k_ ≠ (.slice Ao64 x488001_2.length co64 : Value).ownBlock ∧ some k_ ≠ (.slice Ao65 x488002_2.length co65 : Value).ownBlock ∧ some k_ ≠ (.slice Ao74 t511.length co74 : Value).ownBlock ∧ some k_ ≠ (.slice Ao75 t514.length co75 : Value).ownBlock) (fun _ => False) rfl rfl ?aP (fun _ hk => hk.elim) ?aF ?aO ?aB ?aS ?aL ?_; (case aP => exact rfl); (case aB => exact (by repeat (first | (with_reducible first | exact HB.out | apply ba_ | apply bd_ | apply be_ | refine bs_ ?_ GE487.out | refine bs_ ?_ GE521.out) | exact HB.out))); (case aF => exact (fun k_ hk => ⟨Kd.fresh' (Kd.R_lt (rY HO_5.out)) k_ hk, Kd.fresh' (Kd.R_lt (rY HO_488001.out)) k_ hk, Kd.fresh' (Kd.R_lt (rY HO_488002.out)) k_ hk, Kd.fresh' (Kd.R_lt (rY HO513.out)) k_ hk, Kd.fresh' (Kd.R_lt (rY HO516.out)) k_ hk⟩)); (case aO => exact (rY HO_7.out)); (case aS => exact (bz_ (by repeat (first | (with_reducible first | exact HB.out | apply ba_ | apply bd_ | apply be_ | refine bs_ ?_ GE487.out | refine bs_ ?_ GE521.out) | exact HB.out)))); (case aL => have := LMc54.out; omega); intro v529 w83 ho hb hg hat; rw [← Ny528.out] at ho; have n0_ := A_.mk (Kd.N_afterv (ok := (fun k_ => some k_ ≠ (.slice (some ad523) x5_2.length co79 : Value).ownBlock ∧ some k_ ≠ (.slice Ao64 x488001_2.length co64 : Value).ownBlock ∧ some k_ ≠ (.slice Ao65 x488002_2.length co65 : Value).ownBlock ∧ some k_ ≠ (.slice Ao66 x488003_2.length co66 : Value).ownBlock ∧ some k_ ≠ (.slice Ao71 t508.length co71 : Value).ownBlock ∧ some k_ ≠ (.slice Ao74 t511.length co74 : Value).ownBlock ∧ some k_ ≠ (.slice Ao75 t514.length co75 : Value).ownBlock ∧ some k_ ≠ (.slice (some ad522) t517.length co76 : Value).ownBlock ∧ k_ ≠ gb487 ∧ k_ ≠ gb521)) (by (with_reducible repeat (first | apply Kd.N_alloc | apply Kd.N_drewN | apply Kd.N_drew)); exact Kd.N_mono HO_4.out (fun _ hk => ⟨⟨hk.1, ⟨hk.2.2.1, ⟨hk.2.2.2.1, ⟨hk.2.2.2.2.1, ⟨hk.2.2.2.2.2.1, ⟨hk.2.2.2.2.2.2.1, ⟨hk.2.2.2.2.2.2.2.1, ⟨hk.2.2.2.2.2.2.2.2.1, ⟨hk.2.2.2.2.2.2.2.2.2.1, hk.2.2.2.2.2.2.2.2.2.2⟩⟩⟩⟩⟩⟩⟩⟩⟩, hk.2.1⟩)) hg hat); have n1_ := A_.mk (Kd.R_after (ok := (fun k_ => some k_ ≠ (.slice Ao64 x488001_2.length co64 : Value).ownBlock ∧ some k_ ≠ (.slice Ao65 x488002_2.length co65 : Value).ownBlock ∧ some k_ ≠ (.slice Ao74 t511.length co74 : Value).ownBlock ∧ some k_ ≠ (.slice Ao75 t514.length co75 : Value).ownBlock)) (by (repeat apply rX); exact Kd.R_mono HO_5.out (fun _ hk => ⟨⟨hk.2.1, ⟨hk.2.2.1, ⟨hk.2.2.2.1, hk.2.2.2.2⟩⟩⟩, hk.1⟩)) hg hat); have n2_ := A_.mk (Kd.N_afterv (ok := (fun k_ => some k_ ≠ (.slice (some ad523) x5_2.length co79 : Value).ownBlock ∧ some k_ ≠ (.slice Ao64 x488001_2.length co64 : Value).ownBlock ∧ some k_ ≠ (.slice Ao65 x488002_2.length co65 : Value).ownBlock ∧ some k_ ≠ (.slice Ao66 x488003_2.length co66 : Value).ownBlock ∧ some k_ ≠ (.slice Ao71 t508.length co71 : Value).ownBlock ∧ some k_ ≠ (.slice Ao74 t511.length co74 : Value).ownBlock ∧ some k_ ≠ (.slice Ao75 t514.length co75 : Value).ownBlock ∧ some k_ ≠ (.slice (some ad522) t517.length co76 : Value).ownBlock ∧ k_ ≠ gb487 ∧ k_ ≠ gb521)) (by (with_reducible repeat (first | apply Kd.N_alloc | apply Kd.N_drewN | apply Kd.N_drew)); exact Kd.N_mono HO_488000.out (fun _ hk => ⟨⟨hk.1, ⟨hk.2.2.1, ⟨hk.2.2.2.1, ⟨hk.2.2.2.2.1, ⟨hk.2.2.2.2.2.1, ⟨hk.2.2.2.2.2.2.1, ⟨hk.2.2.2.2.2.2.2.1, ⟨hk.2.2.2.2.2.2.2.2.1, ⟨hk.2.2.2.2.2.2.2.2.2.1, hk.2.2.2.2.2.2.2.2.2.2⟩⟩⟩⟩⟩⟩⟩⟩⟩, hk.2.1⟩)) hg hat); have n3_ := A_.mk (Kd.R_after (ok := (fun k_ => some k_ ≠ (.slice (some ad523) x5_2.length co79 : Value).ownBlock ∧ some k_ ≠ (.slice Ao65 x488002_2.length co65 : Value).ownBlock ∧ some k_ ≠ (.slice Ao74 t511.length co74 : Value).ownBlock ∧ some k_ ≠ (.slice Ao75 t514.length co75 : Value).ownBlock)) (by (repeat apply rX); exact Kd.R_mono HO_488001.out (fun _ hk => ⟨⟨hk.1, ⟨hk.2.2.1, ⟨hk.2.2.2.1, hk.2.2.2.2⟩⟩⟩, hk.2.1⟩)) hg hat); have n4_ := A_.mk (Kd.R_after (ok := (fun k_ => some k_ ≠ (.slice (some ad523) x5_2.length co79 : Value).ownBlock ∧ some k_ ≠ (.slice Ao64 x488001_2.length co64 : Value).ownBlock ∧ some k_ ≠ (.slice Ao74 t511.length co74 : Value).ownBlock ∧ some k_ ≠ (.slice Ao75 t514.length co75 : Value).ownBlock)) (by (repeat apply rX); exact Kd.R_mono HO_488002.out (fun _ hk => ⟨⟨hk.1, ⟨hk.2.2.1, ⟨hk.2.2.2.1, hk.2.2.2.2⟩⟩⟩, hk.2.1⟩)) hg hat); have n5_ := A_.mk (Kd.N_afterv (ok := (fun k_ => some k_ ≠ (.slice (some ad524) t475.length co7 : Value).ownBlock ∧ some k_ ≠ (.slice (some ad523) x5_2.length co79 : Value).ownBlock ∧ some k_ ≠ (.slice Ao63 x488000_2.length co63 : Value).ownBlock ∧ some k_ ≠ (.slice Ao64 x488001_2.length co64 : Value).ownBlock ∧ some k_ ≠ (.slice Ao65 x488002_2.length co65 : Value).ownBlock ∧ some k_ ≠ (.slice Ao71 t508.length co71 : Value).ownBlock ∧ some k_ ≠ (.slice Ao74 t511.length co74 : Value).ownBlock ∧ some k_ ≠ (.slice Ao75 t514.length co75 : Value).ownBlock ∧ some k_ ≠ (.slice (some ad522) t517.length co76 : Value).ownBlock ∧ k_ ≠ gb487 ∧ k_ ≠ gb521)) (by (with_reducible repeat (first | apply Kd.N_alloc | apply Kd.N_drewN | apply Kd.N_drew)); exact Kd.N_mono HO_488003.out (fun _ hk => ⟨⟨hk.1, ⟨hk.2.1, ⟨hk.2.2.2.1, ⟨hk.2.2.2.2.1, ⟨hk.2.2.2.2.2.1, ⟨hk.2.2.2.2.2.2.1, ⟨hk.2.2.2.2.2.2.2.1, ⟨hk.2.2.2.2.2.2.2.2.1, ⟨hk.2.2.2.2.2.2.2.2.2.1, ⟨hk.2.2.2.2.2.2.2.2.2.2.1, hk.2.2.2.2.2.2.2.2.2.2.2⟩⟩⟩⟩⟩⟩⟩⟩⟩⟩, hk.2.2.1⟩)) hg hat); have n6_ := A_.mk (blk_grown (g := gb487) (o := .cells #[.slice Ao63 x488000_2.length co63, .slice Ao64 x488001_2.length co64, .slice Ao65 x488002_2.length co65, .slice Ao66 x488003_2.length co66] 53 (0, 0)) (bY BK487.out) hg (Kd.R_ne HO_7.out BK487.out (by decide))); have n7_ := A_.mk (Kd.N_afterv (ok := (fun k_ => some k_ ≠ (.slice (some ad524) t475.length co7 : Value).ownBlock ∧ some k_ ≠ (.slice (some ad523) x5_2.length co79 : Value).ownBlock ∧ some k_ ≠ (.slice Ao63 x488000_2.length co63 : Value).ownBlock ∧ some k_ ≠ (.slice Ao64 x488001_2.length co64 : Value).ownBlock ∧ some k_ ≠ (.slice Ao65 x488002_2.length co65 : Value).ownBlock ∧ some k_ ≠ (.slice Ao66 x488003_2.length co66 : Value).ownBlock ∧ some k_ ≠ (.slice Ao74 t511.length co74 : Value).ownBlock ∧ some k_ ≠ (.slice Ao75 t514.length co75 : Value).ownBlock ∧ some k_ ≠ (.slice (some ad522) t517.length co76 : Value).ownBlock ∧ k_ ≠ gb487 ∧ k_ ≠ gb521)) (by (with_reducible repeat (first | apply Kd.N_alloc | apply Kd.N_drewN | apply Kd.N_drew)); exact Kd.N_mono HO510.out (fun _ hk => ⟨⟨hk.1, ⟨hk.2.1, ⟨hk.2.2.2.1, ⟨hk.2.2.2.2.1, ⟨hk.2.2.2.2.2.1, ⟨hk.2.2.2.2.2.2.1, ⟨hk.2.2.2.2.2.2.2.1, ⟨hk.2.2.2.2.2.2.2.2.1, ⟨hk.2.2.2.2.2.2.2.2.2.1, ⟨hk.2.2.2.2.2.2.2.2.2.2.1, hk.2.2.2.2.2.2.2.2.2.2.2⟩⟩⟩⟩⟩⟩⟩⟩⟩⟩, hk.2.2.1⟩)) hg hat); have n8_ := A_.mk (Kd.R_after (ok := (fun k_ => some k_ ≠ (.slice (some ad523) x5_2.length co79 : Value).ownBlock ∧ some k_ ≠ (.slice Ao64 x488001_2.length co64 : Value).ownBlock ∧ some k_ ≠ (.slice Ao65 x488002_2.length co65 : Value).ownBlock ∧ some k_ ≠ (.slice Ao75 t514.length co75 : Value).ownBlock)) (by (repeat apply rX); exact Kd.R_mono HO513.out (fun _ hk => ⟨⟨hk.1, ⟨hk.2.2.1, ⟨hk.2.2.2.1, hk.2.2.2.2⟩⟩⟩, hk.2.1⟩)) hg hat); have n9_ := A_.mk (Kd.R_after (ok := (fun k_ => some k_ ≠ (.slice (some ad523) x5_2.length co79 : Value).ownBlock ∧ some k_ ≠ (.slice Ao64 x488001_2.length co64 : Value).ownBlock ∧ some k_ ≠ (.slice Ao65 x488002_2.length co65 : Value).ownBlock ∧ some k_ ≠ (.slice Ao74 t511.length co74 : Value).ownBlock)) (by (repeat apply rX); exact Kd.R_mono HO516.out (fun _ hk => ⟨⟨hk.1, ⟨hk.2.2.1, ⟨hk.2.2.2.1, hk.2.2.2.2⟩⟩⟩, hk.2.1⟩)) hg hat); have n10_ := A_.mk (Kd.N_afterv (ok := (fun k_ => some k_ ≠ (.slice (some ad524) t475.length co7 : Value).ownBlock ∧ some k_ ≠ (.slice (some ad523) x5_2.length co79 : Value).ownBlock ∧ some k_ ≠ (.slice Ao63 x488000_2.length co63 : Value).ownBlock ∧ some k_ ≠ (.slice Ao64 x488001_2.length co64 : Value).ownBlock ∧ some k_ ≠ (.slice Ao65 x488002_2.length co65 : Value).ownBlock ∧ some k_ ≠ (.slice Ao66 x488003_2.length co66 : Value).ownBlock ∧ some k_ ≠ (.slice Ao71 t508.length co71 : Value).ownBlock ∧ some k_ ≠ (.slice Ao74 t511.length co74 : Value).ownBlock ∧ some k_ ≠ (.slice Ao75 t514.length co75 : Value).ownBlock ∧ k_ ≠ gb487 ∧ k_ ≠ gb521)) (by (with_reducible repeat (first | apply Kd.N_alloc | apply Kd.N_drewN | apply Kd.N_drew)); exact Kd.N_mono HO519.out (fun _ hk => ⟨⟨hk.1, ⟨hk.2.1, ⟨hk.2.2.2.1, ⟨hk.2.2.2.2.1, ⟨hk.2.2.2.2.2.1, ⟨hk.2.2.2.2.2.2.1, ⟨hk.2.2.2.2.2.2.2.1, ⟨hk.2.2.2.2.2.2.2.2.1, ⟨hk.2.2.2.2.2.2.2.2.2.1, ⟨hk.2.2.2.2.2.2.2.2.2.2.1, hk.2.2.2.2.2.2.2.2.2.2.2⟩⟩⟩⟩⟩⟩⟩⟩⟩⟩, hk.2.2.1⟩)) hg hat); have n11_ := A_.mk (blk_grown (g := gb521) (o := .cells #[.slice Ao71 t508.length co71, .slice Ao74 t511.length co74, .slice Ao75 t514.length co75, .slice (some ad522) t517.length co76] 53 (0, 0)) (bY BK521.out) hg (Kd.R_ne HO_7.out BK521.out (by decide))); have n12_ := A_.mk (Kd.V_afterv (ok := (fun k_ => some k_ ≠ (.slice (some ad524) t475.length co7 : Value).ownBlock ∧ some k_ ≠ (.slice (some ad523) x5_2.length co79 : Value).ownBlock ∧ some k_ ≠ (.slice Ao63 x488000_2.length co63 : Value).ownBlock ∧ some k_ ≠ (.slice Ao64 x488001_2.length co64 : Value).ownBlock ∧ some k_ ≠ (.slice Ao65 x488002_2.length co65 : Value).ownBlock ∧ some k_ ≠ (.slice Ao66 x488003_2.length co66 : Value).ownBlock ∧ some k_ ≠ (.slice Ao71 t508.length co71 : Value).ownBlock ∧ some k_ ≠ (.slice Ao74 t511.length co74 : Value).ownBlock ∧ some k_ ≠ (.slice Ao75 t514.length co75 : Value).ownBlock ∧ some k_ ≠ (.slice (some ad522) t517.length co76 : Value).ownBlock ∧ k_ ≠ gb487 ∧ k_ ≠ gb521)) (by (with_reducible repeat (first | apply Kd.V_alloc | apply Kd.V_drewN | apply Kd.V_drew)); exact Kd.V_mono HL522_7.out (fun _ hk => ⟨⟨hk.1.1, ⟨hk.1.2.1, ⟨hk.1.2.2.2.1, ⟨hk.1.2.2.2.2.1, ⟨hk.1.2.2.2.2.2.1, ⟨hk.1.2.2.2.2.2.2.1, ⟨hk.1.2.2.2.2.2.2.2.1, ⟨hk.1.2.2.2.2.2.2.2.2.1, ⟨hk.1.2.2.2.2.2.2.2.2.2.1, ⟨hk.2, ⟨hk.1.2.2.2.2.2.2.2.2.2.2.1, hk.1.2.2.2.2.2.2.2.2.2.2.2⟩⟩⟩⟩⟩⟩⟩⟩⟩⟩⟩, hk.1.2.2.1⟩)) hg hat); have n13_ := A_.mk (Kd.V_afterv (ok := (fun k_ => some k_ ≠ (.slice (some ad524) t475.length co7 : Value).ownBlock ∧ some k_ ≠ (.slice (some ad523) x5_2.length co79 : Value).ownBlock ∧ some k_ ≠ (.slice Ao64 x488001_2.length co64 : Value).ownBlock ∧ some k_ ≠ (.slice Ao65 x488002_2.length co65 : Value).ownBlock ∧ some k_ ≠ (.slice Ao66 x488003_2.length co66 : Value).ownBlock ∧ some k_ ≠ (.slice Ao71 t508.length co71 : Value).ownBlock ∧ some k_ ≠ (.slice Ao74 t511.length co74 : Value).ownBlock ∧ some k_ ≠ (.slice Ao75 t514.length co75 : Value).ownBlock ∧ some k_ ≠ (.slice (some ad522) t517.length co76 : Value).ownBlock ∧ k_ ≠ gb487 ∧ k_ ≠ gb521)) (by (with_reducible repeat (first | apply Kd.V_alloc | apply Kd.V_drewN | apply Kd.V_drew)); exact Kd.V_mono HL524_7.out (fun _ hk => ⟨⟨hk.2, ⟨hk.1.1, ⟨hk.1.2.2.1, ⟨hk.1.2.2.2.1, ⟨hk.1.2.2.2.2.1, ⟨hk.1.2.2.2.2.2.1, ⟨hk.1.2.2.2.2.2.2.1, ⟨hk.1.2.2.2.2.2.2.2.1, ⟨hk.1.2.2.2.2.2.2.2.2.1, ⟨hk.1.2.2.2.2.2.2.2.2.2.1, hk.1.2.2.2.2.2.2.2.2.2.2⟩⟩⟩⟩⟩⟩⟩⟩⟩⟩, hk.1.2.1⟩)) hg hat); have n14_ := A_.mk (hb); have n15_ := A_.mk (ho); clear HO_4 HO_5 HO_488000 HO_488001 HO_488002 HO_488003 BK487 HO510 HO513 HO516 HO519 BK521 HL522_7 HL524_7 HB HO_7; have HO_4 := n0_; have HO_5 := n1_; have HO_488000 := n2_; have HO_488001 := n3_; have HO_488002 := n4_; have HO_488003 := n5_; have BK487 := n6_; have HO510 := n7_; have HO513 := n8_; have HO516 := n9_; have HO519 := n10_; have BK521 := n11_; have HL522_7 := n12_; have HL524_7 := n13_; have HB := n14_; have HO530 := n15_; clear n0_ n1_ n2_ n3_ n4_ n5_ n6_ n7_ n8_ n9_ n10_ n11_ n12_ n13_ n14_ n15_ ho hb hg hat))
     have n0_ := A_.mk (Kd.N_drew HO_4.out)
     have n1_ := A_.mk (Kd.R_drew HO_5.out)
     have n2_ := A_.mk (Kd.N_drew HO_488000.out)
     have n3_ := A_.mk (Kd.R_drew HO_488001.out)
     have n4_ := A_.mk (Kd.R_drew HO_488002.out)
     have n5_ := A_.mk (Kd.N_drew HO_488003.out)
     have n6_ := A_.mk (Kd.N_drew HO510.out)
     have n7_ := A_.mk (Kd.R_drew HO513.out)
     have n8_ := A_.mk (Kd.R_drew HO516.out)
     have n9_ := A_.mk (Kd.N_drew HO519.out)
     have n10_ := A_.mk (Kd.V_drew HL522_7.out)
     have n11_ := A_.mk (Kd.V_drew HL524_7.out)
     have n12_ := A_.mk (Kd.R_drew HO530.out)
     have n13_ := A_.mk (bw_ BK487.out)
     have n14_ := A_.mk (bw_ BK521.out)
     have n15_ := A_.mk (be_ HB.out)
     clear HO_4 HO_5 HO_488000 HO_488001 HO_488002 HO_488003 HO510 HO513 HO516 HO519 HL522_7 HL524_7 HO530 BK487 BK521 HB
     have HO_4 := n0_
     have HO_5 := n1_
     have HO_488000 := n2_
     have HO_488001 := n3_
     have HO_488002 := n4_
     have HO_488003 := n5_
     have HO510 := n6_
     have HO513 := n7_
     have HO516 := n8_
     have HO519 := n9_
     have HL522_7 := n10_
     have HL524_7 := n11_
     have HO530 := n12_
     have BK487 := n13_
     have BK521 := n14_
     have HB := n15_
     clear n0_ n1_ n2_ n3_ n4_ n5_ n6_ n7_ n8_ n9_ n10_ n11_ n12_ n13_ n14_ n15_
     have q85 : (t502 : Int) ≤ ((x5_2.length : Int) : Int) := od_
     obtain ⟨i085, hi085, _, hsz85, _⟩ := info_parts info3
     have hroom85 : x5_2.length ≤ co79 := (Kd.R_reads' HO_5.out).2.1
     have hC85 : Kd.F (Kd.int .i64) _ _ (some ad523) x5_2.length x5_2 := (Kd.V_at (base := w.heap.size) (Kd.R_V (Kd.R_types (Kd.R_types (Kd.R_apart' (Kd.R_apart' (Kd.R_apart' (Kd.R_apart' (Kd.R_apart' (HO_5.out) (Kd.N_typed HO_4.out) (by decide)) (Kd.N_typed HO_488000.out) (by decide)) (Kd.N_typed HO_488003.out) (by decide)) (Kd.N_typed HO510.out) (by decide)) (Kd.N_typed HO519.out) (by decide)) BK487.out (by decide)) BK521.out (by decide)))).2.2
     have hcut85 := cut_to (P := Try.prog) 22 3 .i64 Try.underlying22 hi085 (some ad523) x5_2.length co79 t502 (od_) q85 hroom85
     have hr85 := Kd.F_take (m := (t502 : Int).toNat) hC85 (by omega)
     have hy85 : y534.length = (t502 : Int).toNat := (by rw [Ny534.out, List.length_take]; omega)
     rw [← Ny534.out] at hr85
     rw [← hy85] at hcut85
     have HO538 := A_.mk (show Kd.V (Kd.int .i64) 3 _ w.heap.size _ (.slice (some ad523) y534.length co79) y534 from Kd.V_mk (by omega) hr85)
     have HC538 := A_.mk (show y534.length ≤ co79 from by omega)
     clear hr85 hC85 hroom85 hi085 hsz85
     have KY85 := A_.mk hy85
     clear hy85
     replace q85 := eq_true q85
     have q86 : ((ji58) : Int) ≤ ((x5_2.length : Int) : Int) := od_
     obtain ⟨i086, hi086, _, hsz86, _⟩ := info_parts info3
     have hroom86 : x5_2.length ≤ co79 := (Kd.R_reads' HO_5.out).2.1
     have hC86 : Kd.F (Kd.int .i64) _ _ (some ad523) x5_2.length x5_2 := (Kd.V_at (base := w.heap.size) (Kd.R_V (Kd.R_types (Kd.R_types (Kd.R_apart' (Kd.R_apart' (Kd.R_apart' (Kd.R_apart' (Kd.R_apart' (HO_5.out) (Kd.N_typed HO_4.out) (by decide)) (Kd.N_typed HO_488000.out) (by decide)) (Kd.N_typed HO_488003.out) (by decide)) (Kd.N_typed HO510.out) (by decide)) (Kd.N_typed HO519.out) (by decide)) BK487.out (by decide)) BK521.out (by decide)))).2.2
     have q086 : (0 : Int) ≤ ((ji58) : Int) := od_
     have hcut86 := cut_from (P := Try.prog) 22 3 .i64 Try.underlying22 hi086 1 hsz86 (some ad523) x5_2.length co79 (ji58) q086 q86
     have hr86 := Kd.F_cut (m := ((ji58) : Int).toNat) (c := co79) hC86 (by omega) hroom86
     obtain ⟨A86, hA86⟩ : ∃ A1, A1 = (if co79 = ((ji58) : Int).toNat then (some ad523) else ((some ad523) : Option Addr).map (·.add (((ji58) : Int).toNat * 1))) := ⟨_, rfl⟩
     obtain ⟨c86, hc86⟩ : ∃ c1, c1 = co79 - ((ji58) : Int).toNat := ⟨_, rfl⟩
     have hy86 : y542.length = x5_2.length - ((ji58) : Int).toNat := (by rw [Ny542.out, List.length_drop] <;> omega)
     rw [show (x5_2).drop ((ji58) : Int).toNat = y542 from Ny542.out.symm] at hr86
     replace hr86 : Kd.F (Kd.int .i64) _ _ A86 y542.length y542 := (by rw [hA86]; exact hr86)
     rw [← hy86, ← hA86, ← hc86] at hcut86
     have HO546 := A_.mk (show Kd.V (Kd.int .i64) 3 _ w.heap.size _ (.slice A86 y542.length c86) y542 from Kd.V_mk (by rw [hy86, hc86]; exact Nat.sub_le_sub_right hroom86 _) hr86)
     have HC546 := A_.mk (show y542.length ≤ c86 from by rw [hy86, hc86]; exact Nat.sub_le_sub_right hroom86 _)
     clear hr86 hC86 hroom86 hi086 hsz86 hc86
     have KY86 := A_.mk hy86
     have KA86 := A_.mk hA86
     clear hy86 hA86
     replace q86 := eq_true q86
     refine start_ (n := 11) (S := fun w' => True) (ds := []) #[F, F, F, F, F, F, F, F, F, F, F] (by kernel_rfl) rfl rfl trivial (fun hHeld => ?_); refine with_tabW laws_FnQueues.tab20 laws_FnQueues.bits20 (fun HT_ HW_ => ?_)
     generalize w83.drew = w84 at HO_4 HO_5 HO_488000 HO_488001 HO_488002 HO_488003 HO510 HO513 HO516 HO519 HL522_7 HL524_7 HO530 BK487 BK521 HB HO538 HO546 hHeld ⊢
     refine pr_ (i := 1) (N := some 92) #[F, T, F, F, F, F, F, F, F, F, F] rfl HT_.out ?_
     refine pr_ (i := 2) (N := some 93) #[F, T, T, F, F, F, F, F, F, F, F] rfl HT_.out ?_
     refine pr_ (i := 3) (N := some 94) #[F, T, T, T, F, F, F, F, F, F, F] rfl HT_.out ?_
     refine pr_ (i := 5) (N := some 96) #[F, T, T, T, F, T, F, F, F, F, F] rfl HT_.out ?_
     refine pr_ (i := 6) (N := some 97) #[F, T, T, T, F, T, T, F, F, F, F] rfl HT_.out ?_
     refine pr_ (i := 7) (N := some 98) #[F, T, T, T, F, T, T, T, F, F, F] rfl HT_.out ?_
     refine pr_ (i := 8) (N := some 99) #[F, T, T, T, F, T, T, T, T, F, F] rfl HT_.out ?_
     refine one_ (i := 0) (N := some 91) #[T, T, T, T, F, T, T, T, T, F, F] rfl rfl (one_of HT_.out (by kernel_rfl)) (by decide) (fun K hK => ?_)
     refine Kd.R_lit_step (Kd.int .i64) _ 3 ?hg (N := 91) ?hd (xs := ([] : List Int)) (inner := []) (ok := fun _ => True) (okp := fun _ => True) ?hr ?hp (fun _ hk => hk) trivial (Below.refl _ _) (Nat.le_refl _) (by simp) ?_; (case hd => rfl); (case hg => rfl); (case hr => first | (go_simp; done) | (go_simp; rfl)); (case hp => exact (Reps.none _ _))
     intro v532 w87 ho88 hb hg_ hnew_
     clear hg_ hnew_
     (first | rw [← Ny531.out] at ho88 | (simp only [Int.reduceToNat] at ho88; rw [← Ny531.out] at ho88))
     have n0_ := A_.mk (Kd.N_elder' (by (with_reducible repeat (first | apply Kd.N_alloc | apply Kd.N_drewN | apply Kd.N_drew)); exact HO_4.out) (Kd.R_base ho88) hb)
     have n1_ := A_.mk (Kd.R_elder' (rY HO_5.out) (Kd.R_base ho88) hb)
     have n2_ := A_.mk (Kd.N_elder' (by (with_reducible repeat (first | apply Kd.N_alloc | apply Kd.N_drewN | apply Kd.N_drew)); exact HO_488000.out) (Kd.R_base ho88) hb)
     have n3_ := A_.mk (Kd.R_elder' (rY HO_488001.out) (Kd.R_base ho88) hb)
     have n4_ := A_.mk (Kd.R_elder' (rY HO_488002.out) (Kd.R_base ho88) hb)
     have n5_ := A_.mk (Kd.N_elder' (by (with_reducible repeat (first | apply Kd.N_alloc | apply Kd.N_drewN | apply Kd.N_drew)); exact HO_488003.out) (Kd.R_base ho88) hb)
     have n6_ := A_.mk (Kd.N_elder' (by (with_reducible repeat (first | apply Kd.N_alloc | apply Kd.N_drewN | apply Kd.N_drew)); exact HO510.out) (Kd.R_base ho88) hb)
     have n7_ := A_.mk (Kd.R_elder' (rY HO513.out) (Kd.R_base ho88) hb)
     have n8_ := A_.mk (Kd.R_elder' (rY HO516.out) (Kd.R_base ho88) hb)
     have n9_ := A_.mk (Kd.N_elder' (by (with_reducible repeat (first | apply Kd.N_alloc | apply Kd.N_drewN | apply Kd.N_drew)); exact HO519.out) (Kd.R_base ho88) hb)
     have n10_ := A_.mk (Kd.V_elder' (by (with_reducible repeat (first | apply Kd.V_alloc | apply Kd.V_drewN | apply Kd.V_drew)); exact HL522_7.out) (Kd.R_base ho88) hb)
     have n11_ := A_.mk (Kd.V_elder' (by (with_reducible repeat (first | apply Kd.V_alloc | apply Kd.V_drewN | apply Kd.V_drew)); exact HL524_7.out) (Kd.R_base ho88) hb)
     have n12_ := A_.mk (Kd.R_elder' (rY HO530.out) (Kd.R_base ho88) hb)
     have n13_ := A_.mk (Kd.V_elder' (by (with_reducible repeat (first | apply Kd.V_alloc | apply Kd.V_drewN | apply Kd.V_drew)); exact HO538.out) (Kd.R_base ho88) hb)
     have n14_ := A_.mk (Kd.V_elder' (by (with_reducible repeat (first | apply Kd.V_alloc | apply Kd.V_drewN | apply Kd.V_drew)); exact HO546.out) (Kd.R_base ho88) hb)
     have n15_ := A_.mk (Kd.R_lower (Kd.R_new' (Kd.R_new' (Kd.R_new' (Kd.R_new' (Kd.R_new' (Kd.R_new' ho88 (Kd.R_lt (rY HO_5.out))) (Kd.R_lt (rY HO_488001.out))) (Kd.R_lt (rY HO_488002.out))) (Kd.R_lt (rY HO513.out))) (Kd.R_lt (rY HO516.out))) (Kd.R_lt (rY HO530.out))) (bz_ (by repeat (first | (with_reducible first | exact HB.out | apply ba_ | apply bd_ | apply be_ | refine bs_ ?_ GE487.out | refine bs_ ?_ GE521.out) | exact HB.out))))
     have n16_ := A_.mk (bb_ (bY BK487.out) hb)
     have n17_ := A_.mk (bb_ (bY BK521.out) hb)
     have n18_ := A_.mk (bt_ (by repeat (first | (with_reducible first | exact HB.out | apply ba_ | apply bd_ | apply be_ | refine bs_ ?_ GE487.out | refine bs_ ?_ GE521.out) | exact HB.out)) hb)
     clear HO_4 HO_5 HO_488000 HO_488001 HO_488002 HO_488003 HO510 HO513 HO516 HO519 HL522_7 HL524_7 HO530 HO538 HO546 BK487 BK521 HB
     have HO_4 := n0_
     have HO_5 := n1_
     have HO_488000 := n2_
     have HO_488001 := n3_
     have HO_488002 := n4_
     have HO_488003 := n5_
     have HO510 := n6_
     have HO513 := n7_
     have HO516 := n8_
     have HO519 := n9_
     have HL522_7 := n10_
     have HL524_7 := n11_
     have HO530 := n12_
     have HO538 := n13_
     have HO546 := n14_
     have HO533 := n15_
     have BK487 := n16_
     have BK521 := n17_
     have HB := n18_
     clear n0_ n1_ n2_ n3_ n4_ n5_ n6_ n7_ n8_ n9_ n10_ n11_ n12_ n13_ n14_ n15_ n16_ n17_ n18_ hb ho88
     refine hK.out _ _ trivial (fun hHeld => ?_)
     clear hK K
     refine norm_ (a' := ?_) ?_ ?_
     rotate_left
     ·show Act.put _ (some 91) _ = _
      simp only [pS]
      rfl
     refine one_ (i := 4) (N := some 95) #[T, T, T, T, T, T, T, T, T, F, F] rfl rfl (one_of HT_.out (by kernel_rfl)) (by decide) (fun K hK => ?_)
     refine Kd.R_append_rows_step (Kd.int .i64) (w0 := w) w.heap.size (by rfl) (.tmp 91) (.tmp 94) 22 3 (.int .i64 0) 8 rfl Try.underlying22 info3 rfl (by decide) (by omega) v532 y531 y534 _ _ _ (fun k_ => some k_ ≠ (.slice (some ad523) x5_2.length co79 : Value).ownBlock ∧ some k_ ≠ (.slice Ao64 x488001_2.length co64 : Value).ownBlock ∧ some k_ ≠ (.slice Ao65 x488002_2.length co65 : Value).ownBlock ∧ some k_ ≠ (.slice Ao74 t511.length co74 : Value).ownBlock ∧ some k_ ≠ (.slice Ao75 t514.length co75 : Value).ownBlock ∧ some k_ ≠ (v529 : Value).ownBlock) (fun _ => False) rfl rfl ?aO ?aR (fun _ _ h => h) (fun _ h => h.elim) ?aF ?aB ?aS ?aL ?_
     (case aR => repeat (first | exact (Kd.V_reads' HO538.out).2.2 | (with_reducible refine Kd.C_alloc ?_ _) | (with_reducible refine Kd.C_drewN ?_ _) | (with_reducible refine Kd.C_drew ?_)))
     (case aB => exact (by repeat (first | (with_reducible first | exact HB.out | apply ba_ | apply bd_ | apply be_ | refine bs_ ?_ GE487.out | refine bs_ ?_ GE521.out) | exact HB.out)))
     (case aF => exact (fun k_ hk => ⟨Kd.fresh' (Kd.R_lt (rY HO_5.out)) k_ hk, Kd.fresh' (Kd.R_lt (rY HO_488001.out)) k_ hk, Kd.fresh' (Kd.R_lt (rY HO_488002.out)) k_ hk, Kd.fresh' (Kd.R_lt (rY HO513.out)) k_ hk, Kd.fresh' (Kd.R_lt (rY HO516.out)) k_ hk, Kd.fresh' (Kd.R_lt (rY HO530.out)) k_ hk⟩))
     (case aO => exact (by (repeat apply rX); exact Kd.R_mono HO533.out (fun _ hk => ⟨hk.1.1.1.1.1.2, ⟨hk.1.1.1.1.2, ⟨hk.1.1.1.2, ⟨hk.1.1.2, ⟨hk.1.2, hk.2⟩⟩⟩⟩⟩)))
     (case aS => exact (bz_ (by repeat (first | (with_reducible first | exact HB.out | apply ba_ | apply bd_ | apply be_ | refine bs_ ?_ GE487.out | refine bs_ ?_ GE521.out) | exact HB.out))))
     (case aL => have := LMc57.out; omega)
     intro v540 w89 ho hb hg hat
     rw [← Ny539.out] at ho
     have n0_ := A_.mk (Kd.N_afterv (ok := (fun k_ => some k_ ≠ (.slice (some ad523) x5_2.length co79 : Value).ownBlock ∧ some k_ ≠ (.slice Ao64 x488001_2.length co64 : Value).ownBlock ∧ some k_ ≠ (.slice Ao65 x488002_2.length co65 : Value).ownBlock ∧ some k_ ≠ (.slice Ao66 x488003_2.length co66 : Value).ownBlock ∧ some k_ ≠ (.slice Ao71 t508.length co71 : Value).ownBlock ∧ some k_ ≠ (.slice Ao74 t511.length co74 : Value).ownBlock ∧ some k_ ≠ (.slice Ao75 t514.length co75 : Value).ownBlock ∧ some k_ ≠ (.slice (some ad522) t517.length co76 : Value).ownBlock ∧ some k_ ≠ (v529 : Value).ownBlock ∧ k_ ≠ gb487 ∧ k_ ≠ gb521)) (by (with_reducible repeat (first | apply Kd.N_alloc | apply Kd.N_drewN | apply Kd.N_drew)); exact Kd.N_mono HO_4.out (fun _ hk => ⟨⟨hk.1.1.1, ⟨hk.1.1.2.1, ⟨hk.1.1.2.2.1, ⟨hk.1.1.2.2.2.1, ⟨hk.1.1.2.2.2.2.1, ⟨hk.1.1.2.2.2.2.2.1, ⟨hk.1.1.2.2.2.2.2.2.1, ⟨hk.1.1.2.2.2.2.2.2.2.1, ⟨hk.1.2, ⟨hk.1.1.2.2.2.2.2.2.2.2.1, hk.1.1.2.2.2.2.2.2.2.2.2⟩⟩⟩⟩⟩⟩⟩⟩⟩⟩, hk.2⟩)) hg hat)
     have n1_ := A_.mk (Kd.R_after (ok := (fun k_ => some k_ ≠ (.slice Ao64 x488001_2.length co64 : Value).ownBlock ∧ some k_ ≠ (.slice Ao65 x488002_2.length co65 : Value).ownBlock ∧ some k_ ≠ (.slice Ao74 t511.length co74 : Value).ownBlock ∧ some k_ ≠ (.slice Ao75 t514.length co75 : Value).ownBlock ∧ some k_ ≠ (v529 : Value).ownBlock)) (by (repeat apply rX); exact Kd.R_mono HO_5.out (fun _ hk => ⟨⟨hk.1.1.1, ⟨hk.1.1.2.1, ⟨hk.1.1.2.2.1, ⟨hk.1.1.2.2.2, hk.1.2⟩⟩⟩⟩, hk.2⟩)) hg hat)
     have n2_ := A_.mk (Kd.N_afterv (ok := (fun k_ => some k_ ≠ (.slice (some ad523) x5_2.length co79 : Value).ownBlock ∧ some k_ ≠ (.slice Ao64 x488001_2.length co64 : Value).ownBlock ∧ some k_ ≠ (.slice Ao65 x488002_2.length co65 : Value).ownBlock ∧ some k_ ≠ (.slice Ao66 x488003_2.length co66 : Value).ownBlock ∧ some k_ ≠ (.slice Ao71 t508.length co71 : Value).ownBlock ∧ some k_ ≠ (.slice Ao74 t511.length co74 : Value).ownBlock ∧ some k_ ≠ (.slice Ao75 t514.length co75 : Value).ownBlock ∧ some k_ ≠ (.slice (some ad522) t517.length co76 : Value).ownBlock ∧ some k_ ≠ (v529 : Value).ownBlock ∧ k_ ≠ gb487 ∧ k_ ≠ gb521)) (by (with_reducible repeat (first | apply Kd.N_alloc | apply Kd.N_drewN | apply Kd.N_drew)); exact Kd.N_mono HO_488000.out (fun _ hk => ⟨⟨hk.1.1.1, ⟨hk.1.1.2.1, ⟨hk.1.1.2.2.1, ⟨hk.1.1.2.2.2.1, ⟨hk.1.1.2.2.2.2.1, ⟨hk.1.1.2.2.2.2.2.1, ⟨hk.1.1.2.2.2.2.2.2.1, ⟨hk.1.1.2.2.2.2.2.2.2.1, ⟨hk.1.2, ⟨hk.1.1.2.2.2.2.2.2.2.2.1, hk.1.1.2.2.2.2.2.2.2.2.2⟩⟩⟩⟩⟩⟩⟩⟩⟩⟩, hk.2⟩)) hg hat)
     have n3_ := A_.mk (Kd.R_after (ok := (fun k_ => some k_ ≠ (.slice (some ad523) x5_2.length co79 : Value).ownBlock ∧ some k_ ≠ (.slice Ao65 x488002_2.length co65 : Value).ownBlock ∧ some k_ ≠ (.slice Ao74 t511.length co74 : Value).ownBlock ∧ some k_ ≠ (.slice Ao75 t514.length co75 : Value).ownBlock ∧ some k_ ≠ (v529 : Value).ownBlock)) (by (repeat apply rX); exact Kd.R_mono HO_488001.out (fun _ hk => ⟨⟨hk.1.1.1, ⟨hk.1.1.2.1, ⟨hk.1.1.2.2.1, ⟨hk.1.1.2.2.2, hk.1.2⟩⟩⟩⟩, hk.2⟩)) hg hat)
     have n4_ := A_.mk (Kd.R_after (ok := (fun k_ => some k_ ≠ (.slice (some ad523) x5_2.length co79 : Value).ownBlock ∧ some k_ ≠ (.slice Ao64 x488001_2.length co64 : Value).ownBlock ∧ some k_ ≠ (.slice Ao74 t511.length co74 : Value).ownBlock ∧ some k_ ≠ (.slice Ao75 t514.length co75 : Value).ownBlock ∧ some k_ ≠ (v529 : Value).ownBlock)) (by (repeat apply rX); exact Kd.R_mono HO_488002.out (fun _ hk => ⟨⟨hk.1.1.1, ⟨hk.1.1.2.1, ⟨hk.1.1.2.2.1, ⟨hk.1.1.2.2.2, hk.1.2⟩⟩⟩⟩, hk.2⟩)) hg hat)
     have n5_ := A_.mk (Kd.N_afterv (ok := (fun k_ => some k_ ≠ (.slice (some ad524) t475.length co7 : Value).ownBlock ∧ some k_ ≠ (.slice (some ad523) x5_2.length co79 : Value).ownBlock ∧ some k_ ≠ (.slice Ao63 x488000_2.length co63 : Value).ownBlock ∧ some k_ ≠ (.slice Ao64 x488001_2.length co64 : Value).ownBlock ∧ some k_ ≠ (.slice Ao65 x488002_2.length co65 : Value).ownBlock ∧ some k_ ≠ (.slice Ao71 t508.length co71 : Value).ownBlock ∧ some k_ ≠ (.slice Ao74 t511.length co74 : Value).ownBlock ∧ some k_ ≠ (.slice Ao75 t514.length co75 : Value).ownBlock ∧ some k_ ≠ (.slice (some ad522) t517.length co76 : Value).ownBlock ∧ some k_ ≠ (v529 : Value).ownBlock ∧ k_ ≠ gb487 ∧ k_ ≠ gb521)) (by (with_reducible repeat (first | apply Kd.N_alloc | apply Kd.N_drewN | apply Kd.N_drew)); exact Kd.N_mono HO_488003.out (fun _ hk => ⟨⟨hk.1.1.1, ⟨hk.1.1.2.1, ⟨hk.1.1.2.2.1, ⟨hk.1.1.2.2.2.1, ⟨hk.1.1.2.2.2.2.1, ⟨hk.1.1.2.2.2.2.2.1, ⟨hk.1.1.2.2.2.2.2.2.1, ⟨hk.1.1.2.2.2.2.2.2.2.1, ⟨hk.1.1.2.2.2.2.2.2.2.2.1, ⟨hk.1.2, ⟨hk.1.1.2.2.2.2.2.2.2.2.2.1, hk.1.1.2.2.2.2.2.2.2.2.2.2⟩⟩⟩⟩⟩⟩⟩⟩⟩⟩⟩, hk.2⟩)) hg hat)
     have n6_ := A_.mk (blk_grown (g := gb487) (o := .cells #[.slice Ao63 x488000_2.length co63, .slice Ao64 x488001_2.length co64, .slice Ao65 x488002_2.length co65, .slice Ao66 x488003_2.length co66] 53 (0, 0)) (bY BK487.out) hg (Kd.R_ne HO533.out BK487.out (by decide)))
     have n7_ := A_.mk (Kd.N_afterv (ok := (fun k_ => some k_ ≠ (.slice (some ad524) t475.length co7 : Value).ownBlock ∧ some k_ ≠ (.slice (some ad523) x5_2.length co79 : Value).ownBlock ∧ some k_ ≠ (.slice Ao63 x488000_2.length co63 : Value).ownBlock ∧ some k_ ≠ (.slice Ao64 x488001_2.length co64 : Value).ownBlock ∧ some k_ ≠ (.slice Ao65 x488002_2.length co65 : Value).ownBlock ∧ some k_ ≠ (.slice Ao66 x488003_2.length co66 : Value).ownBlock ∧ some k_ ≠ (.slice Ao74 t511.length co74 : Value).ownBlock ∧ some k_ ≠ (.slice Ao75 t514.length co75 : Value).ownBlock ∧ some k_ ≠ (.slice (some ad522) t517.length co76 : Value).ownBlock ∧ some k_ ≠ (v529 : Value).ownBlock ∧ k_ ≠ gb487 ∧ k_ ≠ gb521)) (by (with_reducible repeat (first | apply Kd.N_alloc | apply Kd.N_drewN | apply Kd.N_drew)); exact Kd.N_mono HO510.out (fun _ hk => ⟨⟨hk.1.1.1, ⟨hk.1.1.2.1, ⟨hk.1.1.2.2.1, ⟨hk.1.1.2.2.2.1, ⟨hk.1.1.2.2.2.2.1, ⟨hk.1.1.2.2.2.2.2.1, ⟨hk.1.1.2.2.2.2.2.2.1, ⟨hk.1.1.2.2.2.2.2.2.2.1, ⟨hk.1.1.2.2.2.2.2.2.2.2.1, ⟨hk.1.2, ⟨hk.1.1.2.2.2.2.2.2.2.2.2.1, hk.1.1.2.2.2.2.2.2.2.2.2.2⟩⟩⟩⟩⟩⟩⟩⟩⟩⟩⟩, hk.2⟩)) hg hat)
     have n8_ := A_.mk (Kd.R_after (ok := (fun k_ => some k_ ≠ (.slice (some ad523) x5_2.length co79 : Value).ownBlock ∧ some k_ ≠ (.slice Ao64 x488001_2.length co64 : Value).ownBlock ∧ some k_ ≠ (.slice Ao65 x488002_2.length co65 : Value).ownBlock ∧ some k_ ≠ (.slice Ao75 t514.length co75 : Value).ownBlock ∧ some k_ ≠ (v529 : Value).ownBlock)) (by (repeat apply rX); exact Kd.R_mono HO513.out (fun _ hk => ⟨⟨hk.1.1.1, ⟨hk.1.1.2.1, ⟨hk.1.1.2.2.1, ⟨hk.1.1.2.2.2, hk.1.2⟩⟩⟩⟩, hk.2⟩)) hg hat)
     have n9_ := A_.mk (Kd.R_after (ok := (fun k_ => some k_ ≠ (.slice (some ad523) x5_2.length co79 : Value).ownBlock ∧ some k_ ≠ (.slice Ao64 x488001_2.length co64 : Value).ownBlock ∧ some k_ ≠ (.slice Ao65 x488002_2.length co65 : Value).ownBlock ∧ some k_ ≠ (.slice Ao74 t511.length co74 : Value).ownBlock ∧ some k_ ≠ (v529 : Value).ownBlock)) (by (repeat apply rX); exact Kd.R_mono HO516.out (fun _ hk => ⟨⟨hk.1.1.1, ⟨hk.1.1.2.1, ⟨hk.1.1.2.2.1, ⟨hk.1.1.2.2.2, hk.1.2⟩⟩⟩⟩, hk.2⟩)) hg hat)
     have n10_ := A_.mk (Kd.N_afterv (ok := (fun k_ => some k_ ≠ (.slice (some ad524) t475.length co7 : Value).ownBlock ∧ some k_ ≠ (.slice (some ad523) x5_2.length co79 : Value).ownBlock ∧ some k_ ≠ (.slice Ao63 x488000_2.length co63 : Value).ownBlock ∧ some k_ ≠ (.slice Ao64 x488001_2.length co64 : Value).ownBlock ∧ some k_ ≠ (.slice Ao65 x488002_2.length co65 : Value).ownBlock ∧ some k_ ≠ (.slice Ao66 x488003_2.length co66 : Value).ownBlock ∧ some k_ ≠ (.slice Ao71 t508.length co71 : Value).ownBlock ∧ some k_ ≠ (.slice Ao74 t511.length co74 : Value).ownBlock ∧ some k_ ≠ (.slice Ao75 t514.length co75 : Value).ownBlock ∧ some k_ ≠ (v529 : Value).ownBlock ∧ k_ ≠ gb487 ∧ k_ ≠ gb521)) (by (with_reducible repeat (first | apply Kd.N_alloc | apply Kd.N_drewN | apply Kd.N_drew)); exact Kd.N_mono HO519.out (fun _ hk => ⟨⟨hk.1.1.1, ⟨hk.1.1.2.1, ⟨hk.1.1.2.2.1, ⟨hk.1.1.2.2.2.1, ⟨hk.1.1.2.2.2.2.1, ⟨hk.1.1.2.2.2.2.2.1, ⟨hk.1.1.2.2.2.2.2.2.1, ⟨hk.1.1.2.2.2.2.2.2.2.1, ⟨hk.1.1.2.2.2.2.2.2.2.2.1, ⟨hk.1.2, ⟨hk.1.1.2.2.2.2.2.2.2.2.2.1, hk.1.1.2.2.2.2.2.2.2.2.2.2⟩⟩⟩⟩⟩⟩⟩⟩⟩⟩⟩, hk.2⟩)) hg hat)
     have n11_ := A_.mk (blk_grown (g := gb521) (o := .cells #[.slice Ao71 t508.length co71, .slice Ao74 t511.length co74, .slice Ao75 t514.length co75, .slice (some ad522) t517.length co76] 53 (0, 0)) (bY BK521.out) hg (Kd.R_ne HO533.out BK521.out (by decide)))
     have n12_ := A_.mk (Kd.V_afterv (ok := (fun k_ => some k_ ≠ (.slice (some ad524) t475.length co7 : Value).ownBlock ∧ some k_ ≠ (.slice (some ad523) x5_2.length co79 : Value).ownBlock ∧ some k_ ≠ (.slice Ao63 x488000_2.length co63 : Value).ownBlock ∧ some k_ ≠ (.slice Ao64 x488001_2.length co64 : Value).ownBlock ∧ some k_ ≠ (.slice Ao65 x488002_2.length co65 : Value).ownBlock ∧ some k_ ≠ (.slice Ao66 x488003_2.length co66 : Value).ownBlock ∧ some k_ ≠ (.slice Ao71 t508.length co71 : Value).ownBlock ∧ some k_ ≠ (.slice Ao74 t511.length co74 : Value).ownBlock ∧ some k_ ≠ (.slice Ao75 t514.length co75 : Value).ownBlock ∧ some k_ ≠ (.slice (some ad522) t517.length co76 : Value).ownBlock ∧ some k_ ≠ (v529 : Value).ownBlock ∧ k_ ≠ gb487 ∧ k_ ≠ gb521)) (by (with_reducible repeat (first | apply Kd.V_alloc | apply Kd.V_drewN | apply Kd.V_drew)); exact Kd.V_mono HL522_7.out (fun _ hk => ⟨⟨hk.1.1.1, ⟨hk.1.1.2.1, ⟨hk.1.1.2.2.1, ⟨hk.1.1.2.2.2.1, ⟨hk.1.1.2.2.2.2.1, ⟨hk.1.1.2.2.2.2.2.1, ⟨hk.1.1.2.2.2.2.2.2.1, ⟨hk.1.1.2.2.2.2.2.2.2.1, ⟨hk.1.1.2.2.2.2.2.2.2.2.1, ⟨hk.1.1.2.2.2.2.2.2.2.2.2.1, ⟨hk.1.2, ⟨hk.1.1.2.2.2.2.2.2.2.2.2.2.1, hk.1.1.2.2.2.2.2.2.2.2.2.2.2⟩⟩⟩⟩⟩⟩⟩⟩⟩⟩⟩⟩, hk.2⟩)) hg hat)
     have n13_ := A_.mk (Kd.V_afterv (ok := (fun k_ => some k_ ≠ (.slice (some ad524) t475.length co7 : Value).ownBlock ∧ some k_ ≠ (.slice (some ad523) x5_2.length co79 : Value).ownBlock ∧ some k_ ≠ (.slice Ao64 x488001_2.length co64 : Value).ownBlock ∧ some k_ ≠ (.slice Ao65 x488002_2.length co65 : Value).ownBlock ∧ some k_ ≠ (.slice Ao66 x488003_2.length co66 : Value).ownBlock ∧ some k_ ≠ (.slice Ao71 t508.length co71 : Value).ownBlock ∧ some k_ ≠ (.slice Ao74 t511.length co74 : Value).ownBlock ∧ some k_ ≠ (.slice Ao75 t514.length co75 : Value).ownBlock ∧ some k_ ≠ (.slice (some ad522) t517.length co76 : Value).ownBlock ∧ some k_ ≠ (v529 : Value).ownBlock ∧ k_ ≠ gb487 ∧ k_ ≠ gb521)) (by (with_reducible repeat (first | apply Kd.V_alloc | apply Kd.V_drewN | apply Kd.V_drew)); exact Kd.V_mono HL524_7.out (fun _ hk => ⟨⟨hk.1.1.1, ⟨hk.1.1.2.1, ⟨hk.1.1.2.2.1, ⟨hk.1.1.2.2.2.1, ⟨hk.1.1.2.2.2.2.1, ⟨hk.1.1.2.2.2.2.2.1, ⟨hk.1.1.2.2.2.2.2.2.1, ⟨hk.1.1.2.2.2.2.2.2.2.1, ⟨hk.1.1.2.2.2.2.2.2.2.2.1, ⟨hk.1.2, ⟨hk.1.1.2.2.2.2.2.2.2.2.2.1, hk.1.1.2.2.2.2.2.2.2.2.2.2⟩⟩⟩⟩⟩⟩⟩⟩⟩⟩⟩, hk.2⟩)) hg hat)
     have n14_ := A_.mk (Kd.R_after (ok := (fun k_ => some k_ ≠ (.slice (some ad523) x5_2.length co79 : Value).ownBlock ∧ some k_ ≠ (.slice Ao64 x488001_2.length co64 : Value).ownBlock ∧ some k_ ≠ (.slice Ao65 x488002_2.length co65 : Value).ownBlock ∧ some k_ ≠ (.slice Ao74 t511.length co74 : Value).ownBlock ∧ some k_ ≠ (.slice Ao75 t514.length co75 : Value).ownBlock)) (rY HO530.out) hg hat)
     have n15_ := A_.mk (Kd.V_afterv (ok := (fun k_ => some k_ ≠ (.slice (some ad524) t475.length co7 : Value).ownBlock ∧ some k_ ≠ (.slice Ao63 x488000_2.length co63 : Value).ownBlock ∧ some k_ ≠ (.slice Ao64 x488001_2.length co64 : Value).ownBlock ∧ some k_ ≠ (.slice Ao65 x488002_2.length co65 : Value).ownBlock ∧ some k_ ≠ (.slice Ao66 x488003_2.length co66 : Value).ownBlock ∧ some k_ ≠ (.slice Ao71 t508.length co71 : Value).ownBlock ∧ some k_ ≠ (.slice Ao74 t511.length co74 : Value).ownBlock ∧ some k_ ≠ (.slice Ao75 t514.length co75 : Value).ownBlock ∧ some k_ ≠ (.slice (some ad522) t517.length co76 : Value).ownBlock ∧ some k_ ≠ (v529 : Value).ownBlock ∧ k_ ≠ gb487 ∧ k_ ≠ gb521)) (by (with_reducible repeat (first | apply Kd.V_alloc | apply Kd.V_drewN | apply Kd.V_drew)); exact Kd.V_mono HO538.out (fun _ hk => ⟨⟨hk.1.1.1.1.1.1.1.2, ⟨hk.1.1.1.1.1.1.2, ⟨hk.1.1.1.1.1.1.1.1.1.1, ⟨hk.1.1.1.1.1.1.1.1.1.2.1, ⟨hk.1.1.1.1.1.2, ⟨hk.1.1.1.1.2, ⟨hk.1.1.1.1.1.1.1.1.1.2.2.1, ⟨hk.1.1.1.1.1.1.1.1.1.2.2.2, ⟨hk.1.1.1.2, ⟨hk.1.1.1.1.1.1.1.1.2, ⟨hk.1.1.2, hk.1.2⟩⟩⟩⟩⟩⟩⟩⟩⟩⟩⟩, hk.2⟩)) hg hat)
     have n16_ := A_.mk (Kd.V_afterv (ok := (fun k_ => some k_ ≠ (.slice (some ad524) t475.length co7 : Value).ownBlock ∧ some k_ ≠ (.slice Ao63 x488000_2.length co63 : Value).ownBlock ∧ some k_ ≠ (.slice Ao64 x488001_2.length co64 : Value).ownBlock ∧ some k_ ≠ (.slice Ao65 x488002_2.length co65 : Value).ownBlock ∧ some k_ ≠ (.slice Ao66 x488003_2.length co66 : Value).ownBlock ∧ some k_ ≠ (.slice Ao71 t508.length co71 : Value).ownBlock ∧ some k_ ≠ (.slice Ao74 t511.length co74 : Value).ownBlock ∧ some k_ ≠ (.slice Ao75 t514.length co75 : Value).ownBlock ∧ some k_ ≠ (.slice (some ad522) t517.length co76 : Value).ownBlock ∧ some k_ ≠ (v529 : Value).ownBlock ∧ k_ ≠ gb487 ∧ k_ ≠ gb521)) (by (with_reducible repeat (first | apply Kd.V_alloc | apply Kd.V_drewN | apply Kd.V_drew)); exact Kd.V_mono HO546.out (fun _ hk => ⟨⟨hk.1.1.1.1.1.1.1.2, ⟨hk.1.1.1.1.1.1.2, ⟨hk.1.1.1.1.1.1.1.1.1.1, ⟨hk.1.1.1.1.1.1.1.1.1.2.1, ⟨hk.1.1.1.1.1.2, ⟨hk.1.1.1.1.2, ⟨hk.1.1.1.1.1.1.1.1.1.2.2.1, ⟨hk.1.1.1.1.1.1.1.1.1.2.2.2, ⟨hk.1.1.1.2, ⟨hk.1.1.1.1.1.1.1.1.2, ⟨hk.1.1.2, hk.1.2⟩⟩⟩⟩⟩⟩⟩⟩⟩⟩⟩, hk.2⟩)) hg hat)
     have n17_ := A_.mk (hb)
     have n18_ := A_.mk (ho)
     clear HO_4 HO_5 HO_488000 HO_488001 HO_488002 HO_488003 BK487 HO510 HO513 HO516 HO519 BK521 HL522_7 HL524_7 HO530 HO538 HO546 HB HO533
     have HO_4 := n0_
     have HO_5 := n1_
     have HO_488000 := n2_
     have HO_488001 := n3_
     have HO_488002 := n4_
     have HO_488003 := n5_
     have BK487 := n6_
     have HO510 := n7_
     have HO513 := n8_
     have HO516 := n9_
     have HO519 := n10_
     have BK521 := n11_
     have HL522_7 := n12_
     have HL524_7 := n13_
     have HO530 := n14_
     have HO538 := n15_
     have HO546 := n16_
     have HB := n17_
     have HO541 := n18_
     clear n0_ n1_ n2_ n3_ n4_ n5_ n6_ n7_ n8_ n9_ n10_ n11_ n12_ n13_ n14_ n15_ n16_ n17_ n18_ ho hb hg hat
     refine hK.out _ _ trivial (fun hHeld => ?_)
     clear hK K
     refine norm_ (a' := ?_) ?_ ?_
     rotate_left
     ·show Act.put _ (some 95) _ = _
      simp only [pS]
      rfl
     refine one_ (i := 9) (N := some 100) #[T, T, T, T, T, T, T, T, T, T, F] rfl rfl (one_of HT_.out (by kernel_rfl)) (by decide) (fun K hK => ?_)
     refine Kd.R_append_rows_step (Kd.int .i64) (w0 := w) w.heap.size (by rfl) (.tmp 95) (.tmp 99) 22 3 (.int .i64 0) 8 rfl Try.underlying22 info3 rfl (by decide) (by omega) v540 y539 y542 _ _ _ (fun k_ => some k_ ≠ (.slice (some ad523) x5_2.length co79 : Value).ownBlock ∧ some k_ ≠ (.slice Ao64 x488001_2.length co64 : Value).ownBlock ∧ some k_ ≠ (.slice Ao65 x488002_2.length co65 : Value).ownBlock ∧ some k_ ≠ (.slice Ao74 t511.length co74 : Value).ownBlock ∧ some k_ ≠ (.slice Ao75 t514.length co75 : Value).ownBlock ∧ some k_ ≠ (v529 : Value).ownBlock) (fun _ => False) rfl rfl ?aO ?aR (fun _ _ h => h) (fun _ h => h.elim) ?aF ?aB ?aS ?aL ?_
     (case aR => repeat (first | exact (Kd.V_reads' HO546.out).2.2 | (with_reducible refine Kd.C_alloc ?_ _) | (with_reducible refine Kd.C_drewN ?_ _) | (with_reducible refine Kd.C_drew ?_)))
     (case aB => exact (by repeat (first | (with_reducible first | exact HB.out | apply ba_ | apply bd_ | apply be_ | refine bs_ ?_ GE487.out | refine bs_ ?_ GE521.out) | exact HB.out)))
     (case aF => exact (fun k_ hk => ⟨Kd.fresh' (Kd.R_lt (rY HO_5.out)) k_ hk, Kd.fresh' (Kd.R_lt (rY HO_488001.out)) k_ hk, Kd.fresh' (Kd.R_lt (rY HO_488002.out)) k_ hk, Kd.fresh' (Kd.R_lt (rY HO513.out)) k_ hk, Kd.fresh' (Kd.R_lt (rY HO516.out)) k_ hk, Kd.fresh' (Kd.R_lt (rY HO530.out)) k_ hk⟩))
     (case aO => exact (rY HO541.out))
     (case aS => exact (bz_ (by repeat (first | (with_reducible first | exact HB.out | apply ba_ | apply bd_ | apply be_ | refine bs_ ?_ GE487.out | refine bs_ ?_ GE521.out) | exact HB.out))))
     (case aL => have := LMc61.out; omega)
     intro v548 w90 ho hb hg hat
     rw [← Ny547.out] at ho
     have n0_ := A_.mk (Kd.N_afterv (ok := (fun k_ => some k_ ≠ (.slice (some ad523) x5_2.length co79 : Value).ownBlock ∧ some k_ ≠ (.slice Ao64 x488001_2.length co64 : Value).ownBlock ∧ some k_ ≠ (.slice Ao65 x488002_2.length co65 : Value).ownBlock ∧ some k_ ≠ (.slice Ao66 x488003_2.length co66 : Value).ownBlock ∧ some k_ ≠ (.slice Ao71 t508.length co71 : Value).ownBlock ∧ some k_ ≠ (.slice Ao74 t511.length co74 : Value).ownBlock ∧ some k_ ≠ (.slice Ao75 t514.length co75 : Value).ownBlock ∧ some k_ ≠ (.slice (some ad522) t517.length co76 : Value).ownBlock ∧ some k_ ≠ (v529 : Value).ownBlock ∧ k_ ≠ gb487 ∧ k_ ≠ gb521)) (by (with_reducible repeat (first | apply Kd.N_alloc | apply Kd.N_drewN | apply Kd.N_drew)); exact HO_4.out) hg hat)
     have n1_ := A_.mk (Kd.R_after (ok := (fun k_ => some k_ ≠ (.slice Ao64 x488001_2.length co64 : Value).ownBlock ∧ some k_ ≠ (.slice Ao65 x488002_2.length co65 : Value).ownBlock ∧ some k_ ≠ (.slice Ao74 t511.length co74 : Value).ownBlock ∧ some k_ ≠ (.slice Ao75 t514.length co75 : Value).ownBlock ∧ some k_ ≠ (v529 : Value).ownBlock)) (rY HO_5.out) hg hat)
     have n2_ := A_.mk (Kd.N_afterv (ok := (fun k_ => some k_ ≠ (.slice (some ad523) x5_2.length co79 : Value).ownBlock ∧ some k_ ≠ (.slice Ao64 x488001_2.length co64 : Value).ownBlock ∧ some k_ ≠ (.slice Ao65 x488002_2.length co65 : Value).ownBlock ∧ some k_ ≠ (.slice Ao66 x488003_2.length co66 : Value).ownBlock ∧ some k_ ≠ (.slice Ao71 t508.length co71 : Value).ownBlock ∧ some k_ ≠ (.slice Ao74 t511.length co74 : Value).ownBlock ∧ some k_ ≠ (.slice Ao75 t514.length co75 : Value).ownBlock ∧ some k_ ≠ (.slice (some ad522) t517.length co76 : Value).ownBlock ∧ some k_ ≠ (v529 : Value).ownBlock ∧ k_ ≠ gb487 ∧ k_ ≠ gb521)) (by (with_reducible repeat (first | apply Kd.N_alloc | apply Kd.N_drewN | apply Kd.N_drew)); exact HO_488000.out) hg hat)
     have n3_ := A_.mk (Kd.R_after (ok := (fun k_ => some k_ ≠ (.slice (some ad523) x5_2.length co79 : Value).ownBlock ∧ some k_ ≠ (.slice Ao65 x488002_2.length co65 : Value).ownBlock ∧ some k_ ≠ (.slice Ao74 t511.length co74 : Value).ownBlock ∧ some k_ ≠ (.slice Ao75 t514.length co75 : Value).ownBlock ∧ some k_ ≠ (v529 : Value).ownBlock)) (rY HO_488001.out) hg hat)
     have n4_ := A_.mk (Kd.R_after (ok := (fun k_ => some k_ ≠ (.slice (some ad523) x5_2.length co79 : Value).ownBlock ∧ some k_ ≠ (.slice Ao64 x488001_2.length co64 : Value).ownBlock ∧ some k_ ≠ (.slice Ao74 t511.length co74 : Value).ownBlock ∧ some k_ ≠ (.slice Ao75 t514.length co75 : Value).ownBlock ∧ some k_ ≠ (v529 : Value).ownBlock)) (rY HO_488002.out) hg hat)
     have n5_ := A_.mk (Kd.N_afterv (ok := (fun k_ => some k_ ≠ (.slice (some ad524) t475.length co7 : Value).ownBlock ∧ some k_ ≠ (.slice (some ad523) x5_2.length co79 : Value).ownBlock ∧ some k_ ≠ (.slice Ao63 x488000_2.length co63 : Value).ownBlock ∧ some k_ ≠ (.slice Ao64 x488001_2.length co64 : Value).ownBlock ∧ some k_ ≠ (.slice Ao65 x488002_2.length co65 : Value).ownBlock ∧ some k_ ≠ (.slice Ao71 t508.length co71 : Value).ownBlock ∧ some k_ ≠ (.slice Ao74 t511.length co74 : Value).ownBlock ∧ some k_ ≠ (.slice Ao75 t514.length co75 : Value).ownBlock ∧ some k_ ≠ (.slice (some ad522) t517.length co76 : Value).ownBlock ∧ some k_ ≠ (v529 : Value).ownBlock ∧ k_ ≠ gb487 ∧ k_ ≠ gb521)) (by (with_reducible repeat (first | apply Kd.N_alloc | apply Kd.N_drewN | apply Kd.N_drew)); exact HO_488003.out) hg hat)
     have n6_ := A_.mk (blk_grown (g := gb487) (o := .cells #[.slice Ao63 x488000_2.length co63, .slice Ao64 x488001_2.length co64, .slice Ao65 x488002_2.length co65, .slice Ao66 x488003_2.length co66] 53 (0, 0)) (bY BK487.out) hg (Kd.R_ne HO541.out BK487.out (by decide)))
     have n7_ := A_.mk (Kd.N_afterv (ok := (fun k_ => some k_ ≠ (.slice (some ad524) t475.length co7 : Value).ownBlock ∧ some k_ ≠ (.slice (some ad523) x5_2.length co79 : Value).ownBlock ∧ some k_ ≠ (.slice Ao63 x488000_2.length co63 : Value).ownBlock ∧ some k_ ≠ (.slice Ao64 x488001_2.length co64 : Value).ownBlock ∧ some k_ ≠ (.slice Ao65 x488002_2.length co65 : Value).ownBlock ∧ some k_ ≠ (.slice Ao66 x488003_2.length co66 : Value).ownBlock ∧ some k_ ≠ (.slice Ao74 t511.length co74 : Value).ownBlock ∧ some k_ ≠ (.slice Ao75 t514.length co75 : Value).ownBlock ∧ some k_ ≠ (.slice (some ad522) t517.length co76 : Value).ownBlock ∧ some k_ ≠ (v529 : Value).ownBlock ∧ k_ ≠ gb487 ∧ k_ ≠ gb521)) (by (with_reducible repeat (first | apply Kd.N_alloc | apply Kd.N_drewN | apply Kd.N_drew)); exact HO510.out) hg hat)
     have n8_ := A_.mk (Kd.R_after (ok := (fun k_ => some k_ ≠ (.slice (some ad523) x5_2.length co79 : Value).ownBlock ∧ some k_ ≠ (.slice Ao64 x488001_2.length co64 : Value).ownBlock ∧ some k_ ≠ (.slice Ao65 x488002_2.length co65 : Value).ownBlock ∧ some k_ ≠ (.slice Ao75 t514.length co75 : Value).ownBlock ∧ some k_ ≠ (v529 : Value).ownBlock)) (rY HO513.out) hg hat)
     have n9_ := A_.mk (Kd.R_after (ok := (fun k_ => some k_ ≠ (.slice (some ad523) x5_2.length co79 : Value).ownBlock ∧ some k_ ≠ (.slice Ao64 x488001_2.length co64 : Value).ownBlock ∧ some k_ ≠ (.slice Ao65 x488002_2.length co65 : Value).ownBlock ∧ some k_ ≠ (.slice Ao74 t511.length co74 : Value).ownBlock ∧ some k_ ≠ (v529 : Value).ownBlock)) (rY HO516.out) hg hat)
     have n10_ := A_.mk (Kd.N_afterv (ok := (fun k_ => some k_ ≠ (.slice (some ad524) t475.length co7 : Value).ownBlock ∧ some k_ ≠ (.slice (some ad523) x5_2.length co79 : Value).ownBlock ∧ some k_ ≠ (.slice Ao63 x488000_2.length co63 : Value).ownBlock ∧ some k_ ≠ (.slice Ao64 x488001_2.length co64 : Value).ownBlock ∧ some k_ ≠ (.slice Ao65 x488002_2.length co65 : Value).ownBlock ∧ some k_ ≠ (.slice Ao66 x488003_2.length co66 : Value).ownBlock ∧ some k_ ≠ (.slice Ao71 t508.length co71 : Value).ownBlock ∧ some k_ ≠ (.slice Ao74 t511.length co74 : Value).ownBlock ∧ some k_ ≠ (.slice Ao75 t514.length co75 : Value).ownBlock ∧ some k_ ≠ (v529 : Value).ownBlock ∧ k_ ≠ gb487 ∧ k_ ≠ gb521)) (by (with_reducible repeat (first | apply Kd.N_alloc | apply Kd.N_drewN | apply Kd.N_drew)); exact HO519.out) hg hat)
     have n11_ := A_.mk (blk_grown (g := gb521) (o := .cells #[.slice Ao71 t508.length co71, .slice Ao74 t511.length co74, .slice Ao75 t514.length co75, .slice (some ad522) t517.length co76] 53 (0, 0)) (bY BK521.out) hg (Kd.R_ne HO541.out BK521.out (by decide)))
     have n12_ := A_.mk (Kd.V_afterv (ok := (fun k_ => some k_ ≠ (.slice (some ad524) t475.length co7 : Value).ownBlock ∧ some k_ ≠ (.slice (some ad523) x5_2.length co79 : Value).ownBlock ∧ some k_ ≠ (.slice Ao63 x488000_2.length co63 : Value).ownBlock ∧ some k_ ≠ (.slice Ao64 x488001_2.length co64 : Value).ownBlock ∧ some k_ ≠ (.slice Ao65 x488002_2.length co65 : Value).ownBlock ∧ some k_ ≠ (.slice Ao66 x488003_2.length co66 : Value).ownBlock ∧ some k_ ≠ (.slice Ao71 t508.length co71 : Value).ownBlock ∧ some k_ ≠ (.slice Ao74 t511.length co74 : Value).ownBlock ∧ some k_ ≠ (.slice Ao75 t514.length co75 : Value).ownBlock ∧ some k_ ≠ (.slice (some ad522) t517.length co76 : Value).ownBlock ∧ some k_ ≠ (v529 : Value).ownBlock ∧ k_ ≠ gb487 ∧ k_ ≠ gb521)) (by (with_reducible repeat (first | apply Kd.V_alloc | apply Kd.V_drewN | apply Kd.V_drew)); exact HL522_7.out) hg hat)
     have n13_ := A_.mk (Kd.V_afterv (ok := (fun k_ => some k_ ≠ (.slice (some ad524) t475.length co7 : Value).ownBlock ∧ some k_ ≠ (.slice (some ad523) x5_2.length co79 : Value).ownBlock ∧ some k_ ≠ (.slice Ao64 x488001_2.length co64 : Value).ownBlock ∧ some k_ ≠ (.slice Ao65 x488002_2.length co65 : Value).ownBlock ∧ some k_ ≠ (.slice Ao66 x488003_2.length co66 : Value).ownBlock ∧ some k_ ≠ (.slice Ao71 t508.length co71 : Value).ownBlock ∧ some k_ ≠ (.slice Ao74 t511.length co74 : Value).ownBlock ∧ some k_ ≠ (.slice Ao75 t514.length co75 : Value).ownBlock ∧ some k_ ≠ (.slice (some ad522) t517.length co76 : Value).ownBlock ∧ some k_ ≠ (v529 : Value).ownBlock ∧ k_ ≠ gb487 ∧ k_ ≠ gb521)) (by (with_reducible repeat (first | apply Kd.V_alloc | apply Kd.V_drewN | apply Kd.V_drew)); exact HL524_7.out) hg hat)
     have n14_ := A_.mk (Kd.R_after (ok := (fun k_ => some k_ ≠ (.slice (some ad523) x5_2.length co79 : Value).ownBlock ∧ some k_ ≠ (.slice Ao64 x488001_2.length co64 : Value).ownBlock ∧ some k_ ≠ (.slice Ao65 x488002_2.length co65 : Value).ownBlock ∧ some k_ ≠ (.slice Ao74 t511.length co74 : Value).ownBlock ∧ some k_ ≠ (.slice Ao75 t514.length co75 : Value).ownBlock)) (rY HO530.out) hg hat)
     have n15_ := A_.mk (Kd.V_afterv (ok := (fun k_ => some k_ ≠ (.slice (some ad524) t475.length co7 : Value).ownBlock ∧ some k_ ≠ (.slice Ao63 x488000_2.length co63 : Value).ownBlock ∧ some k_ ≠ (.slice Ao64 x488001_2.length co64 : Value).ownBlock ∧ some k_ ≠ (.slice Ao65 x488002_2.length co65 : Value).ownBlock ∧ some k_ ≠ (.slice Ao66 x488003_2.length co66 : Value).ownBlock ∧ some k_ ≠ (.slice Ao71 t508.length co71 : Value).ownBlock ∧ some k_ ≠ (.slice Ao74 t511.length co74 : Value).ownBlock ∧ some k_ ≠ (.slice Ao75 t514.length co75 : Value).ownBlock ∧ some k_ ≠ (.slice (some ad522) t517.length co76 : Value).ownBlock ∧ some k_ ≠ (v529 : Value).ownBlock ∧ k_ ≠ gb487 ∧ k_ ≠ gb521)) (by (with_reducible repeat (first | apply Kd.V_alloc | apply Kd.V_drewN | apply Kd.V_drew)); exact HO538.out) hg hat)
     have n16_ := A_.mk (Kd.V_afterv (ok := (fun k_ => some k_ ≠ (.slice (some ad524) t475.length co7 : Value).ownBlock ∧ some k_ ≠ (.slice Ao63 x488000_2.length co63 : Value).ownBlock ∧ some k_ ≠ (.slice Ao64 x488001_2.length co64 : Value).ownBlock ∧ some k_ ≠ (.slice Ao65 x488002_2.length co65 : Value).ownBlock ∧ some k_ ≠ (.slice Ao66 x488003_2.length co66 : Value).ownBlock ∧ some k_ ≠ (.slice Ao71 t508.length co71 : Value).ownBlock ∧ some k_ ≠ (.slice Ao74 t511.length co74 : Value).ownBlock ∧ some k_ ≠ (.slice Ao75 t514.length co75 : Value).ownBlock ∧ some k_ ≠ (.slice (some ad522) t517.length co76 : Value).ownBlock ∧ some k_ ≠ (v529 : Value).ownBlock ∧ k_ ≠ gb487 ∧ k_ ≠ gb521)) (by (with_reducible repeat (first | apply Kd.V_alloc | apply Kd.V_drewN | apply Kd.V_drew)); exact HO546.out) hg hat)
     have n17_ := A_.mk (hb)
     have n18_ := A_.mk (ho)
     clear HO_4 HO_5 HO_488000 HO_488001 HO_488002 HO_488003 BK487 HO510 HO513 HO516 HO519 BK521 HL522_7 HL524_7 HO530 HO538 HO546 HB HO541
     have HO_4 := n0_
     have HO_5 := n1_
     have HO_488000 := n2_
     have HO_488001 := n3_
     have HO_488002 := n4_
     have HO_488003 := n5_
     have BK487 := n6_
     have HO510 := n7_
     have HO513 := n8_
     have HO516 := n9_
     have HO519 := n10_
     have BK521 := n11_
     have HL522_7 := n12_
     have HL524_7 := n13_
     have HO530 := n14_
     have HO538 := n15_
     have HO546 := n16_
     have HB := n17_
     have HO549 := n18_
     clear n0_ n1_ n2_ n3_ n4_ n5_ n6_ n7_ n8_ n9_ n10_ n11_ n12_ n13_ n14_ n15_ n16_ n17_ n18_ ho hb hg hat
     refine hK.out _ _ trivial (fun hHeld => ?_)
     clear hK K
     refine norm_ (a' := ?_) ?_ ?_
     rotate_left
     ·show Act.put _ (some 100) _ = _
      simp only [pS]
      rfl
     refine pr_ (i := 10) (N := some 5) #[T, T, T, T, T, T, T, T, T, T, T] rfl HT_.out ?_
     refine done_ (done_of HT_.out (by kernel_rfl)) ?_
     obtain ⟨hcz91_0, hcz91_1, hcz91_2, hcz91_3, hfz91_0, hfz91_1, hfz91_2, hfz91_3⟩ := b4 BK521.out
     obtain ⟨hcz92_0, hcz92_1, hcz92_2, hcz92_3, hfz92_0, hfz92_1, hfz92_2, hfz92_3⟩ := b4 BK487.out
     try go_wp2
     go_roundg k2
     case measure => have := HK1.out; have := HK2.out; omega
     case rel => exact ⟨(y547), (y528), (wrap64 (x8_2 + 1)), (t508), (t511), (t514), (t517), (.slice Ao71 t508.length co71), (.slice Ao74 t511.length co74), (.slice Ao75 t514.length co75), (.slice (some ad522) t517.length co76), (by first | rfl | (simp; done) | (simp [*]; done)), H', ⟨by have := HK1.out; have := HK2.out; omega⟩, ⟨by (with_reducible repeat (first | apply Kd.N_alloc | apply Kd.N_drewN | apply Kd.N_drew)); exact Kd.N_mono (Kd.N_far (p := ⟨gb487, 3, none⟩) (Kd.N_far (p := ⟨gb487, 2, none⟩) (Kd.N_far (p := ⟨gb487, 1, none⟩) (Kd.N_far (p := ⟨gb487, 0, none⟩) (Kd.N_mono HO_4.out (fun k_ hk => (⟨hk, hk.1.2.2.2.2.2.2.2.2.2.1⟩ : _ ∧ k_ ≠ gb487))) (fun _ hk => by simp [hk]) (.slice Ao71 t508.length co71)) (fun _ hk => by simp [hk]) (.slice Ao74 t511.length co74)) (fun _ hk => by simp [hk]) (.slice Ao75 t514.length co75)) (fun _ hk => by simp [hk]) (.slice (some ad522) t517.length co76)) (fun _ hk => by simp [hk])⟩, ⟨by (repeat apply rX); exact Kd.R_mono (Kd.R_far (p := ⟨gb487, 3, none⟩) (Kd.R_far (p := ⟨gb487, 2, none⟩) (Kd.R_far (p := ⟨gb487, 1, none⟩) (Kd.R_far (p := ⟨gb487, 0, none⟩) (Kd.R_types HO549.out BK487.out (by decide)) (fun _ hk => by simp [hk]) (.slice Ao71 t508.length co71)) (fun _ hk => by simp [hk]) (.slice Ao74 t511.length co74)) (fun _ hk => by simp [hk]) (.slice Ao75 t514.length co75)) (fun _ hk => by simp [hk]) (.slice (some ad522) t517.length co76)) (fun _ hk => by simp [hk])⟩, ⟨by (repeat apply rX); exact Kd.R_mono (Kd.R_far (p := ⟨gb487, 3, none⟩) (Kd.R_far (p := ⟨gb487, 2, none⟩) (Kd.R_far (p := ⟨gb487, 1, none⟩) (Kd.R_far (p := ⟨gb487, 0, none⟩) (Kd.R_types HO530.out BK487.out (by decide)) (fun _ hk => by simp [hk]) (.slice Ao71 t508.length co71)) (fun _ hk => by simp [hk]) (.slice Ao74 t511.length co74)) (fun _ hk => by simp [hk]) (.slice Ao75 t514.length co75)) (fun _ hk => by simp [hk]) (.slice (some ad522) t517.length co76)) (fun _ hk => by simp [hk])⟩, ⟨by (with_reducible repeat (first | apply Kd.N_alloc | apply Kd.N_drewN | apply Kd.N_drew)); exact Kd.N_mono (Kd.N_far (p := ⟨gb487, 3, none⟩) (Kd.N_far (p := ⟨gb487, 2, none⟩) (Kd.N_far (p := ⟨gb487, 1, none⟩) (Kd.N_far (p := ⟨gb487, 0, none⟩) (Kd.N_mono HO510.out (fun k_ hk => (⟨hk, hk.1.2.2.2.2.2.2.2.2.2.2.1⟩ : _ ∧ k_ ≠ gb487))) (fun _ hk => by simp [hk]) (.slice Ao71 t508.length co71)) (fun _ hk => by simp [hk]) (.slice Ao74 t511.length co74)) (fun _ hk => by simp [hk]) (.slice Ao75 t514.length co75)) (fun _ hk => by simp [hk]) (.slice (some ad522) t517.length co76)) (fun _ hk => by simp [hk])⟩, ⟨by (repeat apply rX); exact Kd.R_mono (Kd.R_far (p := ⟨gb487, 3, none⟩) (Kd.R_far (p := ⟨gb487, 2, none⟩) (Kd.R_far (p := ⟨gb487, 1, none⟩) (Kd.R_far (p := ⟨gb487, 0, none⟩) (Kd.R_types HO513.out BK487.out (by decide)) (fun _ hk => by simp [hk]) (.slice Ao71 t508.length co71)) (fun _ hk => by simp [hk]) (.slice Ao74 t511.length co74)) (fun _ hk => by simp [hk]) (.slice Ao75 t514.length co75)) (fun _ hk => by simp [hk]) (.slice (some ad522) t517.length co76)) (fun _ hk => by simp [hk])⟩, ⟨by (repeat apply rX); exact Kd.R_mono (Kd.R_far (p := ⟨gb487, 3, none⟩) (Kd.R_far (p := ⟨gb487, 2, none⟩) (Kd.R_far (p := ⟨gb487, 1, none⟩) (Kd.R_far (p := ⟨gb487, 0, none⟩) (Kd.R_types HO516.out BK487.out (by decide)) (fun _ hk => by simp [hk]) (.slice Ao71 t508.length co71)) (fun _ hk => by simp [hk]) (.slice Ao74 t511.length co74)) (fun _ hk => by simp [hk]) (.slice Ao75 t514.length co75)) (fun _ hk => by simp [hk]) (.slice (some ad522) t517.length co76)) (fun _ hk => by simp [hk])⟩, ⟨by (with_reducible repeat (first | apply Kd.N_alloc | apply Kd.N_drewN | apply Kd.N_drew)); exact Kd.N_mono (Kd.N_far (p := ⟨gb487, 3, none⟩) (Kd.N_far (p := ⟨gb487, 2, none⟩) (Kd.N_far (p := ⟨gb487, 1, none⟩) (Kd.N_far (p := ⟨gb487, 0, none⟩) (Kd.N_mono HO519.out (fun k_ hk => (⟨hk, hk.1.2.2.2.2.2.2.2.2.2.2.1⟩ : _ ∧ k_ ≠ gb487))) (fun _ hk => by simp [hk]) (.slice Ao71 t508.length co71)) (fun _ hk => by simp [hk]) (.slice Ao74 t511.length co74)) (fun _ hk => by simp [hk]) (.slice Ao75 t514.length co75)) (fun _ hk => by simp [hk]) (.slice (some ad522) t517.length co76)) (fun _ hk => by simp [hk])⟩, ⟨by (repeat apply bX); refine bp_ (cs := #[.slice Ao71 t508.length co71, .slice Ao74 t511.length co74, .slice Ao75 t514.length co75, .slice Ao66 x488003_2.length co66]) ?_ 3 _ rfl; (repeat apply bX); refine bp_ (cs := #[.slice Ao71 t508.length co71, .slice Ao74 t511.length co74, .slice Ao65 x488002_2.length co65, .slice Ao66 x488003_2.length co66]) ?_ 2 _ rfl; (repeat apply bX); refine bp_ (cs := #[.slice Ao71 t508.length co71, .slice Ao64 x488001_2.length co64, .slice Ao65 x488002_2.length co65, .slice Ao66 x488003_2.length co66]) ?_ 1 _ rfl; (repeat apply bX); refine bp_ (cs := #[.slice Ao63 x488000_2.length co63, .slice Ao64 x488001_2.length co64, .slice Ao65 x488002_2.length co65, .slice Ao66 x488003_2.length co66]) ?_ 0 _ rfl; (repeat apply bX); exact BK487.out⟩, ⟨by repeat (first | (with_reducible first | exact HB.out | apply ba_ | apply bd_ | apply be_ | refine bs_ ?_ GE487.out | refine bs_ ?_ GE521.out) | exact HB.out)⟩⟩
/-- THE ONE PURE STATEMENT of laws_FnQueues: yours. -/
def laws_FnQueues.Pure : Prop := ∀ (l0 : List Int), l0.length ≤ maxLen → l0.length * 1 ≤ 140737488351232 → (∀ x ∈ l0, (Lit.int .u8 x).wf = true) → ∃ k, laws_FnQueues.f k l0 = some true
theorem laws_FnQueues.walk (P : laws_FnQueues.Pure) (a0 : Option Addr) (len0 cap0 : Nat) (z0 : List Int) (w : World) (w0 : (a0 = none ∧ len0 = 0 ∧ cap0 = 0 ∧ z0 = []) ∨ ∃ x, a0 = some x ∧ len0 ≤ cap0 ∧ cap0 ≤ maxLen ∧ z0.length = cap0 ∧ (∀ i, i < z0.length → w.cell? (x.add i) = some (.int .u8 (z0.getD i 0))) ∧ ∀ n ∈ z0, (Lit.int .u8 n).wf = true) (y0 : len0 * 1 ≤ 140737488351232) :
  Calls Try.prog 6 #[.slice a0 len0 cap0] w fun e w' => e = .returned (.bool true) ∧ Below w.heap.size w w' := by
 obtain ⟨l0, rfl, hr0, hm0, hw0, hc0⟩ := ReadsInt.ofRowC w0
 obtain ⟨k, h⟩ := P l0 hm0 y0 hw0
 refine (laws_FnQueues.calls k _ _ l0 true w (Kd.C_of_reads (d := (0 : Int)) (h1 := fun _ => rfl) hr0) hc0 ⟨rfl⟩ h).mono ?_
 rintro e w' ⟨rfl, hd⟩
 exact ⟨rfl, hd⟩

end Go.Proofs.Ytbdehpmfemgooaa.PFnQueues
