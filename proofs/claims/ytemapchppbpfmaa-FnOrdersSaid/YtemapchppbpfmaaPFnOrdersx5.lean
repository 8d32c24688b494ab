-- Written by a program of this session (wip/xp): not trusted, Lean checks it.
import Derived.Test.YtemapchppbpfmaaPFnOrdersx0
import Derived.Test.YtemapchppbpfmaaPFnOrdersx1
import Derived.Test.YtemapchppbpfmaaPFnOrdersx3
import Derived.Test.YtemapchppbpfmaaPFnOrdersx4
namespace Go.Proofs.Ytemapchppbpfmaa.PFnOrders
open Go.RowKit Go.Proofs.YtemapchppbpfmaaW.PrintWords Go.Proofs.YtemapchppbpfmaaW.PrintLast Go.Proofs.YtemapchppbpfmaaW.PrintMore
attribute [local go_sem] max2_int min2_int max_two min_two max_three min_three max_four min_four   -- for this text's walks alone
set_option linter.unusedVariables false
set_option linter.unusedSimpArgs false

/-! ### spec_DrawMayPass: function 15 -/
def spec_DrawMayPass.f (k : Nat) (l0 : List Int) : Option (Int × Int × Int × Int × Int × Int × Int × List Int × Int × Int × Int × Int × Int × Int × Int × List Int) := (spec_l01New.f k l0).bind fun bt320 => ((spec_l16Queue.f k bt320.1 bt320.2.1 bt320.2.2).bind fun bt324 => ((spec_l04Any.f k bt320.1 bt324.2.1 bt324.2.2).bind fun bt329 => ((spec_l04Any.f k bt320.1 bt329.2.2.2.2.2.2.2.2.1 bt329.2.2.2.2.2.2.2.2.2).bind fun bt341 => ((some (([(⟨bt329.1, bt329.2.1, bt329.2.2.1, bt329.2.2.2.1, bt329.2.2.2.2.1, bt329.2.2.2.2.2.1, bt329.2.2.2.2.2.2.1, bt329.2.2.2.2.2.2.2.1⟩ : S29), (⟨bt341.1, bt341.2.1, bt341.2.2.1, bt341.2.2.2.1, bt341.2.2.2.2.1, bt341.2.2.2.2.2.1, bt341.2.2.2.2.2.2.1, bt341.2.2.2.2.2.2.2.1⟩ : S29)] : List (S29)) : List (S29))).bind fun y353 => (if bt324.1.length + y353.length < 1759218604441 then ((some (bt324.1 ++ y353 : List (S29))).bind fun y356 => (if 0 < (y356.length : Int) then (if 1 < (y356.length : Int) then (some ((rd_T29 y356 0).f0, (rd_T29 y356 0).f1, (rd_T29 y356 0).f2, (rd_T29 y356 0).f3, (rd_T29 y356 0).f4, (rd_T29 y356 0).f5, (rd_T29 y356 0).f6, (rd_T29 y356 0).f7, (rd_T29 y356 1).f0, (rd_T29 y356 1).f1, (rd_T29 y356 1).f2, (rd_T29 y356 1).f3, (rd_T29 y356 1).f4, (rd_T29 y356 1).f5, (rd_T29 y356 1).f6, (rd_T29 y356 1).f7)) else (none)) else (none))) else (none))))))
theorem spec_DrawMayPass.mono : ∀ a0 k, LeO (spec_DrawMayPass.f k a0) (spec_DrawMayPass.f (k + 1) a0) := by
 intro a0 k
 unfold spec_DrawMayPass.f
 repeat' first
   | (with_reducible exact spec_l01New.mono _ _)
   | (with_reducible exact spec_l04Any.mono _ _ _ _)
   | (with_reducible exact spec_l16Queue.mono _ _ _ _)
   | (with_reducible exact LeO.refl _)
   | (with_reducible exact LeO.none _)
   | (with_reducible refine LeO.ite ?_ ?_)
   | (with_reducible refine LeO.bind ?_ (fun _ => ?_))
   | exact spec_l01New.mono _ _
   | exact spec_l04Any.mono _ _ _ _
   | exact spec_l16Queue.mono _ _ _ _
   | exact LeO.none _
   | refine LeO.ite ?_ ?_
   | refine LeO.bind ?_ (fun _ => ?_)
def spec_DrawMayPass.T4 : Bool × List (List Nat × List Nat) := (true, [([], []), ([0], [0]), ([1], [1]), ([], []), ([3], [3]), ([4], [4]), ([2, 0, 1, 2], [2]), ([5, 6, 0, 1, 2, 3, 4, 5, 6], [5])])
def spec_DrawMayPass.B4 : List Nat := [0, 1, 3, 0, 8, 24, 7, 127]
theorem spec_DrawMayPass.tab4 : rtab .any (opsOf Try.f15 4) = spec_DrawMayPass.T4 := by kernel_rfl
theorem spec_DrawMayPass.bits4 : waitsOk spec_DrawMayPass.T4.2 spec_DrawMayPass.B4 = true := by kernel_rfl
set_option maxHeartbeats 8000000 in
set_option maxRecDepth 100000 in
theorem spec_DrawMayPass.calls (k : Nat) (A0 : Option Addr) (c0 : Nat) (l0 : List Int) (r1 : Int) (r2 : Int) (r3 : Int) (r4 : Int) (r5 : Int) (r6 : Int) (r7 : Int) (r8 : List Int) (r9 : Int) (r10 : Int) (r11 : Int) (r12 : Int) (r13 : Int) (r14 : Int) (r15 : Int) (r16 : List Int) (w : World) (hr0 : Kd.C (Kd.int .u8) w A0 l0.length l0) (hc0 : l0.length ≤ c0) (h : spec_DrawMayPass.f k l0 = some (r1, r2, r3, r4, r5, r6, r7, r8, r9, r10, r11, r12, r13, r14, r15, r16)) :
  Calls Try.prog 15 #[.slice A0 l0.length c0] w fun e w' => ∃ v7_ v15_ : Value, e = .returned (.tuple #[.agg #[.int .i64 r1, .int .i64 r2, .int .i64 r3, .int .i64 r4, .int .i64 r5, .int .i64 r6, .int .i64 r7, v7_], .agg #[.int .i64 r9, .int .i64 r10, .int .i64 r11, .int .i64 r12, .int .i64 r13, .int .i64 r14, .int .i64 r15, v15_]]) ∧ Kd.V (Kd.int .i64) 3 w' w.heap.size (fun k_ => (w.heap.size ≤ k_)) v7_ r8 ∧ Kd.V (Kd.int .i64) 3 w' w.heap.size (fun k_ => (w.heap.size ≤ k_)) v15_ r16 ∧ Below w.heap.size w w' := by
 have hu29 := Try.underlying29
 have HR0 := Aside0.mk hr0
 have HC0 := Aside0.mk hc0
 clear hr0 hc0
 have HB := Aside0.mk (Below.refl w.heap.size w)
 have H : ((spec_l01New.f k l0).bind fun bt320 => ((spec_l16Queue.f k bt320.1 bt320.2.1 bt320.2.2).bind fun bt324 => ((spec_l04Any.f k bt320.1 bt324.2.1 bt324.2.2).bind fun bt329 => ((spec_l04Any.f k bt320.1 bt329.2.2.2.2.2.2.2.2.1 bt329.2.2.2.2.2.2.2.2.2).bind fun bt341 => ((some (([(⟨bt329.1, bt329.2.1, bt329.2.2.1, bt329.2.2.2.1, bt329.2.2.2.2.1, bt329.2.2.2.2.2.1, bt329.2.2.2.2.2.2.1, bt329.2.2.2.2.2.2.2.1⟩ : S29), (⟨bt341.1, bt341.2.1, bt341.2.2.1, bt341.2.2.2.1, bt341.2.2.2.2.1, bt341.2.2.2.2.2.1, bt341.2.2.2.2.2.2.1, bt341.2.2.2.2.2.2.2.1⟩ : S29)] : List (S29)) : List (S29))).bind fun y353 => (if bt324.1.length + y353.length < 1759218604441 then ((some (bt324.1 ++ y353 : List (S29))).bind fun y356 => (if 0 < (y356.length : Int) then (if 1 < (y356.length : Int) then (some ((rd_T29 y356 0).f0, (rd_T29 y356 0).f1, (rd_T29 y356 0).f2, (rd_T29 y356 0).f3, (rd_T29 y356 0).f4, (rd_T29 y356 0).f5, (rd_T29 y356 0).f6, (rd_T29 y356 0).f7, (rd_T29 y356 1).f0, (rd_T29 y356 1).f1, (rd_T29 y356 1).f2, (rd_T29 y356 1).f3, (rd_T29 y356 1).f4, (rd_T29 y356 1).f5, (rd_T29 y356 1).f6, (rd_T29 y356 1).f7)) else (none)) else (none))) else (none))))))) = some (r1, r2, r3, r4, r5, r6, r7, r8, r9, r10, r11, r12, r13, r14, r15, r16) := h
 clear h
 replace H := Option.bind_eq_some_iff.mp H
 obtain ⟨⟨t320, t321, t322⟩, A20, H⟩ := H
 replace H : ((spec_l16Queue.f k t320 t321 t322).bind fun bt324 => ((spec_l04Any.f k t320 bt324.2.1 bt324.2.2).bind fun bt329 => ((spec_l04Any.f k t320 bt329.2.2.2.2.2.2.2.2.1 bt329.2.2.2.2.2.2.2.2.2).bind fun bt341 => ((some (([(⟨bt329.1, bt329.2.1, bt329.2.2.1, bt329.2.2.2.1, bt329.2.2.2.2.1, bt329.2.2.2.2.2.1, bt329.2.2.2.2.2.2.1, bt329.2.2.2.2.2.2.2.1⟩ : S29), (⟨bt341.1, bt341.2.1, bt341.2.2.1, bt341.2.2.2.1, bt341.2.2.2.2.1, bt341.2.2.2.2.2.1, bt341.2.2.2.2.2.2.1, bt341.2.2.2.2.2.2.2.1⟩ : S29)] : List (S29)) : List (S29))).bind fun y353 => (if bt324.1.length + y353.length < 1759218604441 then ((some (bt324.1 ++ y353 : List (S29))).bind fun y356 => (if 0 < (y356.length : Int) then (if 1 < (y356.length : Int) then (some ((rd_T29 y356 0).f0, (rd_T29 y356 0).f1, (rd_T29 y356 0).f2, (rd_T29 y356 0).f3, (rd_T29 y356 0).f4, (rd_T29 y356 0).f5, (rd_T29 y356 0).f6, (rd_T29 y356 0).f7, (rd_T29 y356 1).f0, (rd_T29 y356 1).f1, (rd_T29 y356 1).f2, (rd_T29 y356 1).f3, (rd_T29 y356 1).f4, (rd_T29 y356 1).f5, (rd_T29 y356 1).f6, (rd_T29 y356 1).f7)) else (none)) else (none))) else (none)))))) = some (r1, r2, r3, r4, r5, r6, r7, r8, r9, r10, r11, r12, r13, r14, r15, r16) := H
 have A2 := Aside0.mk A20
 clear A20
 replace H := Option.bind_eq_some_iff.mp H
 obtain ⟨⟨t324, t327, t328⟩, A30, H⟩ := H
 replace H : ((spec_l04Any.f k t320 t327 t328).bind fun bt329 => ((spec_l04Any.f k t320 bt329.2.2.2.2.2.2.2.2.1 bt329.2.2.2.2.2.2.2.2.2).bind fun bt341 => ((some (([(⟨bt329.1, bt329.2.1, bt329.2.2.1, bt329.2.2.2.1, bt329.2.2.2.2.1, bt329.2.2.2.2.2.1, bt329.2.2.2.2.2.2.1, bt329.2.2.2.2.2.2.2.1⟩ : S29), (⟨bt341.1, bt341.2.1, bt341.2.2.1, bt341.2.2.2.1, bt341.2.2.2.2.1, bt341.2.2.2.2.2.1, bt341.2.2.2.2.2.2.1, bt341.2.2.2.2.2.2.2.1⟩ : S29)] : List (S29)) : List (S29))).bind fun y353 => (if t324.length + y353.length < 1759218604441 then ((some (t324 ++ y353 : List (S29))).bind fun y356 => (if 0 < (y356.length : Int) then (if 1 < (y356.length : Int) then (some ((rd_T29 y356 0).f0, (rd_T29 y356 0).f1, (rd_T29 y356 0).f2, (rd_T29 y356 0).f3, (rd_T29 y356 0).f4, (rd_T29 y356 0).f5, (rd_T29 y356 0).f6, (rd_T29 y356 0).f7, (rd_T29 y356 1).f0, (rd_T29 y356 1).f1, (rd_T29 y356 1).f2, (rd_T29 y356 1).f3, (rd_T29 y356 1).f4, (rd_T29 y356 1).f5, (rd_T29 y356 1).f6, (rd_T29 y356 1).f7)) else (none)) else (none))) else (none))))) = some (r1, r2, r3, r4, r5, r6, r7, r8, r9, r10, r11, r12, r13, r14, r15, r16) := H
 have A3 := Aside0.mk A30
 clear A30
 replace H := Option.bind_eq_some_iff.mp H
 obtain ⟨⟨t329, t330, t331, t332, t333, t334, t335, t336, t339, t340⟩, A40, H⟩ := H
 replace H : ((spec_l04Any.f k t320 t339 t340).bind fun bt341 => ((some (([(⟨t329, t330, t331, t332, t333, t334, t335, t336⟩ : S29), (⟨bt341.1, bt341.2.1, bt341.2.2.1, bt341.2.2.2.1, bt341.2.2.2.2.1, bt341.2.2.2.2.2.1, bt341.2.2.2.2.2.2.1, bt341.2.2.2.2.2.2.2.1⟩ : S29)] : List (S29)) : List (S29))).bind fun y353 => (if t324.length + y353.length < 1759218604441 then ((some (t324 ++ y353 : List (S29))).bind fun y356 => (if 0 < (y356.length : Int) then (if 1 < (y356.length : Int) then (some ((rd_T29 y356 0).f0, (rd_T29 y356 0).f1, (rd_T29 y356 0).f2, (rd_T29 y356 0).f3, (rd_T29 y356 0).f4, (rd_T29 y356 0).f5, (rd_T29 y356 0).f6, (rd_T29 y356 0).f7, (rd_T29 y356 1).f0, (rd_T29 y356 1).f1, (rd_T29 y356 1).f2, (rd_T29 y356 1).f3, (rd_T29 y356 1).f4, (rd_T29 y356 1).f5, (rd_T29 y356 1).f6, (rd_T29 y356 1).f7)) else (none)) else (none))) else (none)))) = some (r1, r2, r3, r4, r5, r6, r7, r8, r9, r10, r11, r12, r13, r14, r15, r16) := H
 have A4 := Aside0.mk A40
 clear A40
 replace H := Option.bind_eq_some_iff.mp H
 obtain ⟨⟨t341, t342, t343, t344, t345, t346, t347, t348, t351, t352⟩, A50, H⟩ := H
 replace H : ((some (([(⟨t329, t330, t331, t332, t333, t334, t335, t336⟩ : S29), (⟨t341, t342, t343, t344, t345, t346, t347, t348⟩ : S29)] : List (S29)) : List (S29))).bind fun y353 => (if t324.length + y353.length < 1759218604441 then ((some (t324 ++ y353 : List (S29))).bind fun y356 => (if 0 < (y356.length : Int) then (if 1 < (y356.length : Int) then (some ((rd_T29 y356 0).f0, (rd_T29 y356 0).f1, (rd_T29 y356 0).f2, (rd_T29 y356 0).f3, (rd_T29 y356 0).f4, (rd_T29 y356 0).f5, (rd_T29 y356 0).f6, (rd_T29 y356 0).f7, (rd_T29 y356 1).f0, (rd_T29 y356 1).f1, (rd_T29 y356 1).f2, (rd_T29 y356 1).f3, (rd_T29 y356 1).f4, (rd_T29 y356 1).f5, (rd_T29 y356 1).f6, (rd_T29 y356 1).f7)) else (none)) else (none))) else (none))) = some (r1, r2, r3, r4, r5, r6, r7, r8, r9, r10, r11, r12, r13, r14, r15, r16) := H
 have A5 := Aside0.mk A50
 clear A50
 obtain ⟨y353, hy353⟩ : ∃ y_ : List (S29), y_ = (([(⟨t329, t330, t331, t332, t333, t334, t335, t336⟩ : S29), (⟨t341, t342, t343, t344, t345, t346, t347, t348⟩ : S29)] : List (S29))) := ⟨_, rfl⟩
 replace H : (if t324.length + y353.length < 1759218604441 then ((some (t324 ++ y353 : List (S29))).bind fun y356 => (if 0 < (y356.length : Int) then (if 1 < (y356.length : Int) then (some ((rd_T29 y356 0).f0, (rd_T29 y356 0).f1, (rd_T29 y356 0).f2, (rd_T29 y356 0).f3, (rd_T29 y356 0).f4, (rd_T29 y356 0).f5, (rd_T29 y356 0).f6, (rd_T29 y356 0).f7, (rd_T29 y356 1).f0, (rd_T29 y356 1).f1, (rd_T29 y356 1).f2, (rd_T29 y356 1).f3, (rd_T29 y356 1).f4, (rd_T29 y356 1).f5, (rd_T29 y356 1).f6, (rd_T29 y356 1).f7)) else (none)) else (none))) else (none)) = some (r1, r2, r3, r4, r5, r6, r7, r8, r9, r10, r11, r12, r13, r14, r15, r16) := by first | (rw [hy353]; with_reducible exact H) | (have H2_ := (Option.bind_some _ _).symm.trans H; rw [hy353]; with_reducible exact H2_) | (have H2_ := (Option.bind_some _ _).symm.trans H; with_reducible exact H2_) | with_reducible exact H | (rw [hy353]; exact H) | exact H
 have Ny353 := Aside0.mk hy353
 clear hy353
 by_cases c6 : t324.length + y353.length < 1759218604441
 ·rw [if_pos c6] at H
  have LMc6 := Aside0.mk c6
  clear c6
  obtain ⟨y356, hy356⟩ : ∃ y_ : List (S29), y_ = (t324 ++ y353) := ⟨_, rfl⟩
  replace H : (if 0 < (y356.length : Int) then (if 1 < (y356.length : Int) then (some ((rd_T29 y356 0).f0, (rd_T29 y356 0).f1, (rd_T29 y356 0).f2, (rd_T29 y356 0).f3, (rd_T29 y356 0).f4, (rd_T29 y356 0).f5, (rd_T29 y356 0).f6, (rd_T29 y356 0).f7, (rd_T29 y356 1).f0, (rd_T29 y356 1).f1, (rd_T29 y356 1).f2, (rd_T29 y356 1).f3, (rd_T29 y356 1).f4, (rd_T29 y356 1).f5, (rd_T29 y356 1).f6, (rd_T29 y356 1).f7)) else (none)) else (none)) = some (r1, r2, r3, r4, r5, r6, r7, r8, r9, r10, r11, r12, r13, r14, r15, r16) := by first | (rw [hy356]; with_reducible exact H) | (have H2_ := (Option.bind_some _ _).symm.trans H; rw [hy356]; with_reducible exact H2_) | (have H2_ := (Option.bind_some _ _).symm.trans H; with_reducible exact H2_) | with_reducible exact H | (rw [hy356]; exact H) | exact H
  have Ny356 := Aside0.mk hy356
  clear hy356
  by_cases c7 : 0 < (y356.length : Int)
  ·rw [if_pos c7] at H
   have c7b0 : decide (0 < (y356.length : Int)) = true := decide_eq_true c7
   have c7b1 : decide (0 < y356.length) = true := decide_eq_true (by omega)
   clear c7
   by_cases c8 : 1 < (y356.length : Int)
   ·rw [if_pos c8] at H
    have c8b0 : decide (1 < (y356.length : Int)) = true := decide_eq_true c8
    have c8b1 : decide (1 < y356.length) = true := decide_eq_true (by omega)
    clear c8
    simp only [Option.some.injEq, Prod.mk.injEq] at H
    obtain ⟨rfl, rfl, rfl, rfl, rfl, rfl, rfl, rfl, rfl, rfl, rfl, rfl, rfl, rfl, rfl, rfl⟩ := H
    go_enter Try.func15, Try.ntmps15
    try go_wp2_with (first | ((with_reducible refine gate_dst (N := 2) rfl ?_); refine box_event ?hg (N := 2) ?hd (cs := #[.int .i64 0, .int .i64 0, .int .i64 0, .int .i64 0, .int .i64 0, .int .i64 0, .int .i64 0, .slice none 0 0]) (t := 29) ?hr ?_; (case hd => rfl); (case hg => rfl); (case hr => first | (go_simp; done) | (go_simp; rfl)); intro gb318 hg w9 hbox hb; have n0_ := Aside0.mk (below_step (by repeat (first | (with_reducible first | exact HB.out | apply below_alloc | apply pw_below_drewN | apply below_drew1) | exact HB.out)) hb); have n1_ := Aside0.mk (hbox); have n2_ := Aside0.mk ((by rw [hg]; exact (below_size (by repeat (first | (with_reducible first | exact HB.out | apply below_alloc | apply pw_below_drewN | apply below_drew1) | exact HB.out))) : w.heap.size ≤ gb318)); have n3_ := Aside0.mk ((by rw [hg]; exact (below_size (by repeat (first | (with_reducible first | exact HB.out | apply below_alloc | apply pw_below_drewN | apply below_drew1) | exact HB.out))) : w.heap.size ≤ gb318)); clear HB; have HB := n0_; have BK318 := n1_; have GW318 := n2_; have GE318 := n3_; clear n0_ n1_ n2_ n3_; clear hb hbox hg) | ((with_reducible refine gate_dst (N := 3) rfl ?_); refine box_event ?hg (N := 3) ?hd (cs := #[.int .i64 0, .int .i64 0, .int .i64 0, .int .i64 0, .int .i64 0, .int .i64 0, .int .i64 0, .slice none 0 0]) (t := 29) ?hr ?_; (case hd => rfl); (case hg => rfl); (case hr => first | (go_simp; done) | (go_simp; rfl)); intro gb319 hg w10 hbox hb; have n0_ := Aside0.mk (blk_below (g := gb318) (o := .cells #[.int .i64 0, .int .i64 0, .int .i64 0, .int .i64 0, .int .i64 0, .int .i64 0, .int .i64 0, .slice none 0 0] 29 (0, 0)) (by (repeat apply bX); exact BK318.out) hb); have n1_ := Aside0.mk (below_step (by repeat (first | (with_reducible first | exact HB.out | apply below_alloc | apply pw_below_drewN | apply below_drew1 | refine below_set ?_ GE318.out) | exact HB.out)) hb); have n2_ := Aside0.mk (hbox); have n3_ := Aside0.mk ((by rw [hg]; exact (below_size (by repeat (first | (with_reducible first | exact HB.out | apply below_alloc | apply pw_below_drewN | apply below_drew1 | refine below_set ?_ GE318.out) | exact HB.out))) : w.heap.size ≤ gb319)); have n4_ := Aside0.mk ((by rw [hg]; exact (below_size (by repeat (first | (with_reducible first | exact HB.out | apply below_alloc | apply pw_below_drewN | apply below_drew1 | refine below_set ?_ GE318.out) | exact HB.out))) : w.heap.size ≤ gb319)); have n5_ := Aside0.mk ((by rw [hg]; exact Nat.ne_of_lt (blk_lt (g := gb318) (o := .cells #[.int .i64 0, .int .i64 0, .int .i64 0, .int .i64 0, .int .i64 0, .int .i64 0, .int .i64 0, .slice none 0 0] 29 (0, 0)) (by (repeat apply bX); exact BK318.out)) : gb318 ≠ gb319)); have n6_ := Aside0.mk ((by rw [hg]; exact Nat.ne_of_gt (blk_lt (g := gb318) (o := .cells #[.int .i64 0, .int .i64 0, .int .i64 0, .int .i64 0, .int .i64 0, .int .i64 0, .int .i64 0, .slice none 0 0] 29 (0, 0)) (by (repeat apply bX); exact BK318.out)) : gb319 ≠ gb318)); clear BK318; clear HB; have BK318 := n0_; have HB := n1_; have BK319 := n2_; have GW319 := n3_; have GE319 := n4_; have NB318_319 := n5_; have NB319_318 := n6_; clear n0_ n1_ n2_ n3_ n4_ n5_ n6_; clear hb hbox hg) | ((with_reducible refine gate_callee (f := 29) rfl ?_); refine goesL_ (some 7) rfl rfl Try.func29 (by kernel_rfl) rfl #[.slice A0 l0.length c0] rfl (by (try simp only [List.map_toArray, List.map_cons, List.map_nil]); first | done | rfl) ?_; (with_reducible refine (spec_l01New.calls k _ _ l0 t320 t321 t322 w _ ?side1 ?side2 ?side3 A2.out).mono ?_); (case side1 => repeat (first | (with_reducible first | exact HB.out | apply below_alloc | apply pw_below_drewN | apply below_drew1 | refine below_set ?_ GE318.out | refine below_set ?_ GE319.out) | exact HB.out)); (case side2 => exact HR0.out); (case side3 => exact HC0.out); rintro e w11 ⟨g323, rfl, hi, hb, hb2⟩; refine ⟨_, rfl, ?_⟩; have n0_ := Aside0.mk (blk_below (g := gb318) (o := .cells #[.int .i64 0, .int .i64 0, .int .i64 0, .int .i64 0, .int .i64 0, .int .i64 0, .int .i64 0, .slice none 0 0] 29 (0, 0)) (by (repeat apply bX); exact BK318.out) hb2); have n1_ := Aside0.mk (blk_below (g := gb319) (o := .cells #[.int .i64 0, .int .i64 0, .int .i64 0, .int .i64 0, .int .i64 0, .int .i64 0, .int .i64 0, .slice none 0 0] 29 (0, 0)) (by (repeat apply bX); exact BK319.out) hb2); have n2_ := Aside0.mk (hb); have n3_ := Aside0.mk (hi); have n4_ := Aside0.mk (IsS72.ne_blk hi (blk_below (g := gb318) (o := .cells #[.int .i64 0, .int .i64 0, .int .i64 0, .int .i64 0, .int .i64 0, .int .i64 0, .int .i64 0, .slice none 0 0] 29 (0, 0)) (by (repeat apply bX); exact BK318.out) hb2) (by decide)); have n5_ := Aside0.mk (Ne.symm (IsS72.ne_blk hi (blk_below (g := gb318) (o := .cells #[.int .i64 0, .int .i64 0, .int .i64 0, .int .i64 0, .int .i64 0, .int .i64 0, .int .i64 0, .slice none 0 0] 29 (0, 0)) (by (repeat apply bX); exact BK318.out) hb2) (by decide))); have n6_ := Aside0.mk (IsS72.ne_blk hi (blk_below (g := gb319) (o := .cells #[.int .i64 0, .int .i64 0, .int .i64 0, .int .i64 0, .int .i64 0, .int .i64 0, .int .i64 0, .slice none 0 0] 29 (0, 0)) (by (repeat apply bX); exact BK319.out) hb2) (by decide)); have n7_ := Aside0.mk (Ne.symm (IsS72.ne_blk hi (blk_below (g := gb319) (o := .cells #[.int .i64 0, .int .i64 0, .int .i64 0, .int .i64 0, .int .i64 0, .int .i64 0, .int .i64 0, .slice none 0 0] 29 (0, 0)) (by (repeat apply bX); exact BK319.out) hb2) (by decide))); clear BK318; clear BK319; clear HB; have BK318 := n0_; have BK319 := n1_; have HB := n2_; have HI323 := n3_; have NB323_318 := n4_; have NB318_323 := n5_; have NB323_319 := n6_; have NB319_323 := n7_; clear n0_ n1_ n2_ n3_ n4_ n5_ n6_ n7_; (try clear hb); (try clear hb2); (try clear hk); (try clear hi)) | ((with_reducible refine gate_callee (f := 36) rfl ?_); refine goesL_ (some 9) rfl rfl Try.func36 (by kernel_rfl) rfl #[.pointer (some ⟨g323, 0, none⟩)] rfl (by (try simp only [List.map_toArray, List.map_cons, List.map_nil]); first | done | rfl) ?_; (with_reducible refine (spec_l16Queue.calls k g323 t320 t321 t322 t324 t327 t328 w _ ?side1 ?side2 A3.out).mono ?_); (case side1 => repeat (first | (with_reducible first | exact HI323.out | apply IsS72.alloc | apply IsS72.drewN | apply IsS72.drew | apply IsS72.set_1 | apply IsS72.set_2 | refine IsS72.far ?_ NB323_318.out _ | refine IsS72.far ?_ NB323_319.out _) | exact HI323.out)); (case side2 => repeat (first | (with_reducible first | exact HB.out | apply below_alloc | apply pw_below_drewN | apply below_drew1 | refine below_set ?_ (IsS72.ge HI323.out) | refine below_set ?_ GE318.out | refine below_set ?_ GE319.out) | exact HB.out)); rintro e w12 ⟨v325, rfl, ho0, hi, hb, hk⟩; refine ⟨_, rfl, ?_⟩; have n0_ := Aside0.mk (KeepBut.blk hk (g' := gb318) (o := .cells #[.int .i64 0, .int .i64 0, .int .i64 0, .int .i64 0, .int .i64 0, .int .i64 0, .int .i64 0, .slice none 0 0] 29 (0, 0)) (by (repeat apply bX); exact BK318.out) NB318_323.out (by simp)); have n1_ := Aside0.mk (KeepBut.blk hk (g' := gb319) (o := .cells #[.int .i64 0, .int .i64 0, .int .i64 0, .int .i64 0, .int .i64 0, .int .i64 0, .int .i64 0, .slice none 0 0] 29 (0, 0)) (by (repeat apply bX); exact BK319.out) NB319_323.out (by simp)); have n2_ := Aside0.mk (Kd.N_lower (Kd.N_mono (ok' := fun k_ => (w.heap.size ≤ k_) ∧ k_ ≠ gb318 ∧ k_ ≠ gb319 ∧ k_ ≠ g323) (Kd.S_N (Kd.S_bound ho0)) (fun k_ hk_ => ⟨(Nat.le_trans (below_size (by repeat (first | (with_reducible first | exact HB.out | apply below_alloc | apply pw_below_drewN | apply below_drew1 | refine below_set ?_ (IsS72.ge HI323.out) | refine below_set ?_ GE318.out | refine below_set ?_ GE319.out) | exact HB.out))) hk_.2.1), (Kd.freshB (g := gb318) (o := .cells #[.int .i64 0, .int .i64 0, .int .i64 0, .int .i64 0, .int .i64 0, .int .i64 0, .int .i64 0, .slice none 0 0] 29 (0, 0)) (by (repeat apply bX); exact BK318.out) k_ hk_.2.1), (Kd.freshB (g := gb319) (o := .cells #[.int .i64 0, .int .i64 0, .int .i64 0, .int .i64 0, .int .i64 0, .int .i64 0, .int .i64 0, .slice none 0 0] 29 (0, 0)) (by (repeat apply bX); exact BK319.out) k_ hk_.2.1), (IsS72.fresh (by repeat (first | (with_reducible first | exact HI323.out | apply IsS72.alloc | apply IsS72.drewN | apply IsS72.drew | apply IsS72.set_1 | apply IsS72.set_2 | refine IsS72.far ?_ NB323_318.out _ | refine IsS72.far ?_ NB323_319.out _) | exact HI323.out)) k_ hk_.2.1)⟩)) (below_size (by repeat (first | (with_reducible first | exact HB.out | apply below_alloc | apply pw_below_drewN | apply below_drew1 | refine below_set ?_ (IsS72.ge HI323.out) | refine below_set ?_ GE318.out | refine below_set ?_ GE319.out) | exact HB.out)))); have n3_ := Aside0.mk (hb); have n4_ := Aside0.mk (hi); clear BK318; clear BK319; clear HB; clear HI323; have BK318 := n0_; have BK319 := n1_; have HO326 := n2_; have HB := n3_; have HI323 := n4_; clear n0_ n1_ n2_ n3_ n4_; (try clear hb); (try clear hb2); (try clear hk); (try clear hi); (try clear ho0)) | ((with_reducible refine gate_callee (f := 37) rfl ?_); refine goesL_ (some 12) rfl rfl Try.func37 (by kernel_rfl) rfl #[.pointer (some ⟨g323, 0, none⟩)] rfl (by (try simp only [List.map_toArray, List.map_cons, List.map_nil]); first | done | rfl) ?_; (with_reducible refine (spec_l04Any.calls k g323 t320 t327 t328 t329 t330 t331 t332 t333 t334 t335 t336 t339 t340 w _ ?side1 ?side2 A4.out).mono ?_); (case side1 => repeat (first | (with_reducible first | exact HI323.out | apply IsS72.alloc | apply IsS72.drewN | apply IsS72.drew | apply IsS72.set_1 | apply IsS72.set_2 | refine IsS72.far ?_ NB323_318.out _ | refine IsS72.far ?_ NB323_319.out _) | exact HI323.out)); (case side2 => repeat (first | (with_reducible first | exact HB.out | apply below_alloc | apply pw_below_drewN | apply below_drew1 | refine below_set ?_ (IsS72.ge HI323.out) | refine below_set ?_ GE318.out | refine below_set ?_ GE319.out) | exact HB.out)); rintro e w13 ⟨v337, rfl, ho0, hi, hb, hk⟩; refine ⟨_, rfl, ?_⟩; have n0_ := Aside0.mk (KeepBut.blk hk (g' := gb318) (o := .cells #[.int .i64 0, .int .i64 0, .int .i64 0, .int .i64 0, .int .i64 0, .int .i64 0, .int .i64 0, .slice none 0 0] 29 (0, 0)) (by (repeat apply bX); exact BK318.out) NB318_323.out (by simp)); have n1_ := Aside0.mk (KeepBut.blk hk (g' := gb319) (o := .cells #[.int .i64 0, .int .i64 0, .int .i64 0, .int .i64 0, .int .i64 0, .int .i64 0, .int .i64 0, .slice none 0 0] 29 (0, 0)) (by (repeat apply bX); exact BK319.out) NB319_323.out (by simp)); have n2_ := Aside0.mk (Kd.N_mono (Kd.N_told (Kd.N_oldK (Kd.N_mono (ok := fun k_ => (((w.heap.size ≤ k_)) ∧ (k_ ≠ gb318 ∧ (k_ ≠ gb319 ∧ k_ ≠ g323)))) (by (with_reducible repeat (first | apply Kd.N_alloc | apply Kd.N_drewN | apply Kd.N_drew)); exact HO326.out) (fun k_ hk_ => (⟨hk_, hk_.2.2.2⟩ : _ ∧ k_ ≠ g323))) hk) (Kd.R_base ho0)) (fun _ h_ => h_.1)); have n3_ := Aside0.mk (Kd.R_lower (Kd.R_newM (M := fun k_ => (w.heap.size ≤ k_)) ho0 (below_size (by repeat (first | (with_reducible first | exact HB.out | apply below_alloc | apply pw_below_drewN | apply below_drew1 | refine below_set ?_ (IsS72.ge HI323.out) | refine below_set ?_ GE318.out | refine below_set ?_ GE319.out) | exact HB.out))) (fun k_ h_ => h_)) (below_size (by repeat (first | (with_reducible first | exact HB.out | apply below_alloc | apply pw_below_drewN | apply below_drew1 | refine below_set ?_ (IsS72.ge HI323.out) | refine below_set ?_ GE318.out | refine below_set ?_ GE319.out) | exact HB.out)))); have n4_ := Aside0.mk (hb); have n5_ := Aside0.mk (hi); clear BK318; clear BK319; clear HO326; clear HB; clear HI323; have BK318 := n0_; have BK319 := n1_; have HO326 := n2_; have HO338 := n3_; have HB := n4_; have HI323 := n5_; clear n0_ n1_ n2_ n3_ n4_ n5_; (try clear hb); (try clear hb2); (try clear hk); (try clear hi); (try clear ho0)) | ((with_reducible refine gate_callee (f := 37) rfl ?_); refine goesL_ (some 14) rfl rfl Try.func37 (by kernel_rfl) rfl #[.pointer (some ⟨g323, 0, none⟩)] rfl (by (try simp only [List.map_toArray, List.map_cons, List.map_nil]); first | done | rfl) ?_; (with_reducible refine (spec_l04Any.calls k g323 t320 t339 t340 t341 t342 t343 t344 t345 t346 t347 t348 t351 t352 w _ ?side1 ?side2 A5.out).mono ?_); (case side1 => repeat (first | (with_reducible first | exact HI323.out | apply IsS72.alloc | apply IsS72.drewN | apply IsS72.drew | apply IsS72.set_1 | apply IsS72.set_2 | refine IsS72.far ?_ NB323_318.out _ | refine IsS72.far ?_ NB323_319.out _) | exact HI323.out)); (case side2 => repeat (first | (with_reducible first | exact HB.out | apply below_alloc | apply pw_below_drewN | apply below_drew1 | refine below_set ?_ (IsS72.ge HI323.out) | refine below_set ?_ GE318.out | refine below_set ?_ GE319.out) | exact HB.out)); rintro e w14 ⟨v349, rfl, ho0, hi, hb, hk⟩; refine ⟨_, rfl, ?_⟩; have n0_ := Aside0.mk (KeepBut.blk hk (g' := gb318) (o := .cells #[.int .i64 0, .int .i64 0, .int .i64 0, .int .i64 0, .int .i64 0, .int .i64 0, .int .i64 0, .slice none 0 0] 29 (0, 0)) (by (repeat apply bX); exact BK318.out) NB318_323.out (by simp)); have n1_ := Aside0.mk (KeepBut.blk hk (g' := gb319) (o := .cells #[.int .i64 0, .int .i64 0, .int .i64 0, .int .i64 0, .int .i64 0, .int .i64 0, .int .i64 0, .slice none 0 0] 29 (0, 0)) (by (repeat apply bX); exact BK319.out) NB319_323.out (by simp)); have n2_ := Aside0.mk (Kd.N_mono (Kd.N_told (Kd.N_oldK (Kd.N_mono (ok := fun k_ => ((((w.heap.size ≤ k_)) ∧ (k_ ≠ gb318 ∧ (k_ ≠ gb319 ∧ k_ ≠ g323))) ∧ some k_ ≠ (v337 : Value).ownBlock)) (by (with_reducible repeat (first | apply Kd.N_alloc | apply Kd.N_drewN | apply Kd.N_drew)); exact HO326.out) (fun k_ hk_ => (⟨hk_, hk_.1.2.2.2⟩ : _ ∧ k_ ≠ g323))) hk) (Kd.R_base ho0)) (fun _ h_ => h_.1)); have n3_ := Aside0.mk (Kd.R_mono (Kd.R_told (Kd.R_oldK (IsS72.apart (show IsS72 w _ g323 t320 t339 t340 from by repeat (first | (with_reducible first | exact HI323.out | apply IsS72.alloc | apply IsS72.drewN | apply IsS72.drew | apply IsS72.set_1 | apply IsS72.set_2 | refine IsS72.far ?_ NB323_318.out _ | refine IsS72.far ?_ NB323_319.out _) | exact HI323.out)) (by (repeat apply rX); exact HO338.out) (by decide)) hk) (Kd.R_base ho0)) (fun _ h_ => h_.1)); have n4_ := Aside0.mk (Kd.R_lower (Kd.R_new' (Kd.R_newM (M := fun k_ => (w.heap.size ≤ k_)) ho0 (below_size (by repeat (first | (with_reducible first | exact HB.out | apply below_alloc | apply pw_below_drewN | apply below_drew1 | refine below_set ?_ (IsS72.ge HI323.out) | refine below_set ?_ GE318.out | refine below_set ?_ GE319.out) | exact HB.out))) (fun k_ h_ => h_)) (Kd.R_lt (by (repeat apply rX); exact HO338.out))) (below_size (by repeat (first | (with_reducible first | exact HB.out | apply below_alloc | apply pw_below_drewN | apply below_drew1 | refine below_set ?_ (IsS72.ge HI323.out) | refine below_set ?_ GE318.out | refine below_set ?_ GE319.out) | exact HB.out)))); have n5_ := Aside0.mk (hb); have n6_ := Aside0.mk (hi); clear BK318; clear BK319; clear HO326; clear HO338; clear HB; clear HI323; have BK318 := n0_; have BK319 := n1_; have HO326 := n2_; have HO338 := n3_; have HO350 := n4_; have HB := n5_; have HI323 := n6_; clear n0_ n1_ n2_ n3_ n4_ n5_ n6_; (try clear hb); (try clear hb2); (try clear hk); (try clear hi); (try clear ho0); obtain ⟨Ao15, co15, eo15⟩ := Kd.R_slice HO338.out; subst eo15; obtain ⟨Ao16, co16, eo16⟩ := Kd.R_slice HO350.out; subst eo16) | ((with_reducible refine gate_dst (N := 15) rfl ?_); refine Kd.N_lit k29 _ 29 ?hg (N' := 15) ?hd (xs := ([(⟨t329, t330, t331, t332, t333, t334, t335, t336⟩ : S29), (⟨t341, t342, t343, t344, t345, t346, t347, t348⟩ : S29)] : List (S29))) (inner := [.int .i64 t329, .int .i64 t330, .int .i64 t331, .int .i64 t332, .int .i64 t333, .int .i64 t334, .int .i64 t335, .slice Ao15 t336.length co15, .int .i64 t341, .int .i64 t342, .int .i64 t343, .int .i64 t344, .int .i64 t345, .int .i64 t346, .int .i64 t347, .slice Ao16 t348.length co16]) (ok := (fun k_ => (w.heap.size ≤ k_) ∧ some k_ ≠ (v325 : Value).ownBlock ∧ k_ ≠ gb318 ∧ k_ ≠ gb319 ∧ k_ ≠ g323)) (okp := (fun k_ => (w.heap.size ≤ k_) ∧ some k_ ≠ (v325 : Value).ownBlock ∧ k_ ≠ gb318 ∧ k_ ≠ gb319 ∧ k_ ≠ g323)) ?hr ?hp (fun _ hk => hk) ((show ∀ k_, w14.heap.size ≤ k_ → (fun k_ => (w.heap.size ≤ k_) ∧ some k_ ≠ (v325 : Value).ownBlock ∧ k_ ≠ gb318 ∧ k_ ≠ gb319 ∧ k_ ≠ g323) k_ from fun k_ hk => ⟨(Nat.le_trans (below_size (by repeat (first | (with_reducible first | exact HB.out | apply below_alloc | apply pw_below_drewN | apply below_drew1 | refine below_set ?_ (IsS72.ge HI323.out) | refine below_set ?_ GE318.out | refine below_set ?_ GE319.out) | exact HB.out))) hk), Kd.fresh' (Kd.N_lt (by (with_reducible repeat (first | apply Kd.N_alloc | apply Kd.N_drewN | apply Kd.N_drew)); exact HO326.out)) k_ hk, Kd.freshB (g := gb318) (o := .cells #[.int .i64 0, .int .i64 0, .int .i64 0, .int .i64 0, .int .i64 0, .int .i64 0, .int .i64 0, .slice none 0 0] 29 (0, 0)) (by (repeat apply bX); exact BK318.out) k_ hk, Kd.freshB (g := gb319) (o := .cells #[.int .i64 0, .int .i64 0, .int .i64 0, .int .i64 0, .int .i64 0, .int .i64 0, .int .i64 0, .slice none 0 0] 29 (0, 0)) (by (repeat apply bX); exact BK319.out) k_ hk, IsS72.fresh (by repeat (first | (with_reducible first | exact HI323.out | apply IsS72.alloc | apply IsS72.drewN | apply IsS72.drew | apply IsS72.set_1 | apply IsS72.set_2 | refine IsS72.far ?_ NB323_318.out _ | refine IsS72.far ?_ NB323_319.out _) | exact HI323.out)) k_ hk⟩) _ (Nat.le_refl _)) (Below.refl _ _) (Nat.le_refl _) (by simp) ?_; (case hd => rfl); (case hg => rfl); (case hr => first | (go_simp; done) | (go_simp; rfl)); (case hp => exact (Reps.c8 (show Kd.FK k29 _ _ (⟨t329, t330, t331, t332, t333, t334, t335, t336⟩ : S29) [.int .i64 t329, .int .i64 t330, .int .i64 t331, .int .i64 t332, .int .i64 t333, .int .i64 t334, .int .i64 t335, .slice Ao15 t336.length co15] from (k29_mkF _ _ (⟨t329, t330, t331, t332, t333, t334, t335, t336⟩ : S29) (Kd.R_reads' (Kd.R_mono (ok' := (fun k_ => (w.heap.size ≤ k_) ∧ some k_ ≠ (v325 : Value).ownBlock ∧ k_ ≠ gb318 ∧ k_ ≠ gb319 ∧ k_ ≠ g323)) (IsS72.apart HI323.out (Kd.R_types (Kd.R_types (Kd.R_apart' (HO338.out) (Kd.N_typed HO326.out) (by decide)) BK318.out (by decide)) BK319.out (by decide)) (by decide)) (fun k_ hk => ⟨hk.1.1.1.1.1.1, ⟨hk.1.1.1.2, ⟨hk.1.1.2, ⟨hk.1.2, hk.2⟩⟩⟩⟩))).2.1 (Kd.R_F (Kd.R_mono (ok' := (fun k_ => (w.heap.size ≤ k_) ∧ some k_ ≠ (v325 : Value).ownBlock ∧ k_ ≠ gb318 ∧ k_ ≠ gb319 ∧ k_ ≠ g323)) (IsS72.apart HI323.out (Kd.R_types (Kd.R_types (Kd.R_apart' (HO338.out) (Kd.N_typed HO326.out) (by decide)) BK318.out (by decide)) BK319.out (by decide)) (by decide)) (fun k_ hk => ⟨hk.1.1.1.1.1.1, ⟨hk.1.1.1.2, ⟨hk.1.1.2, ⟨hk.1.2, hk.2⟩⟩⟩⟩))))) (Reps.c8 (show Kd.FK k29 _ _ (⟨t341, t342, t343, t344, t345, t346, t347, t348⟩ : S29) [.int .i64 t341, .int .i64 t342, .int .i64 t343, .int .i64 t344, .int .i64 t345, .int .i64 t346, .int .i64 t347, .slice Ao16 t348.length co16] from (k29_mkF _ _ (⟨t341, t342, t343, t344, t345, t346, t347, t348⟩ : S29) (Kd.R_reads' (Kd.R_mono (ok' := (fun k_ => (w.heap.size ≤ k_) ∧ some k_ ≠ (v325 : Value).ownBlock ∧ k_ ≠ gb318 ∧ k_ ≠ gb319 ∧ k_ ≠ g323)) (IsS72.apart HI323.out (Kd.R_types (Kd.R_types (Kd.R_apart' (HO350.out) (Kd.N_typed HO326.out) (by decide)) BK318.out (by decide)) BK319.out (by decide)) (by decide)) (fun k_ hk => ⟨hk.1.1.1.1.1.1, ⟨hk.1.1.1.2, ⟨hk.1.1.2, ⟨hk.1.2, hk.2⟩⟩⟩⟩))).2.1 (Kd.R_F (Kd.R_mono (ok' := (fun k_ => (w.heap.size ≤ k_) ∧ some k_ ≠ (v325 : Value).ownBlock ∧ k_ ≠ gb318 ∧ k_ ≠ gb319 ∧ k_ ≠ g323)) (IsS72.apart HI323.out (Kd.R_types (Kd.R_types (Kd.R_apart' (HO350.out) (Kd.N_typed HO326.out) (by decide)) BK318.out (by decide)) BK319.out (by decide)) (by decide)) (fun k_ hk => ⟨hk.1.1.1.1.1.1, ⟨hk.1.1.1.2, ⟨hk.1.1.2, ⟨hk.1.2, hk.2⟩⟩⟩⟩))))) (Reps.none _ _)))); intro v354 w17 ho18 hb hg_ hnew_; clear hg_ hnew_; (first | rw [← Ny353.out] at ho18 | (simp only [Int.reduceToNat] at ho18; rw [← Ny353.out] at ho18)); have n0_ := Aside0.mk (Kd.N_elder' (by (with_reducible repeat (first | apply Kd.N_alloc | apply Kd.N_drewN | apply Kd.N_drew)); exact HO326.out) (Kd.N_base ho18) hb); have n1_ := Aside0.mk (Kd.N_lower ho18 (below_size (by repeat (first | (with_reducible first | exact HB.out | apply below_alloc | apply pw_below_drewN | apply below_drew1 | refine below_set ?_ (IsS72.ge HI323.out) | refine below_set ?_ GE318.out | refine below_set ?_ GE319.out) | exact HB.out)))); have n2_ := Aside0.mk (blk_below (g := gb318) (o := .cells #[.int .i64 0, .int .i64 0, .int .i64 0, .int .i64 0, .int .i64 0, .int .i64 0, .int .i64 0, .slice none 0 0] 29 (0, 0)) (by (repeat apply bX); exact BK318.out) hb); have n3_ := Aside0.mk (blk_below (g := gb319) (o := .cells #[.int .i64 0, .int .i64 0, .int .i64 0, .int .i64 0, .int .i64 0, .int .i64 0, .int .i64 0, .slice none 0 0] 29 (0, 0)) (by (repeat apply bX); exact BK319.out) hb); have n4_ := Aside0.mk (IsS72.below (by repeat (first | (with_reducible first | exact HI323.out | apply IsS72.alloc | apply IsS72.drewN | apply IsS72.drew | apply IsS72.set_1 | apply IsS72.set_2 | refine IsS72.far ?_ NB323_318.out _ | refine IsS72.far ?_ NB323_319.out _) | exact HI323.out)) hb); have n5_ := Aside0.mk (below_step (by repeat (first | (with_reducible first | exact HB.out | apply below_alloc | apply pw_below_drewN | apply below_drew1 | refine below_set ?_ (IsS72.ge HI323.out) | refine below_set ?_ GE318.out | refine below_set ?_ GE319.out) | exact HB.out)) hb); clear HO326; clear BK318; clear BK319; clear HI323; clear HB; clear HO338; clear HO350; have HO326 := n0_; have HO355 := n1_; have BK318 := n2_; have BK319 := n3_; have HI323 := n4_; have HB := n5_; clear n0_ n1_ n2_ n3_ n4_ n5_; clear hb ho18; obtain ⟨Ao20, co20, eo20⟩ := Kd.N_slice HO355.out; subst eo20) | ((with_reducible refine gate_builtin (b := .append) (xs := #[.tmp 10, .tmp 15]) rfl ?_); at_builtin; refine Kd.N_append_rows k29 (w0 := w) w.heap.size rfl (.tmp 10) (.tmp 15) 38 29 (.agg #[(.int .i64 0), (.int .i64 0), (.int .i64 0), (.int .i64 0), (.int .i64 0), (.int .i64 0), (.int .i64 0), (.slice none 0 0)]) 80 rfl Try.underlying38 info29 rfl (by decide) (by omega) v325 t324 y353 _ _ _ (fun k_ => (w.heap.size ≤ k_) ∧ k_ ≠ gb318 ∧ k_ ≠ gb319 ∧ k_ ≠ g323) (fun k_ => ((fun k_ => (w.heap.size ≤ k_) ∧ k_ ≠ gb318 ∧ k_ ≠ gb319 ∧ k_ ≠ g323)) k_ ∧ some k_ ≠ (v325 : Value).ownBlock) rfl rfl ?aO ?aR (fun _ hk => hk) ?aF ?aB ?aS ?aL ?_; (case aR => exact (by skip; exact Kd.N_F (Kd.N_mono (ok' := (fun k_ => ((fun k_ => (w.heap.size ≤ k_) ∧ k_ ≠ gb318 ∧ k_ ≠ gb319 ∧ k_ ≠ g323)) k_ ∧ some k_ ≠ (v325 : Value).ownBlock)) (HO355.out) (fun k_ hk => ⟨⟨hk.1, ⟨hk.2.2.1, ⟨hk.2.2.2.1, hk.2.2.2.2⟩⟩⟩, hk.2.1⟩)))); (case aB => exact (by repeat (first | (with_reducible first | exact HB.out | apply below_alloc | apply pw_below_drewN | apply below_drew1 | refine below_set ?_ (IsS72.ge HI323.out) | refine below_set ?_ GE318.out | refine below_set ?_ GE319.out) | exact HB.out))); (case aF => exact (fun k_ hk => ⟨(Nat.le_trans (below_size (by repeat (first | (with_reducible first | exact HB.out | apply below_alloc | apply pw_below_drewN | apply below_drew1 | refine below_set ?_ (IsS72.ge HI323.out) | refine below_set ?_ GE318.out | refine below_set ?_ GE319.out) | exact HB.out))) hk), Kd.freshB (g := gb318) (o := .cells #[.int .i64 0, .int .i64 0, .int .i64 0, .int .i64 0, .int .i64 0, .int .i64 0, .int .i64 0, .slice none 0 0] 29 (0, 0)) (by (repeat apply bX); exact BK318.out) k_ hk, Kd.freshB (g := gb319) (o := .cells #[.int .i64 0, .int .i64 0, .int .i64 0, .int .i64 0, .int .i64 0, .int .i64 0, .int .i64 0, .slice none 0 0] 29 (0, 0)) (by (repeat apply bX); exact BK319.out) k_ hk, IsS72.fresh (by repeat (first | (with_reducible first | exact HI323.out | apply IsS72.alloc | apply IsS72.drewN | apply IsS72.drew | apply IsS72.set_1 | apply IsS72.set_2 | refine IsS72.far ?_ NB323_318.out _ | refine IsS72.far ?_ NB323_319.out _) | exact HI323.out)) k_ hk⟩)); (case aO => exact (by (with_reducible repeat (first | apply Kd.N_alloc | apply Kd.N_drewN | apply Kd.N_drew)); exact Kd.N_mono HO326.out (fun _ hk => ⟨hk.1.1.1.1, ⟨hk.1.1.1.2.1, ⟨hk.1.1.1.2.2.1, hk.1.1.1.2.2.2⟩⟩⟩))); (case aS => exact (below_size (by repeat (first | (with_reducible first | exact HB.out | apply below_alloc | apply pw_below_drewN | apply below_drew1 | refine below_set ?_ (IsS72.ge HI323.out) | refine below_set ?_ GE318.out | refine below_set ?_ GE319.out) | exact HB.out)))); (case aL => have := LMc6.out; omega); intro v357 w19 ho hb hg hat; rw [← Ny356.out] at ho; have n0_ := Aside0.mk (blk_grown (g := gb318) (o := .cells #[.int .i64 0, .int .i64 0, .int .i64 0, .int .i64 0, .int .i64 0, .int .i64 0, .int .i64 0, .slice none 0 0] 29 (0, 0)) (by (repeat apply bX); exact BK318.out) hg (Kd.N_away HO326.out (fun _ hk => hk.1.1.1.2.1))); have n1_ := Aside0.mk (blk_grown (g := gb319) (o := .cells #[.int .i64 0, .int .i64 0, .int .i64 0, .int .i64 0, .int .i64 0, .int .i64 0, .int .i64 0, .slice none 0 0] 29 (0, 0)) (by (repeat apply bX); exact BK319.out) hg (Kd.N_away HO326.out (fun _ hk => hk.1.1.1.2.2.1))); have n2_ := Aside0.mk (IsS72.grown (by repeat (first | (with_reducible first | exact HI323.out | apply IsS72.alloc | apply IsS72.drewN | apply IsS72.drew | apply IsS72.set_1 | apply IsS72.set_2 | refine IsS72.far ?_ NB323_318.out _ | refine IsS72.far ?_ NB323_319.out _) | exact HI323.out)) hg (IsS72.own_neN HI323.out HO326.out (by decide))); have n3_ := Aside0.mk (Kd.N_afterv (ok := (fun k_ => (w.heap.size ≤ k_) ∧ k_ ≠ gb318 ∧ k_ ≠ gb319 ∧ k_ ≠ g323)) (by (with_reducible repeat (first | apply Kd.N_alloc | apply Kd.N_drewN | apply Kd.N_drew)); exact Kd.N_mono HO355.out (fun _ hk => ⟨⟨hk.1, ⟨hk.2.2.1, ⟨hk.2.2.2.1, hk.2.2.2.2⟩⟩⟩, hk.2.1⟩)) hg hat); have n4_ := Aside0.mk (hb); have n5_ := Aside0.mk (ho); clear BK318; clear BK319; clear HI323; clear HO355; clear HB; clear HO326; have BK318 := n0_; have BK319 := n1_; have HI323 := n2_; have HO355 := n3_; have HB := n4_; have HO358 := n5_; clear n0_ n1_ n2_ n3_ n4_ n5_; clear ho hb hg hat))
    have n0_ := Aside0.mk (Kd.N_drew HO355.out)
    have n1_ := Aside0.mk (Kd.N_drew HO358.out)
    have n2_ := Aside0.mk (blk_drew BK318.out)
    have n3_ := Aside0.mk (blk_drew BK319.out)
    have n4_ := Aside0.mk (IsS72.drew HI323.out)
    have n5_ := Aside0.mk (below_drew1 HB.out)
    clear HO355
    clear HO358
    clear BK318
    clear BK319
    clear HI323
    clear HB
    have HO355 := n0_
    have HO358 := n1_
    have BK318 := n2_
    have BK319 := n3_
    have HI323 := n4_
    have HB := n5_
    clear n0_ n1_ n2_ n3_ n4_ n5_
    obtain ⟨Ao22, co22, eo22⟩ := Kd.N_slice HO358.out
    (first | subst eo22 | (injection eo22 with f1_ f2_ f3_; have f4_ := f1_.symm; have f5_ := f3_.symm; clear f1_ f2_ f3_; subst f4_; subst f5_))
    have p359 : 0 ≤ (0 : Int) := (by omega)
    have q359 : 0 < (y356.length : Int) := of_decide_eq_true (by first | (with_reducible assumption) | assumption)
    obtain ⟨ad359, A359_7, c359_7, e359, hx359_0, hx359_1, hx359_2, hx359_3, hx359_4, hx359_5, hx359_6, hx359_7, hl359_7, hi359_7⟩ := at_T29 (Kd.N_reads' HO358.out).2.2 0 p359 q359
    cases e359
    obtain ⟨ce359, hce359, hMe359, hcc359⟩ := Kd.N_get HO358.out z29 0 p359 (by first | exact q359 | exact of_decide_eq_true (by first | (with_reducible assumption) | assumption) | (have e_ := (Kd.N_reads' HO358.out).1; omega))
    obtain ⟨ua359_7, uc359_7, rfl, ul359_7, ge359_7⟩ := k29_openF hMe359
    have hv359_7 := hcc359 7 _ rfl
    rw [add_field _ _ 7 (by omega)] at hv359_7
    replace hv359_7 := Option.some.inj (hv359_7.symm.trans hx359_7)
    injection hv359_7 with hva_ hvn_ hvc_
    rw [hva_] at ge359_7
    rw [hvc_] at ul359_7
    have HL359_7 := Aside0.mk (show Kd.V (Kd.int .i64) 3 _ w.heap.size _ _ ((rd_T29 y356 0).f7) from Kd.V_mk ul359_7 ge359_7)
    clear hva_ hvn_ hvc_ ge359_7 ul359_7
    clear hcc359 hce359
    have qi359 : (0 < y356.length) = True := eq_true (by omega)
    (try rw [show ((0 : Int)).toNat = 0 from rfl] at hx359_0)
    (try rw [show 0 * 8 = 0 from rfl] at hx359_0)
    (try rw [Addr.add_zero'] at hx359_0)
    (try rw [show ((0 : Int)).toNat = 0 from rfl] at hx359_1)
    (try rw [show 0 * 8 = 0 from rfl] at hx359_1)
    (try rw [Addr.add_zero'] at hx359_1)
    (try rw [show ((0 : Int)).toNat = 0 from rfl] at hx359_2)
    (try rw [show 0 * 8 = 0 from rfl] at hx359_2)
    (try rw [Addr.add_zero'] at hx359_2)
    (try rw [show ((0 : Int)).toNat = 0 from rfl] at hx359_3)
    (try rw [show 0 * 8 = 0 from rfl] at hx359_3)
    (try rw [Addr.add_zero'] at hx359_3)
    (try rw [show ((0 : Int)).toNat = 0 from rfl] at hx359_4)
    (try rw [show 0 * 8 = 0 from rfl] at hx359_4)
    (try rw [Addr.add_zero'] at hx359_4)
    (try rw [show ((0 : Int)).toNat = 0 from rfl] at hx359_5)
    (try rw [show 0 * 8 = 0 from rfl] at hx359_5)
    (try rw [Addr.add_zero'] at hx359_5)
    (try rw [show ((0 : Int)).toNat = 0 from rfl] at hx359_6)
    (try rw [show 0 * 8 = 0 from rfl] at hx359_6)
    (try rw [Addr.add_zero'] at hx359_6)
    (try rw [show ((0 : Int)).toNat = 0 from rfl] at hx359_7)
    (try rw [show 0 * 8 = 0 from rfl] at hx359_7)
    (try rw [Addr.add_zero'] at hx359_7)
    have HR359_7 := Aside0.mk hi359_7
    have HC359_7 := Aside0.mk hl359_7
    clear hi359_7 hl359_7
    replace p359 := eq_true p359
    replace q359 := eq_true q359
    have p360 : 0 ≤ (1 : Int) := (by omega)
    have q360 : 1 < (y356.length : Int) := of_decide_eq_true (by first | (with_reducible assumption) | assumption)
    obtain ⟨ad360, A360_7, c360_7, e360, hx360_0, hx360_1, hx360_2, hx360_3, hx360_4, hx360_5, hx360_6, hx360_7, hl360_7, hi360_7⟩ := at_T29 (Kd.N_reads' HO358.out).2.2 1 p360 q360
    obtain rfl : ad359 = ad360 := (by injection e360)
    obtain ⟨ce360, hce360, hMe360, hcc360⟩ := Kd.N_get HO358.out z29 1 p360 (by first | exact q360 | exact of_decide_eq_true (by first | (with_reducible assumption) | assumption) | (have e_ := (Kd.N_reads' HO358.out).1; omega))
    obtain ⟨ua360_7, uc360_7, rfl, ul360_7, ge360_7⟩ := k29_openF hMe360
    have hv360_7 := hcc360 7 _ rfl
    rw [add_field _ _ 7 (by omega)] at hv360_7
    replace hv360_7 := Option.some.inj (hv360_7.symm.trans hx360_7)
    injection hv360_7 with hva_ hvn_ hvc_
    rw [hva_] at ge360_7
    rw [hvc_] at ul360_7
    have HL360_7 := Aside0.mk (show Kd.V (Kd.int .i64) 3 _ w.heap.size _ _ ((rd_T29 y356 1).f7) from Kd.V_mk ul360_7 ge360_7)
    clear hva_ hvn_ hvc_ ge360_7 ul360_7
    clear hcc360 hce360
    (try simp only [show (1 : Int).toNat = 1 from rfl, Nat.reduceMul, Nat.reduceEqDiff, Go.Addr.add, ↓reduceIte] at hx360_0)
    (try simp only [show (1 : Int).toNat = 1 from rfl, Nat.reduceMul, Nat.reduceEqDiff, Go.Addr.add, ↓reduceIte] at hx360_1)
    (try simp only [show (1 : Int).toNat = 1 from rfl, Nat.reduceMul, Nat.reduceEqDiff, Go.Addr.add, ↓reduceIte] at hx360_2)
    (try simp only [show (1 : Int).toNat = 1 from rfl, Nat.reduceMul, Nat.reduceEqDiff, Go.Addr.add, ↓reduceIte] at hx360_3)
    (try simp only [show (1 : Int).toNat = 1 from rfl, Nat.reduceMul, Nat.reduceEqDiff, Go.Addr.add, ↓reduceIte] at hx360_4)
    (try simp only [show (1 : Int).toNat = 1 from rfl, Nat.reduceMul, Nat.reduceEqDiff, Go.Addr.add, ↓reduceIte] at hx360_5)
    (try simp only [show (1 : Int).toNat = 1 from rfl, Nat.reduceMul, Nat.reduceEqDiff, Go.Addr.add, ↓reduceIte] at hx360_6)
    (try simp only [show (1 : Int).toNat = 1 from rfl, Nat.reduceMul, Nat.reduceEqDiff, Go.Addr.add, ↓reduceIte] at hx360_7)
    have qi360 : (1 < y356.length) = True := eq_true (by omega)
    (try rw [show ((1 : Int)).toNat = 1 from rfl] at hx360_0)
    (try rw [show 1 * 8 = 8 from rfl] at hx360_0)
    (try rw [show ((1 : Int)).toNat = 1 from rfl] at hx360_1)
    (try rw [show 1 * 8 = 8 from rfl] at hx360_1)
    (try rw [show ((1 : Int)).toNat = 1 from rfl] at hx360_2)
    (try rw [show 1 * 8 = 8 from rfl] at hx360_2)
    (try rw [show ((1 : Int)).toNat = 1 from rfl] at hx360_3)
    (try rw [show 1 * 8 = 8 from rfl] at hx360_3)
    (try rw [show ((1 : Int)).toNat = 1 from rfl] at hx360_4)
    (try rw [show 1 * 8 = 8 from rfl] at hx360_4)
    (try rw [show ((1 : Int)).toNat = 1 from rfl] at hx360_5)
    (try rw [show 1 * 8 = 8 from rfl] at hx360_5)
    (try rw [show ((1 : Int)).toNat = 1 from rfl] at hx360_6)
    (try rw [show 1 * 8 = 8 from rfl] at hx360_6)
    (try rw [show ((1 : Int)).toNat = 1 from rfl] at hx360_7)
    (try rw [show 1 * 8 = 8 from rfl] at hx360_7)
    have HR360_7 := Aside0.mk hi360_7
    have HC360_7 := Aside0.mk hl360_7
    clear hi360_7 hl360_7
    replace p360 := eq_true p360
    replace q360 := eq_true q360
    refine start_ (n := 8) (S := fun w' => w'.cell? ad359 = some (.int .i64 ((rd_T29 y356 0).f0)) ∧ w'.cell? ⟨ad359.block, ad359.off + 1, none⟩ = some (.int .i64 ((rd_T29 y356 0).f1)) ∧ w'.cell? ⟨ad359.block, ad359.off + 2, none⟩ = some (.int .i64 ((rd_T29 y356 0).f2)) ∧ w'.cell? ⟨ad359.block, ad359.off + 3, none⟩ = some (.int .i64 ((rd_T29 y356 0).f3)) ∧ w'.cell? ⟨ad359.block, ad359.off + 4, none⟩ = some (.int .i64 ((rd_T29 y356 0).f4)) ∧ w'.cell? ⟨ad359.block, ad359.off + 5, none⟩ = some (.int .i64 ((rd_T29 y356 0).f5)) ∧ w'.cell? ⟨ad359.block, ad359.off + 6, none⟩ = some (.int .i64 ((rd_T29 y356 0).f6)) ∧ w'.cell? ⟨ad359.block, ad359.off + 7, none⟩ = some (.slice A359_7 ((rd_T29 y356 0).f7).length c359_7) ∧ w'.cell? ⟨ad359.block, ad359.off + 8, none⟩ = some (.int .i64 ((rd_T29 y356 1).f0)) ∧ w'.cell? ⟨ad359.block, ad359.off + 8 + 1, none⟩ = some (.int .i64 ((rd_T29 y356 1).f1)) ∧ w'.cell? ⟨ad359.block, ad359.off + 8 + 2, none⟩ = some (.int .i64 ((rd_T29 y356 1).f2)) ∧ w'.cell? ⟨ad359.block, ad359.off + 8 + 3, none⟩ = some (.int .i64 ((rd_T29 y356 1).f3)) ∧ w'.cell? ⟨ad359.block, ad359.off + 8 + 4, none⟩ = some (.int .i64 ((rd_T29 y356 1).f4)) ∧ w'.cell? ⟨ad359.block, ad359.off + 8 + 5, none⟩ = some (.int .i64 ((rd_T29 y356 1).f5)) ∧ w'.cell? ⟨ad359.block, ad359.off + 8 + 6, none⟩ = some (.int .i64 ((rd_T29 y356 1).f6)) ∧ w'.cell? ⟨ad359.block, ad359.off + 8 + 7, none⟩ = some (.slice A360_7 ((rd_T29 y356 1).f7).length c360_7)) (ds := []) #[false, false, false, false, false, false, false, false] (by kernel_rfl) rfl rfl ⟨hx359_0, hx359_1, hx359_2, hx359_3, hx359_4, hx359_5, hx359_6, hx359_7, hx360_0, hx360_1, hx360_2, hx360_3, hx360_4, hx360_5, hx360_6, hx360_7⟩ (fun hHeld => ?_); refine with_tabW spec_DrawMayPass.tab4 spec_DrawMayPass.bits4 (fun HT_ HW_ => ?_)
    generalize w19.drew = w21 at HO355 HO358 BK318 BK319 HI323 HB HL359_7 HL360_7 HR359_7 HR360_7 hx359_0 hx359_1 hx359_2 hx359_3 hx359_4 hx359_5 hx359_6 hx359_7 hx360_0 hx360_1 hx360_2 hx360_3 hx360_4 hx360_5 hx360_6 hx360_7 hHeld ⊢
    refine pure_ (i := 0) (N := some 17) (v := ?_) (a' := ?_) #[true, false, false, false, false, false, false, false] rfl rfl (any_of HT_.out (by kernel_rfl)) (fun _ _ _ h => h) (Or.inl ⟨by rfl, ?_⟩) ?_ ?_
    rotate_left
    ·intro w'
     go_simp
     with_reducible rfl
    rotate_left
    ·simp only [Act.put, List.setIfInBounds_toArray, List.set_cons_zero, List.set_cons_succ, i64_w, i32_w]
     rfl
    refine pure_ (i := 1) (N := some 18) (v := ?_) (a' := ?_) #[true, true, false, false, false, false, false, false] rfl rfl (any_of HT_.out (by kernel_rfl)) (fun _ _ _ h => h) (Or.inl ⟨by rfl, ?_⟩) ?_ ?_
    rotate_left
    ·intro w'
     go_simp
     with_reducible rfl
    rotate_left
    ·simp only [Act.put, List.setIfInBounds_toArray, List.set_cons_zero, List.set_cons_succ, i64_w, i32_w]
     rfl
    refine pure_ (i := 3) (N := some 20) (v := ?_) (a' := ?_) #[true, true, false, true, false, false, false, false] rfl rfl (any_of HT_.out (by kernel_rfl)) (fun _ _ _ h => h) (Or.inl ⟨by rfl, ?_⟩) ?_ ?_
    rotate_left
    ·intro w'
     go_simp
     with_reducible rfl
    rotate_left
    ·simp only [Act.put, List.setIfInBounds_toArray, List.set_cons_zero, List.set_cons_succ, i64_w, i32_w]
     rfl
    refine pure_ (i := 4) (N := some 21) (v := ?_) (a' := ?_) #[true, true, false, true, true, false, false, false] rfl rfl (any_of HT_.out (by kernel_rfl)) (fun _ _ _ h => h) (Or.inl ⟨by rfl, ?_⟩) ?_ ?_
    rotate_left
    ·intro w'
     go_simp
     with_reducible rfl
    rotate_left
    ·simp only [Act.put, List.setIfInBounds_toArray, List.set_cons_zero, List.set_cons_succ, i64_w, i32_w]
     rfl
    refine take_ (i := 2) (N := some 19) (v := ?_) (a' := ?_) #[true, true, true, true, true, false, false, false] rfl rfl (take_ofW HT_.out HW_.out (by kernel_rfl)) (fun _ _ _ h => h) (Or.inl ⟨by rfl, ?_⟩) hHeld ?_ ?_
    rotate_left
    ·rintro w' ⟨s0, s1, s2, s3, s4, s5, s6, s7, s8, s9, s10, s11, s12, s13, s14, s15⟩
     go_simp
     with_reducible rfl
    rotate_left
    ·simp only [Act.put, List.setIfInBounds_toArray, List.set_cons_zero, List.set_cons_succ, i64_w, i32_w]
     rfl
    refine take_ (i := 5) (N := some 22) (v := ?_) (a' := ?_) #[true, true, true, true, true, true, false, false] rfl rfl (take_ofW HT_.out HW_.out (by kernel_rfl)) (fun _ _ _ h => h) (Or.inl ⟨by rfl, ?_⟩) hHeld ?_ ?_
    rotate_left
    ·rintro w' ⟨s0, s1, s2, s3, s4, s5, s6, s7, s8, s9, s10, s11, s12, s13, s14, s15⟩
     go_simp
     with_reducible rfl
    rotate_left
    ·simp only [Act.put, List.setIfInBounds_toArray, List.set_cons_zero, List.set_cons_succ, i64_w, i32_w]
     rfl
    refine one_ (i := 6) (N := none) #[true, true, true, true, true, true, true, false] rfl rfl (one_of HT_.out (by kernel_rfl)) (by decide) (fun K hK => ?_)
    have hs23 : w21.cell? ⟨gb318, 0, none⟩ = some (.int .i64 0) := (blk_cell BK318.out 0).trans rfl
    have hfs23 := blk_frozen BK318.out 0
    have hns23_1 := NB319_318.out
    have hms23_1 := NB318_319.out
    have hs24 : w21.cell? ⟨gb318, 1, none⟩ = some (.int .i64 0) := (blk_cell BK318.out 1).trans rfl
    have hfs24 := blk_frozen BK318.out 1
    have hns24_1 := NB319_318.out
    have hms24_1 := NB318_319.out
    have hs25 : w21.cell? ⟨gb318, 2, none⟩ = some (.int .i64 0) := (blk_cell BK318.out 2).trans rfl
    have hfs25 := blk_frozen BK318.out 2
    have hns25_1 := NB319_318.out
    have hms25_1 := NB318_319.out
    have hs26 : w21.cell? ⟨gb318, 3, none⟩ = some (.int .i64 0) := (blk_cell BK318.out 3).trans rfl
    have hfs26 := blk_frozen BK318.out 3
    have hns26_1 := NB319_318.out
    have hms26_1 := NB318_319.out
    have hs27 : w21.cell? ⟨gb318, 4, none⟩ = some (.int .i64 0) := (blk_cell BK318.out 4).trans rfl
    have hfs27 := blk_frozen BK318.out 4
    have hns27_1 := NB319_318.out
    have hms27_1 := NB318_319.out
    have hs28 : w21.cell? ⟨gb318, 5, none⟩ = some (.int .i64 0) := (blk_cell BK318.out 5).trans rfl
    have hfs28 := blk_frozen BK318.out 5
    have hns28_1 := NB319_318.out
    have hms28_1 := NB318_319.out
    have hs29 : w21.cell? ⟨gb318, 6, none⟩ = some (.int .i64 0) := (blk_cell BK318.out 6).trans rfl
    have hfs29 := blk_frozen BK318.out 6
    have hns29_1 := NB319_318.out
    have hms29_1 := NB318_319.out
    have hs30 : w21.cell? ⟨gb318, 7, none⟩ = some (.slice none 0 0) := (blk_cell BK318.out 7).trans rfl
    have hfs30 := blk_frozen BK318.out 7
    have hns30_1 := NB319_318.out
    have hms30_1 := NB318_319.out
    refine skip_ (w1 := ?_) ?_ ?_ ?_ ?_
    rotate_left
    ·rfl
    ·rfl
    ·go_simp
     rfl
    refine hK.out _ _ ⟨((cell_far (p := ⟨gb318, _, none⟩) (by have e_ := Kd.own_blk (Kd.N_away HO358.out (fun _ hk => hk.2.1)); first | exact e_ | (rw [add_block]; exact e_) | (dsimp only; exact e_)) _).trans (((cell_far (p := ⟨gb318, _, none⟩) (by have e_ := Kd.own_blk (Kd.N_away HO358.out (fun _ hk => hk.2.1)); first | exact e_ | (rw [add_block]; exact e_) | (dsimp only; exact e_)) _).trans (((cell_far (p := ⟨gb318, _, none⟩) (by have e_ := Kd.own_blk (Kd.N_away HO358.out (fun _ hk => hk.2.1)); first | exact e_ | (rw [add_block]; exact e_) | (dsimp only; exact e_)) _).trans (((cell_far (p := ⟨gb318, _, none⟩) (by have e_ := Kd.own_blk (Kd.N_away HO358.out (fun _ hk => hk.2.1)); first | exact e_ | (rw [add_block]; exact e_) | (dsimp only; exact e_)) _).trans (((cell_far (p := ⟨gb318, _, none⟩) (by have e_ := Kd.own_blk (Kd.N_away HO358.out (fun _ hk => hk.2.1)); first | exact e_ | (rw [add_block]; exact e_) | (dsimp only; exact e_)) _).trans (((cell_far (p := ⟨gb318, _, none⟩) (by have e_ := Kd.own_blk (Kd.N_away HO358.out (fun _ hk => hk.2.1)); first | exact e_ | (rw [add_block]; exact e_) | (dsimp only; exact e_)) _).trans (((cell_far (p := ⟨gb318, _, none⟩) (by have e_ := Kd.own_blk (Kd.N_away HO358.out (fun _ hk => hk.2.1)); first | exact e_ | (rw [add_block]; exact e_) | (dsimp only; exact e_)) _).trans (((cell_far (p := ⟨gb318, _, none⟩) (by have e_ := Kd.own_blk (Kd.N_away HO358.out (fun _ hk => hk.2.1)); first | exact e_ | (rw [add_block]; exact e_) | (dsimp only; exact e_)) _).trans (hHeld.1)))))))))))))))), ((cell_far (p := ⟨gb318, _, none⟩) (by have e_ := Kd.own_blk (Kd.N_away HO358.out (fun _ hk => hk.2.1)); first | exact e_ | (rw [add_block]; exact e_) | (dsimp only; exact e_)) _).trans (((cell_far (p := ⟨gb318, _, none⟩) (by have e_ := Kd.own_blk (Kd.N_away HO358.out (fun _ hk => hk.2.1)); first | exact e_ | (rw [add_block]; exact e_) | (dsimp only; exact e_)) _).trans (((cell_far (p := ⟨gb318, _, none⟩) (by have e_ := Kd.own_blk (Kd.N_away HO358.out (fun _ hk => hk.2.1)); first | exact e_ | (rw [add_block]; exact e_) | (dsimp only; exact e_)) _).trans (((cell_far (p := ⟨gb318, _, none⟩) (by have e_ := Kd.own_blk (Kd.N_away HO358.out (fun _ hk => hk.2.1)); first | exact e_ | (rw [add_block]; exact e_) | (dsimp only; exact e_)) _).trans (((cell_far (p := ⟨gb318, _, none⟩) (by have e_ := Kd.own_blk (Kd.N_away HO358.out (fun _ hk => hk.2.1)); first | exact e_ | (rw [add_block]; exact e_) | (dsimp only; exact e_)) _).trans (((cell_far (p := ⟨gb318, _, none⟩) (by have e_ := Kd.own_blk (Kd.N_away HO358.out (fun _ hk => hk.2.1)); first | exact e_ | (rw [add_block]; exact e_) | (dsimp only; exact e_)) _).trans (((cell_far (p := ⟨gb318, _, none⟩) (by have e_ := Kd.own_blk (Kd.N_away HO358.out (fun _ hk => hk.2.1)); first | exact e_ | (rw [add_block]; exact e_) | (dsimp only; exact e_)) _).trans (((cell_far (p := ⟨gb318, _, none⟩) (by have e_ := Kd.own_blk (Kd.N_away HO358.out (fun _ hk => hk.2.1)); first | exact e_ | (rw [add_block]; exact e_) | (dsimp only; exact e_)) _).trans (hHeld.2.1)))))))))))))))), ((cell_far (p := ⟨gb318, _, none⟩) (by have e_ := Kd.own_blk (Kd.N_away HO358.out (fun _ hk => hk.2.1)); first | exact e_ | (rw [add_block]; exact e_) | (dsimp only; exact e_)) _).trans (((cell_far (p := ⟨gb318, _, none⟩) (by have e_ := Kd.own_blk (Kd.N_away HO358.out (fun _ hk => hk.2.1)); first | exact e_ | (rw [add_block]; exact e_) | (dsimp only; exact e_)) _).trans (((cell_far (p := ⟨gb318, _, none⟩) (by have e_ := Kd.own_blk (Kd.N_away HO358.out (fun _ hk => hk.2.1)); first | exact e_ | (rw [add_block]; exact e_) | (dsimp only; exact e_)) _).trans (((cell_far (p := ⟨gb318, _, none⟩) (by have e_ := Kd.own_blk (Kd.N_away HO358.out (fun _ hk => hk.2.1)); first | exact e_ | (rw [add_block]; exact e_) | (dsimp only; exact e_)) _).trans (((cell_far (p := ⟨gb318, _, none⟩) (by have e_ := Kd.own_blk (Kd.N_away HO358.out (fun _ hk => hk.2.1)); first | exact e_ | (rw [add_block]; exact e_) | (dsimp only; exact e_)) _).trans (((cell_far (p := ⟨gb318, _, none⟩) (by have e_ := Kd.own_blk (Kd.N_away HO358.out (fun _ hk => hk.2.1)); first | exact e_ | (rw [add_block]; exact e_) | (dsimp only; exact e_)) _).trans (((cell_far (p := ⟨gb318, _, none⟩) (by have e_ := Kd.own_blk (Kd.N_away HO358.out (fun _ hk => hk.2.1)); first | exact e_ | (rw [add_block]; exact e_) | (dsimp only; exact e_)) _).trans (((cell_far (p := ⟨gb318, _, none⟩) (by have e_ := Kd.own_blk (Kd.N_away HO358.out (fun _ hk => hk.2.1)); first | exact e_ | (rw [add_block]; exact e_) | (dsimp only; exact e_)) _).trans (hHeld.2.2.1)))))))))))))))), ((cell_far (p := ⟨gb318, _, none⟩) (by have e_ := Kd.own_blk (Kd.N_away HO358.out (fun _ hk => hk.2.1)); first | exact e_ | (rw [add_block]; exact e_) | (dsimp only; exact e_)) _).trans (((cell_far (p := ⟨gb318, _, none⟩) (by have e_ := Kd.own_blk (Kd.N_away HO358.out (fun _ hk => hk.2.1)); first | exact e_ | (rw [add_block]; exact e_) | (dsimp only; exact e_)) _).trans (((cell_far (p := ⟨gb318, _, none⟩) (by have e_ := Kd.own_blk (Kd.N_away HO358.out (fun _ hk => hk.2.1)); first | exact e_ | (rw [add_block]; exact e_) | (dsimp only; exact e_)) _).trans (((cell_far (p := ⟨gb318, _, none⟩) (by have e_ := Kd.own_blk (Kd.N_away HO358.out (fun _ hk => hk.2.1)); first | exact e_ | (rw [add_block]; exact e_) | (dsimp only; exact e_)) _).trans (((cell_far (p := ⟨gb318, _, none⟩) (by have e_ := Kd.own_blk (Kd.N_away HO358.out (fun _ hk => hk.2.1)); first | exact e_ | (rw [add_block]; exact e_) | (dsimp only; exact e_)) _).trans (((cell_far (p := ⟨gb318, _, none⟩) (by have e_ := Kd.own_blk (Kd.N_away HO358.out (fun _ hk => hk.2.1)); first | exact e_ | (rw [add_block]; exact e_) | (dsimp only; exact e_)) _).trans (((cell_far (p := ⟨gb318, _, none⟩) (by have e_ := Kd.own_blk (Kd.N_away HO358.out (fun _ hk => hk.2.1)); first | exact e_ | (rw [add_block]; exact e_) | (dsimp only; exact e_)) _).trans (((cell_far (p := ⟨gb318, _, none⟩) (by have e_ := Kd.own_blk (Kd.N_away HO358.out (fun _ hk => hk.2.1)); first | exact e_ | (rw [add_block]; exact e_) | (dsimp only; exact e_)) _).trans (hHeld.2.2.2.1)))))))))))))))), ((cell_far (p := ⟨gb318, _, none⟩) (by have e_ := Kd.own_blk (Kd.N_away HO358.out (fun _ hk => hk.2.1)); first | exact e_ | (rw [add_block]; exact e_) | (dsimp only; exact e_)) _).trans (((cell_far (p := ⟨gb318, _, none⟩) (by have e_ := Kd.own_blk (Kd.N_away HO358.out (fun _ hk => hk.2.1)); first | exact e_ | (rw [add_block]; exact e_) | (dsimp only; exact e_)) _).trans (((cell_far (p := ⟨gb318, _, none⟩) (by have e_ := Kd.own_blk (Kd.N_away HO358.out (fun _ hk => hk.2.1)); first | exact e_ | (rw [add_block]; exact e_) | (dsimp only; exact e_)) _).trans (((cell_far (p := ⟨gb318, _, none⟩) (by have e_ := Kd.own_blk (Kd.N_away HO358.out (fun _ hk => hk.2.1)); first | exact e_ | (rw [add_block]; exact e_) | (dsimp only; exact e_)) _).trans (((cell_far (p := ⟨gb318, _, none⟩) (by have e_ := Kd.own_blk (Kd.N_away HO358.out (fun _ hk => hk.2.1)); first | exact e_ | (rw [add_block]; exact e_) | (dsimp only; exact e_)) _).trans (((cell_far (p := ⟨gb318, _, none⟩) (by have e_ := Kd.own_blk (Kd.N_away HO358.out (fun _ hk => hk.2.1)); first | exact e_ | (rw [add_block]; exact e_) | (dsimp only; exact e_)) _).trans (((cell_far (p := ⟨gb318, _, none⟩) (by have e_ := Kd.own_blk (Kd.N_away HO358.out (fun _ hk => hk.2.1)); first | exact e_ | (rw [add_block]; exact e_) | (dsimp only; exact e_)) _).trans (((cell_far (p := ⟨gb318, _, none⟩) (by have e_ := Kd.own_blk (Kd.N_away HO358.out (fun _ hk => hk.2.1)); first | exact e_ | (rw [add_block]; exact e_) | (dsimp only; exact e_)) _).trans (hHeld.2.2.2.2.1)))))))))))))))), ((cell_far (p := ⟨gb318, _, none⟩) (by have e_ := Kd.own_blk (Kd.N_away HO358.out (fun _ hk => hk.2.1)); first | exact e_ | (rw [add_block]; exact e_) | (dsimp only; exact e_)) _).trans (((cell_far (p := ⟨gb318, _, none⟩) (by have e_ := Kd.own_blk (Kd.N_away HO358.out (fun _ hk => hk.2.1)); first | exact e_ | (rw [add_block]; exact e_) | (dsimp only; exact e_)) _).trans (((cell_far (p := ⟨gb318, _, none⟩) (by have e_ := Kd.own_blk (Kd.N_away HO358.out (fun _ hk => hk.2.1)); first | exact e_ | (rw [add_block]; exact e_) | (dsimp only; exact e_)) _).trans (((cell_far (p := ⟨gb318, _, none⟩) (by have e_ := Kd.own_blk (Kd.N_away HO358.out (fun _ hk => hk.2.1)); first | exact e_ | (rw [add_block]; exact e_) | (dsimp only; exact e_)) _).trans (((cell_far (p := ⟨gb318, _, none⟩) (by have e_ := Kd.own_blk (Kd.N_away HO358.out (fun _ hk => hk.2.1)); first | exact e_ | (rw [add_block]; exact e_) | (dsimp only; exact e_)) _).trans (((cell_far (p := ⟨gb318, _, none⟩) (by have e_ := Kd.own_blk (Kd.N_away HO358.out (fun _ hk => hk.2.1)); first | exact e_ | (rw [add_block]; exact e_) | (dsimp only; exact e_)) _).trans (((cell_far (p := ⟨gb318, _, none⟩) (by have e_ := Kd.own_blk (Kd.N_away HO358.out (fun _ hk => hk.2.1)); first | exact e_ | (rw [add_block]; exact e_) | (dsimp only; exact e_)) _).trans (((cell_far (p := ⟨gb318, _, none⟩) (by have e_ := Kd.own_blk (Kd.N_away HO358.out (fun _ hk => hk.2.1)); first | exact e_ | (rw [add_block]; exact e_) | (dsimp only; exact e_)) _).trans (hHeld.2.2.2.2.2.1)))))))))))))))), ((cell_far (p := ⟨gb318, _, none⟩) (by have e_ := Kd.own_blk (Kd.N_away HO358.out (fun _ hk => hk.2.1)); first | exact e_ | (rw [add_block]; exact e_) | (dsimp only; exact e_)) _).trans (((cell_far (p := ⟨gb318, _, none⟩) (by have e_ := Kd.own_blk (Kd.N_away HO358.out (fun _ hk => hk.2.1)); first | exact e_ | (rw [add_block]; exact e_) | (dsimp only; exact e_)) _).trans (((cell_far (p := ⟨gb318, _, none⟩) (by have e_ := Kd.own_blk (Kd.N_away HO358.out (fun _ hk => hk.2.1)); first | exact e_ | (rw [add_block]; exact e_) | (dsimp only; exact e_)) _).trans (((cell_far (p := ⟨gb318, _, none⟩) (by have e_ := Kd.own_blk (Kd.N_away HO358.out (fun _ hk => hk.2.1)); first | exact e_ | (rw [add_block]; exact e_) | (dsimp only; exact e_)) _).trans (((cell_far (p := ⟨gb318, _, none⟩) (by have e_ := Kd.own_blk (Kd.N_away HO358.out (fun _ hk => hk.2.1)); first | exact e_ | (rw [add_block]; exact e_) | (dsimp only; exact e_)) _).trans (((cell_far (p := ⟨gb318, _, none⟩) (by have e_ := Kd.own_blk (Kd.N_away HO358.out (fun _ hk => hk.2.1)); first | exact e_ | (rw [add_block]; exact e_) | (dsimp only; exact e_)) _).trans (((cell_far (p := ⟨gb318, _, none⟩) (by have e_ := Kd.own_blk (Kd.N_away HO358.out (fun _ hk => hk.2.1)); first | exact e_ | (rw [add_block]; exact e_) | (dsimp only; exact e_)) _).trans (((cell_far (p := ⟨gb318, _, none⟩) (by have e_ := Kd.own_blk (Kd.N_away HO358.out (fun _ hk => hk.2.1)); first | exact e_ | (rw [add_block]; exact e_) | (dsimp only; exact e_)) _).trans (hHeld.2.2.2.2.2.2.1)))))))))))))))), ((cell_far (p := ⟨gb318, _, none⟩) (by have e_ := Kd.own_blk (Kd.N_away HO358.out (fun _ hk => hk.2.1)); first | exact e_ | (rw [add_block]; exact e_) | (dsimp only; exact e_)) _).trans (((cell_far (p := ⟨gb318, _, none⟩) (by have e_ := Kd.own_blk (Kd.N_away HO358.out (fun _ hk => hk.2.1)); first | exact e_ | (rw [add_block]; exact e_) | (dsimp only; exact e_)) _).trans (((cell_far (p := ⟨gb318, _, none⟩) (by have e_ := Kd.own_blk (Kd.N_away HO358.out (fun _ hk => hk.2.1)); first | exact e_ | (rw [add_block]; exact e_) | (dsimp only; exact e_)) _).trans (((cell_far (p := ⟨gb318, _, none⟩) (by have e_ := Kd.own_blk (Kd.N_away HO358.out (fun _ hk => hk.2.1)); first | exact e_ | (rw [add_block]; exact e_) | (dsimp only; exact e_)) _).trans (((cell_far (p := ⟨gb318, _, none⟩) (by have e_ := Kd.own_blk (Kd.N_away HO358.out (fun _ hk => hk.2.1)); first | exact e_ | (rw [add_block]; exact e_) | (dsimp only; exact e_)) _).trans (((cell_far (p := ⟨gb318, _, none⟩) (by have e_ := Kd.own_blk (Kd.N_away HO358.out (fun _ hk => hk.2.1)); first | exact e_ | (rw [add_block]; exact e_) | (dsimp only; exact e_)) _).trans (((cell_far (p := ⟨gb318, _, none⟩) (by have e_ := Kd.own_blk (Kd.N_away HO358.out (fun _ hk => hk.2.1)); first | exact e_ | (rw [add_block]; exact e_) | (dsimp only; exact e_)) _).trans (((cell_far (p := ⟨gb318, _, none⟩) (by have e_ := Kd.own_blk (Kd.N_away HO358.out (fun _ hk => hk.2.1)); first | exact e_ | (rw [add_block]; exact e_) | (dsimp only; exact e_)) _).trans (hHeld.2.2.2.2.2.2.2.1)))))))))))))))), ((cell_far (p := ⟨gb318, _, none⟩) (by have e_ := Kd.own_blk (Kd.N_away HO358.out (fun _ hk => hk.2.1)); first | exact e_ | (rw [add_block]; exact e_) | (dsimp only; exact e_)) _).trans (((cell_far (p := ⟨gb318, _, none⟩) (by have e_ := Kd.own_blk (Kd.N_away HO358.out (fun _ hk => hk.2.1)); first | exact e_ | (rw [add_block]; exact e_) | (dsimp only; exact e_)) _).trans (((cell_far (p := ⟨gb318, _, none⟩) (by have e_ := Kd.own_blk (Kd.N_away HO358.out (fun _ hk => hk.2.1)); first | exact e_ | (rw [add_block]; exact e_) | (dsimp only; exact e_)) _).trans (((cell_far (p := ⟨gb318, _, none⟩) (by have e_ := Kd.own_blk (Kd.N_away HO358.out (fun _ hk => hk.2.1)); first | exact e_ | (rw [add_block]; exact e_) | (dsimp only; exact e_)) _).trans (((cell_far (p := ⟨gb318, _, none⟩) (by have e_ := Kd.own_blk (Kd.N_away HO358.out (fun _ hk => hk.2.1)); first | exact e_ | (rw [add_block]; exact e_) | (dsimp only; exact e_)) _).trans (((cell_far (p := ⟨gb318, _, none⟩) (by have e_ := Kd.own_blk (Kd.N_away HO358.out (fun _ hk => hk.2.1)); first | exact e_ | (rw [add_block]; exact e_) | (dsimp only; exact e_)) _).trans (((cell_far (p := ⟨gb318, _, none⟩) (by have e_ := Kd.own_blk (Kd.N_away HO358.out (fun _ hk => hk.2.1)); first | exact e_ | (rw [add_block]; exact e_) | (dsimp only; exact e_)) _).trans (((cell_far (p := ⟨gb318, _, none⟩) (by have e_ := Kd.own_blk (Kd.N_away HO358.out (fun _ hk => hk.2.1)); first | exact e_ | (rw [add_block]; exact e_) | (dsimp only; exact e_)) _).trans (hHeld.2.2.2.2.2.2.2.2.1)))))))))))))))), ((cell_far (p := ⟨gb318, _, none⟩) (by have e_ := Kd.own_blk (Kd.N_away HO358.out (fun _ hk => hk.2.1)); first | exact e_ | (rw [add_block]; exact e_) | (dsimp only; exact e_)) _).trans (((cell_far (p := ⟨gb318, _, none⟩) (by have e_ := Kd.own_blk (Kd.N_away HO358.out (fun _ hk => hk.2.1)); first | exact e_ | (rw [add_block]; exact e_) | (dsimp only; exact e_)) _).trans (((cell_far (p := ⟨gb318, _, none⟩) (by have e_ := Kd.own_blk (Kd.N_away HO358.out (fun _ hk => hk.2.1)); first | exact e_ | (rw [add_block]; exact e_) | (dsimp only; exact e_)) _).trans (((cell_far (p := ⟨gb318, _, none⟩) (by have e_ := Kd.own_blk (Kd.N_away HO358.out (fun _ hk => hk.2.1)); first | exact e_ | (rw [add_block]; exact e_) | (dsimp only; exact e_)) _).trans (((cell_far (p := ⟨gb318, _, none⟩) (by have e_ := Kd.own_blk (Kd.N_away HO358.out (fun _ hk => hk.2.1)); first | exact e_ | (rw [add_block]; exact e_) | (dsimp only; exact e_)) _).trans (((cell_far (p := ⟨gb318, _, none⟩) (by have e_ := Kd.own_blk (Kd.N_away HO358.out (fun _ hk => hk.2.1)); first | exact e_ | (rw [add_block]; exact e_) | (dsimp only; exact e_)) _).trans (((cell_far (p := ⟨gb318, _, none⟩) (by have e_ := Kd.own_blk (Kd.N_away HO358.out (fun _ hk => hk.2.1)); first | exact e_ | (rw [add_block]; exact e_) | (dsimp only; exact e_)) _).trans (((cell_far (p := ⟨gb318, _, none⟩) (by have e_ := Kd.own_blk (Kd.N_away HO358.out (fun _ hk => hk.2.1)); first | exact e_ | (rw [add_block]; exact e_) | (dsimp only; exact e_)) _).trans (hHeld.2.2.2.2.2.2.2.2.2.1)))))))))))))))), ((cell_far (p := ⟨gb318, _, none⟩) (by have e_ := Kd.own_blk (Kd.N_away HO358.out (fun _ hk => hk.2.1)); first | exact e_ | (rw [add_block]; exact e_) | (dsimp only; exact e_)) _).trans (((cell_far (p := ⟨gb318, _, none⟩) (by have e_ := Kd.own_blk (Kd.N_away HO358.out (fun _ hk => hk.2.1)); first | exact e_ | (rw [add_block]; exact e_) | (dsimp only; exact e_)) _).trans (((cell_far (p := ⟨gb318, _, none⟩) (by have e_ := Kd.own_blk (Kd.N_away HO358.out (fun _ hk => hk.2.1)); first | exact e_ | (rw [add_block]; exact e_) | (dsimp only; exact e_)) _).trans (((cell_far (p := ⟨gb318, _, none⟩) (by have e_ := Kd.own_blk (Kd.N_away HO358.out (fun _ hk => hk.2.1)); first | exact e_ | (rw [add_block]; exact e_) | (dsimp only; exact e_)) _).trans (((cell_far (p := ⟨gb318, _, none⟩) (by have e_ := Kd.own_blk (Kd.N_away HO358.out (fun _ hk => hk.2.1)); first | exact e_ | (rw [add_block]; exact e_) | (dsimp only; exact e_)) _).trans (((cell_far (p := ⟨gb318, _, none⟩) (by have e_ := Kd.own_blk (Kd.N_away HO358.out (fun _ hk => hk.2.1)); first | exact e_ | (rw [add_block]; exact e_) | (dsimp only; exact e_)) _).trans (((cell_far (p := ⟨gb318, _, none⟩) (by have e_ := Kd.own_blk (Kd.N_away HO358.out (fun _ hk => hk.2.1)); first | exact e_ | (rw [add_block]; exact e_) | (dsimp only; exact e_)) _).trans (((cell_far (p := ⟨gb318, _, none⟩) (by have e_ := Kd.own_blk (Kd.N_away HO358.out (fun _ hk => hk.2.1)); first | exact e_ | (rw [add_block]; exact e_) | (dsimp only; exact e_)) _).trans (hHeld.2.2.2.2.2.2.2.2.2.2.1)))))))))))))))), ((cell_far (p := ⟨gb318, _, none⟩) (by have e_ := Kd.own_blk (Kd.N_away HO358.out (fun _ hk => hk.2.1)); first | exact e_ | (rw [add_block]; exact e_) | (dsimp only; exact e_)) _).trans (((cell_far (p := ⟨gb318, _, none⟩) (by have e_ := Kd.own_blk (Kd.N_away HO358.out (fun _ hk => hk.2.1)); first | exact e_ | (rw [add_block]; exact e_) | (dsimp only; exact e_)) _).trans (((cell_far (p := ⟨gb318, _, none⟩) (by have e_ := Kd.own_blk (Kd.N_away HO358.out (fun _ hk => hk.2.1)); first | exact e_ | (rw [add_block]; exact e_) | (dsimp only; exact e_)) _).trans (((cell_far (p := ⟨gb318, _, none⟩) (by have e_ := Kd.own_blk (Kd.N_away HO358.out (fun _ hk => hk.2.1)); first | exact e_ | (rw [add_block]; exact e_) | (dsimp only; exact e_)) _).trans (((cell_far (p := ⟨gb318, _, none⟩) (by have e_ := Kd.own_blk (Kd.N_away HO358.out (fun _ hk => hk.2.1)); first | exact e_ | (rw [add_block]; exact e_) | (dsimp only; exact e_)) _).trans (((cell_far (p := ⟨gb318, _, none⟩) (by have e_ := Kd.own_blk (Kd.N_away HO358.out (fun _ hk => hk.2.1)); first | exact e_ | (rw [add_block]; exact e_) | (dsimp only; exact e_)) _).trans (((cell_far (p := ⟨gb318, _, none⟩) (by have e_ := Kd.own_blk (Kd.N_away HO358.out (fun _ hk => hk.2.1)); first | exact e_ | (rw [add_block]; exact e_) | (dsimp only; exact e_)) _).trans (((cell_far (p := ⟨gb318, _, none⟩) (by have e_ := Kd.own_blk (Kd.N_away HO358.out (fun _ hk => hk.2.1)); first | exact e_ | (rw [add_block]; exact e_) | (dsimp only; exact e_)) _).trans (hHeld.2.2.2.2.2.2.2.2.2.2.2.1)))))))))))))))), ((cell_far (p := ⟨gb318, _, none⟩) (by have e_ := Kd.own_blk (Kd.N_away HO358.out (fun _ hk => hk.2.1)); first | exact e_ | (rw [add_block]; exact e_) | (dsimp only; exact e_)) _).trans (((cell_far (p := ⟨gb318, _, none⟩) (by have e_ := Kd.own_blk (Kd.N_away HO358.out (fun _ hk => hk.2.1)); first | exact e_ | (rw [add_block]; exact e_) | (dsimp only; exact e_)) _).trans (((cell_far (p := ⟨gb318, _, none⟩) (by have e_ := Kd.own_blk (Kd.N_away HO358.out (fun _ hk => hk.2.1)); first | exact e_ | (rw [add_block]; exact e_) | (dsimp only; exact e_)) _).trans (((cell_far (p := ⟨gb318, _, none⟩) (by have e_ := Kd.own_blk (Kd.N_away HO358.out (fun _ hk => hk.2.1)); first | exact e_ | (rw [add_block]; exact e_) | (dsimp only; exact e_)) _).trans (((cell_far (p := ⟨gb318, _, none⟩) (by have e_ := Kd.own_blk (Kd.N_away HO358.out (fun _ hk => hk.2.1)); first | exact e_ | (rw [add_block]; exact e_) | (dsimp only; exact e_)) _).trans (((cell_far (p := ⟨gb318, _, none⟩) (by have e_ := Kd.own_blk (Kd.N_away HO358.out (fun _ hk => hk.2.1)); first | exact e_ | (rw [add_block]; exact e_) | (dsimp only; exact e_)) _).trans (((cell_far (p := ⟨gb318, _, none⟩) (by have e_ := Kd.own_blk (Kd.N_away HO358.out (fun _ hk => hk.2.1)); first | exact e_ | (rw [add_block]; exact e_) | (dsimp only; exact e_)) _).trans (((cell_far (p := ⟨gb318, _, none⟩) (by have e_ := Kd.own_blk (Kd.N_away HO358.out (fun _ hk => hk.2.1)); first | exact e_ | (rw [add_block]; exact e_) | (dsimp only; exact e_)) _).trans (hHeld.2.2.2.2.2.2.2.2.2.2.2.2.1)))))))))))))))), ((cell_far (p := ⟨gb318, _, none⟩) (by have e_ := Kd.own_blk (Kd.N_away HO358.out (fun _ hk => hk.2.1)); first | exact e_ | (rw [add_block]; exact e_) | (dsimp only; exact e_)) _).trans (((cell_far (p := ⟨gb318, _, none⟩) (by have e_ := Kd.own_blk (Kd.N_away HO358.out (fun _ hk => hk.2.1)); first | exact e_ | (rw [add_block]; exact e_) | (dsimp only; exact e_)) _).trans (((cell_far (p := ⟨gb318, _, none⟩) (by have e_ := Kd.own_blk (Kd.N_away HO358.out (fun _ hk => hk.2.1)); first | exact e_ | (rw [add_block]; exact e_) | (dsimp only; exact e_)) _).trans (((cell_far (p := ⟨gb318, _, none⟩) (by have e_ := Kd.own_blk (Kd.N_away HO358.out (fun _ hk => hk.2.1)); first | exact e_ | (rw [add_block]; exact e_) | (dsimp only; exact e_)) _).trans (((cell_far (p := ⟨gb318, _, none⟩) (by have e_ := Kd.own_blk (Kd.N_away HO358.out (fun _ hk => hk.2.1)); first | exact e_ | (rw [add_block]; exact e_) | (dsimp only; exact e_)) _).trans (((cell_far (p := ⟨gb318, _, none⟩) (by have e_ := Kd.own_blk (Kd.N_away HO358.out (fun _ hk => hk.2.1)); first | exact e_ | (rw [add_block]; exact e_) | (dsimp only; exact e_)) _).trans (((cell_far (p := ⟨gb318, _, none⟩) (by have e_ := Kd.own_blk (Kd.N_away HO358.out (fun _ hk => hk.2.1)); first | exact e_ | (rw [add_block]; exact e_) | (dsimp only; exact e_)) _).trans (((cell_far (p := ⟨gb318, _, none⟩) (by have e_ := Kd.own_blk (Kd.N_away HO358.out (fun _ hk => hk.2.1)); first | exact e_ | (rw [add_block]; exact e_) | (dsimp only; exact e_)) _).trans (hHeld.2.2.2.2.2.2.2.2.2.2.2.2.2.1)))))))))))))))), ((cell_far (p := ⟨gb318, _, none⟩) (by have e_ := Kd.own_blk (Kd.N_away HO358.out (fun _ hk => hk.2.1)); first | exact e_ | (rw [add_block]; exact e_) | (dsimp only; exact e_)) _).trans (((cell_far (p := ⟨gb318, _, none⟩) (by have e_ := Kd.own_blk (Kd.N_away HO358.out (fun _ hk => hk.2.1)); first | exact e_ | (rw [add_block]; exact e_) | (dsimp only; exact e_)) _).trans (((cell_far (p := ⟨gb318, _, none⟩) (by have e_ := Kd.own_blk (Kd.N_away HO358.out (fun _ hk => hk.2.1)); first | exact e_ | (rw [add_block]; exact e_) | (dsimp only; exact e_)) _).trans (((cell_far (p := ⟨gb318, _, none⟩) (by have e_ := Kd.own_blk (Kd.N_away HO358.out (fun _ hk => hk.2.1)); first | exact e_ | (rw [add_block]; exact e_) | (dsimp only; exact e_)) _).trans (((cell_far (p := ⟨gb318, _, none⟩) (by have e_ := Kd.own_blk (Kd.N_away HO358.out (fun _ hk => hk.2.1)); first | exact e_ | (rw [add_block]; exact e_) | (dsimp only; exact e_)) _).trans (((cell_far (p := ⟨gb318, _, none⟩) (by have e_ := Kd.own_blk (Kd.N_away HO358.out (fun _ hk => hk.2.1)); first | exact e_ | (rw [add_block]; exact e_) | (dsimp only; exact e_)) _).trans (((cell_far (p := ⟨gb318, _, none⟩) (by have e_ := Kd.own_blk (Kd.N_away HO358.out (fun _ hk => hk.2.1)); first | exact e_ | (rw [add_block]; exact e_) | (dsimp only; exact e_)) _).trans (((cell_far (p := ⟨gb318, _, none⟩) (by have e_ := Kd.own_blk (Kd.N_away HO358.out (fun _ hk => hk.2.1)); first | exact e_ | (rw [add_block]; exact e_) | (dsimp only; exact e_)) _).trans (hHeld.2.2.2.2.2.2.2.2.2.2.2.2.2.2.1)))))))))))))))), ((cell_far (p := ⟨gb318, _, none⟩) (by have e_ := Kd.own_blk (Kd.N_away HO358.out (fun _ hk => hk.2.1)); first | exact e_ | (rw [add_block]; exact e_) | (dsimp only; exact e_)) _).trans (((cell_far (p := ⟨gb318, _, none⟩) (by have e_ := Kd.own_blk (Kd.N_away HO358.out (fun _ hk => hk.2.1)); first | exact e_ | (rw [add_block]; exact e_) | (dsimp only; exact e_)) _).trans (((cell_far (p := ⟨gb318, _, none⟩) (by have e_ := Kd.own_blk (Kd.N_away HO358.out (fun _ hk => hk.2.1)); first | exact e_ | (rw [add_block]; exact e_) | (dsimp only; exact e_)) _).trans (((cell_far (p := ⟨gb318, _, none⟩) (by have e_ := Kd.own_blk (Kd.N_away HO358.out (fun _ hk => hk.2.1)); first | exact e_ | (rw [add_block]; exact e_) | (dsimp only; exact e_)) _).trans (((cell_far (p := ⟨gb318, _, none⟩) (by have e_ := Kd.own_blk (Kd.N_away HO358.out (fun _ hk => hk.2.1)); first | exact e_ | (rw [add_block]; exact e_) | (dsimp only; exact e_)) _).trans (((cell_far (p := ⟨gb318, _, none⟩) (by have e_ := Kd.own_blk (Kd.N_away HO358.out (fun _ hk => hk.2.1)); first | exact e_ | (rw [add_block]; exact e_) | (dsimp only; exact e_)) _).trans (((cell_far (p := ⟨gb318, _, none⟩) (by have e_ := Kd.own_blk (Kd.N_away HO358.out (fun _ hk => hk.2.1)); first | exact e_ | (rw [add_block]; exact e_) | (dsimp only; exact e_)) _).trans (((cell_far (p := ⟨gb318, _, none⟩) (by have e_ := Kd.own_blk (Kd.N_away HO358.out (fun _ hk => hk.2.1)); first | exact e_ | (rw [add_block]; exact e_) | (dsimp only; exact e_)) _).trans (hHeld.2.2.2.2.2.2.2.2.2.2.2.2.2.2.2))))))))))))))))⟩ (fun hHeld => ?_)
    clear hK K
    refine one_ (i := 7) (N := none) #[true, true, true, true, true, true, true, true] rfl rfl (one_of HT_.out (by kernel_rfl)) (by decide) (fun K hK => ?_)
    have hs31 : w21.cell? ⟨gb319, 0, none⟩ = some (.int .i64 0) := (blk_cell BK319.out 0).trans rfl
    have hfs31 := blk_frozen BK319.out 0
    have hns31_0 := NB318_319.out
    have hms31_0 := NB319_318.out
    have hs32 : w21.cell? ⟨gb319, 1, none⟩ = some (.int .i64 0) := (blk_cell BK319.out 1).trans rfl
    have hfs32 := blk_frozen BK319.out 1
    have hns32_0 := NB318_319.out
    have hms32_0 := NB319_318.out
    have hs33 : w21.cell? ⟨gb319, 2, none⟩ = some (.int .i64 0) := (blk_cell BK319.out 2).trans rfl
    have hfs33 := blk_frozen BK319.out 2
    have hns33_0 := NB318_319.out
    have hms33_0 := NB319_318.out
    have hs34 : w21.cell? ⟨gb319, 3, none⟩ = some (.int .i64 0) := (blk_cell BK319.out 3).trans rfl
    have hfs34 := blk_frozen BK319.out 3
    have hns34_0 := NB318_319.out
    have hms34_0 := NB319_318.out
    have hs35 : w21.cell? ⟨gb319, 4, none⟩ = some (.int .i64 0) := (blk_cell BK319.out 4).trans rfl
    have hfs35 := blk_frozen BK319.out 4
    have hns35_0 := NB318_319.out
    have hms35_0 := NB319_318.out
    have hs36 : w21.cell? ⟨gb319, 5, none⟩ = some (.int .i64 0) := (blk_cell BK319.out 5).trans rfl
    have hfs36 := blk_frozen BK319.out 5
    have hns36_0 := NB318_319.out
    have hms36_0 := NB319_318.out
    have hs37 : w21.cell? ⟨gb319, 6, none⟩ = some (.int .i64 0) := (blk_cell BK319.out 6).trans rfl
    have hfs37 := blk_frozen BK319.out 6
    have hns37_0 := NB318_319.out
    have hms37_0 := NB319_318.out
    have hs38 : w21.cell? ⟨gb319, 7, none⟩ = some (.slice none 0 0) := (blk_cell BK319.out 7).trans rfl
    have hfs38 := blk_frozen BK319.out 7
    have hns38_0 := NB318_319.out
    have hms38_0 := NB319_318.out
    refine skip_ (w1 := ?_) ?_ ?_ ?_ ?_
    rotate_left
    ·rfl
    ·rfl
    ·go_simp
     rfl
    refine hK.out _ _ ⟨((cell_far (p := ⟨gb319, _, none⟩) (by have e_ := Kd.own_blk (Kd.N_away HO358.out (fun _ hk => hk.2.2.1)); first | exact e_ | (rw [add_block]; exact e_) | (dsimp only; exact e_)) _).trans (((cell_far (p := ⟨gb319, _, none⟩) (by have e_ := Kd.own_blk (Kd.N_away HO358.out (fun _ hk => hk.2.2.1)); first | exact e_ | (rw [add_block]; exact e_) | (dsimp only; exact e_)) _).trans (((cell_far (p := ⟨gb319, _, none⟩) (by have e_ := Kd.own_blk (Kd.N_away HO358.out (fun _ hk => hk.2.2.1)); first | exact e_ | (rw [add_block]; exact e_) | (dsimp only; exact e_)) _).trans (((cell_far (p := ⟨gb319, _, none⟩) (by have e_ := Kd.own_blk (Kd.N_away HO358.out (fun _ hk => hk.2.2.1)); first | exact e_ | (rw [add_block]; exact e_) | (dsimp only; exact e_)) _).trans (((cell_far (p := ⟨gb319, _, none⟩) (by have e_ := Kd.own_blk (Kd.N_away HO358.out (fun _ hk => hk.2.2.1)); first | exact e_ | (rw [add_block]; exact e_) | (dsimp only; exact e_)) _).trans (((cell_far (p := ⟨gb319, _, none⟩) (by have e_ := Kd.own_blk (Kd.N_away HO358.out (fun _ hk => hk.2.2.1)); first | exact e_ | (rw [add_block]; exact e_) | (dsimp only; exact e_)) _).trans (((cell_far (p := ⟨gb319, _, none⟩) (by have e_ := Kd.own_blk (Kd.N_away HO358.out (fun _ hk => hk.2.2.1)); first | exact e_ | (rw [add_block]; exact e_) | (dsimp only; exact e_)) _).trans (((cell_far (p := ⟨gb319, _, none⟩) (by have e_ := Kd.own_blk (Kd.N_away HO358.out (fun _ hk => hk.2.2.1)); first | exact e_ | (rw [add_block]; exact e_) | (dsimp only; exact e_)) _).trans (hHeld.1)))))))))))))))), ((cell_far (p := ⟨gb319, _, none⟩) (by have e_ := Kd.own_blk (Kd.N_away HO358.out (fun _ hk => hk.2.2.1)); first | exact e_ | (rw [add_block]; exact e_) | (dsimp only; exact e_)) _).trans (((cell_far (p := ⟨gb319, _, none⟩) (by have e_ := Kd.own_blk (Kd.N_away HO358.out (fun _ hk => hk.2.2.1)); first | exact e_ | (rw [add_block]; exact e_) | (dsimp only; exact e_)) _).trans (((cell_far (p := ⟨gb319, _, none⟩) (by have e_ := Kd.own_blk (Kd.N_away HO358.out (fun _ hk => hk.2.2.1)); first | exact e_ | (rw [add_block]; exact e_) | (dsimp only; exact e_)) _).trans (((cell_far (p := ⟨gb319, _, none⟩) (by have e_ := Kd.own_blk (Kd.N_away HO358.out (fun _ hk => hk.2.2.1)); first | exact e_ | (rw [add_block]; exact e_) | (dsimp only; exact e_)) _).trans (((cell_far (p := ⟨gb319, _, none⟩) (by have e_ := Kd.own_blk (Kd.N_away HO358.out (fun _ hk => hk.2.2.1)); first | exact e_ | (rw [add_block]; exact e_) | (dsimp only; exact e_)) _).trans (((cell_far (p := ⟨gb319, _, none⟩) (by have e_ := Kd.own_blk (Kd.N_away HO358.out (fun _ hk => hk.2.2.1)); first | exact e_ | (rw [add_block]; exact e_) | (dsimp only; exact e_)) _).trans (((cell_far (p := ⟨gb319, _, none⟩) (by have e_ := Kd.own_blk (Kd.N_away HO358.out (fun _ hk => hk.2.2.1)); first | exact e_ | (rw [add_block]; exact e_) | (dsimp only; exact e_)) _).trans (((cell_far (p := ⟨gb319, _, none⟩) (by have e_ := Kd.own_blk (Kd.N_away HO358.out (fun _ hk => hk.2.2.1)); first | exact e_ | (rw [add_block]; exact e_) | (dsimp only; exact e_)) _).trans (hHeld.2.1)))))))))))))))), ((cell_far (p := ⟨gb319, _, none⟩) (by have e_ := Kd.own_blk (Kd.N_away HO358.out (fun _ hk => hk.2.2.1)); first | exact e_ | (rw [add_block]; exact e_) | (dsimp only; exact e_)) _).trans (((cell_far (p := ⟨gb319, _, none⟩) (by have e_ := Kd.own_blk (Kd.N_away HO358.out (fun _ hk => hk.2.2.1)); first | exact e_ | (rw [add_block]; exact e_) | (dsimp only; exact e_)) _).trans (((cell_far (p := ⟨gb319, _, none⟩) (by have e_ := Kd.own_blk (Kd.N_away HO358.out (fun _ hk => hk.2.2.1)); first | exact e_ | (rw [add_block]; exact e_) | (dsimp only; exact e_)) _).trans (((cell_far (p := ⟨gb319, _, none⟩) (by have e_ := Kd.own_blk (Kd.N_away HO358.out (fun _ hk => hk.2.2.1)); first | exact e_ | (rw [add_block]; exact e_) | (dsimp only; exact e_)) _).trans (((cell_far (p := ⟨gb319, _, none⟩) (by have e_ := Kd.own_blk (Kd.N_away HO358.out (fun _ hk => hk.2.2.1)); first | exact e_ | (rw [add_block]; exact e_) | (dsimp only; exact e_)) _).trans (((cell_far (p := ⟨gb319, _, none⟩) (by have e_ := Kd.own_blk (Kd.N_away HO358.out (fun _ hk => hk.2.2.1)); first | exact e_ | (rw [add_block]; exact e_) | (dsimp only; exact e_)) _).trans (((cell_far (p := ⟨gb319, _, none⟩) (by have e_ := Kd.own_blk (Kd.N_away HO358.out (fun _ hk => hk.2.2.1)); first | exact e_ | (rw [add_block]; exact e_) | (dsimp only; exact e_)) _).trans (((cell_far (p := ⟨gb319, _, none⟩) (by have e_ := Kd.own_blk (Kd.N_away HO358.out (fun _ hk => hk.2.2.1)); first | exact e_ | (rw [add_block]; exact e_) | (dsimp only; exact e_)) _).trans (hHeld.2.2.1)))))))))))))))), ((cell_far (p := ⟨gb319, _, none⟩) (by have e_ := Kd.own_blk (Kd.N_away HO358.out (fun _ hk => hk.2.2.1)); first | exact e_ | (rw [add_block]; exact e_) | (dsimp only; exact e_)) _).trans (((cell_far (p := ⟨gb319, _, none⟩) (by have e_ := Kd.own_blk (Kd.N_away HO358.out (fun _ hk => hk.2.2.1)); first | exact e_ | (rw [add_block]; exact e_) | (dsimp only; exact e_)) _).trans (((cell_far (p := ⟨gb319, _, none⟩) (by have e_ := Kd.own_blk (Kd.N_away HO358.out (fun _ hk => hk.2.2.1)); first | exact e_ | (rw [add_block]; exact e_) | (dsimp only; exact e_)) _).trans (((cell_far (p := ⟨gb319, _, none⟩) (by have e_ := Kd.own_blk (Kd.N_away HO358.out (fun _ hk => hk.2.2.1)); first | exact e_ | (rw [add_block]; exact e_) | (dsimp only; exact e_)) _).trans (((cell_far (p := ⟨gb319, _, none⟩) (by have e_ := Kd.own_blk (Kd.N_away HO358.out (fun _ hk => hk.2.2.1)); first | exact e_ | (rw [add_block]; exact e_) | (dsimp only; exact e_)) _).trans (((cell_far (p := ⟨gb319, _, none⟩) (by have e_ := Kd.own_blk (Kd.N_away HO358.out (fun _ hk => hk.2.2.1)); first | exact e_ | (rw [add_block]; exact e_) | (dsimp only; exact e_)) _).trans (((cell_far (p := ⟨gb319, _, none⟩) (by have e_ := Kd.own_blk (Kd.N_away HO358.out (fun _ hk => hk.2.2.1)); first | exact e_ | (rw [add_block]; exact e_) | (dsimp only; exact e_)) _).trans (((cell_far (p := ⟨gb319, _, none⟩) (by have e_ := Kd.own_blk (Kd.N_away HO358.out (fun _ hk => hk.2.2.1)); first | exact e_ | (rw [add_block]; exact e_) | (dsimp only; exact e_)) _).trans (hHeld.2.2.2.1)))))))))))))))), ((cell_far (p := ⟨gb319, _, none⟩) (by have e_ := Kd.own_blk (Kd.N_away HO358.out (fun _ hk => hk.2.2.1)); first | exact e_ | (rw [add_block]; exact e_) | (dsimp only; exact e_)) _).trans (((cell_far (p := ⟨gb319, _, none⟩) (by have e_ := Kd.own_blk (Kd.N_away HO358.out (fun _ hk => hk.2.2.1)); first | exact e_ | (rw [add_block]; exact e_) | (dsimp only; exact e_)) _).trans (((cell_far (p := ⟨gb319, _, none⟩) (by have e_ := Kd.own_blk (Kd.N_away HO358.out (fun _ hk => hk.2.2.1)); first | exact e_ | (rw [add_block]; exact e_) | (dsimp only; exact e_)) _).trans (((cell_far (p := ⟨gb319, _, none⟩) (by have e_ := Kd.own_blk (Kd.N_away HO358.out (fun _ hk => hk.2.2.1)); first | exact e_ | (rw [add_block]; exact e_) | (dsimp only; exact e_)) _).trans (((cell_far (p := ⟨gb319, _, none⟩) (by have e_ := Kd.own_blk (Kd.N_away HO358.out (fun _ hk => hk.2.2.1)); first | exact e_ | (rw [add_block]; exact e_) | (dsimp only; exact e_)) _).trans (((cell_far (p := ⟨gb319, _, none⟩) (by have e_ := Kd.own_blk (Kd.N_away HO358.out (fun _ hk => hk.2.2.1)); first | exact e_ | (rw [add_block]; exact e_) | (dsimp only; exact e_)) _).trans (((cell_far (p := ⟨gb319, _, none⟩) (by have e_ := Kd.own_blk (Kd.N_away HO358.out (fun _ hk => hk.2.2.1)); first | exact e_ | (rw [add_block]; exact e_) | (dsimp only; exact e_)) _).trans (((cell_far (p := ⟨gb319, _, none⟩) (by have e_ := Kd.own_blk (Kd.N_away HO358.out (fun _ hk => hk.2.2.1)); first | exact e_ | (rw [add_block]; exact e_) | (dsimp only; exact e_)) _).trans (hHeld.2.2.2.2.1)))))))))))))))), ((cell_far (p := ⟨gb319, _, none⟩) (by have e_ := Kd.own_blk (Kd.N_away HO358.out (fun _ hk => hk.2.2.1)); first | exact e_ | (rw [add_block]; exact e_) | (dsimp only; exact e_)) _).trans (((cell_far (p := ⟨gb319, _, none⟩) (by have e_ := Kd.own_blk (Kd.N_away HO358.out (fun _ hk => hk.2.2.1)); first | exact e_ | (rw [add_block]; exact e_) | (dsimp only; exact e_)) _).trans (((cell_far (p := ⟨gb319, _, none⟩) (by have e_ := Kd.own_blk (Kd.N_away HO358.out (fun _ hk => hk.2.2.1)); first | exact e_ | (rw [add_block]; exact e_) | (dsimp only; exact e_)) _).trans (((cell_far (p := ⟨gb319, _, none⟩) (by have e_ := Kd.own_blk (Kd.N_away HO358.out (fun _ hk => hk.2.2.1)); first | exact e_ | (rw [add_block]; exact e_) | (dsimp only; exact e_)) _).trans (((cell_far (p := ⟨gb319, _, none⟩) (by have e_ := Kd.own_blk (Kd.N_away HO358.out (fun _ hk => hk.2.2.1)); first | exact e_ | (rw [add_block]; exact e_) | (dsimp only; exact e_)) _).trans (((cell_far (p := ⟨gb319, _, none⟩) (by have e_ := Kd.own_blk (Kd.N_away HO358.out (fun _ hk => hk.2.2.1)); first | exact e_ | (rw [add_block]; exact e_) | (dsimp only; exact e_)) _).trans (((cell_far (p := ⟨gb319, _, none⟩) (by have e_ := Kd.own_blk (Kd.N_away HO358.out (fun _ hk => hk.2.2.1)); first | exact e_ | (rw [add_block]; exact e_) | (dsimp only; exact e_)) _).trans (((cell_far (p := ⟨gb319, _, none⟩) (by have e_ := Kd.own_blk (Kd.N_away HO358.out (fun _ hk => hk.2.2.1)); first | exact e_ | (rw [add_block]; exact e_) | (dsimp only; exact e_)) _).trans (hHeld.2.2.2.2.2.1)))))))))))))))), ((cell_far (p := ⟨gb319, _, none⟩) (by have e_ := Kd.own_blk (Kd.N_away HO358.out (fun _ hk => hk.2.2.1)); first | exact e_ | (rw [add_block]; exact e_) | (dsimp only; exact e_)) _).trans (((cell_far (p := ⟨gb319, _, none⟩) (by have e_ := Kd.own_blk (Kd.N_away HO358.out (fun _ hk => hk.2.2.1)); first | exact e_ | (rw [add_block]; exact e_) | (dsimp only; exact e_)) _).trans (((cell_far (p := ⟨gb319, _, none⟩) (by have e_ := Kd.own_blk (Kd.N_away HO358.out (fun _ hk => hk.2.2.1)); first | exact e_ | (rw [add_block]; exact e_) | (dsimp only; exact e_)) _).trans (((cell_far (p := ⟨gb319, _, none⟩) (by have e_ := Kd.own_blk (Kd.N_away HO358.out (fun _ hk => hk.2.2.1)); first | exact e_ | (rw [add_block]; exact e_) | (dsimp only; exact e_)) _).trans (((cell_far (p := ⟨gb319, _, none⟩) (by have e_ := Kd.own_blk (Kd.N_away HO358.out (fun _ hk => hk.2.2.1)); first | exact e_ | (rw [add_block]; exact e_) | (dsimp only; exact e_)) _).trans (((cell_far (p := ⟨gb319, _, none⟩) (by have e_ := Kd.own_blk (Kd.N_away HO358.out (fun _ hk => hk.2.2.1)); first | exact e_ | (rw [add_block]; exact e_) | (dsimp only; exact e_)) _).trans (((cell_far (p := ⟨gb319, _, none⟩) (by have e_ := Kd.own_blk (Kd.N_away HO358.out (fun _ hk => hk.2.2.1)); first | exact e_ | (rw [add_block]; exact e_) | (dsimp only; exact e_)) _).trans (((cell_far (p := ⟨gb319, _, none⟩) (by have e_ := Kd.own_blk (Kd.N_away HO358.out (fun _ hk => hk.2.2.1)); first | exact e_ | (rw [add_block]; exact e_) | (dsimp only; exact e_)) _).trans (hHeld.2.2.2.2.2.2.1)))))))))))))))), ((cell_far (p := ⟨gb319, _, none⟩) (by have e_ := Kd.own_blk (Kd.N_away HO358.out (fun _ hk => hk.2.2.1)); first | exact e_ | (rw [add_block]; exact e_) | (dsimp only; exact e_)) _).trans (((cell_far (p := ⟨gb319, _, none⟩) (by have e_ := Kd.own_blk (Kd.N_away HO358.out (fun _ hk => hk.2.2.1)); first | exact e_ | (rw [add_block]; exact e_) | (dsimp only; exact e_)) _).trans (((cell_far (p := ⟨gb319, _, none⟩) (by have e_ := Kd.own_blk (Kd.N_away HO358.out (fun _ hk => hk.2.2.1)); first | exact e_ | (rw [add_block]; exact e_) | (dsimp only; exact e_)) _).trans (((cell_far (p := ⟨gb319, _, none⟩) (by have e_ := Kd.own_blk (Kd.N_away HO358.out (fun _ hk => hk.2.2.1)); first | exact e_ | (rw [add_block]; exact e_) | (dsimp only; exact e_)) _).trans (((cell_far (p := ⟨gb319, _, none⟩) (by have e_ := Kd.own_blk (Kd.N_away HO358.out (fun _ hk => hk.2.2.1)); first | exact e_ | (rw [add_block]; exact e_) | (dsimp only; exact e_)) _).trans (((cell_far (p := ⟨gb319, _, none⟩) (by have e_ := Kd.own_blk (Kd.N_away HO358.out (fun _ hk => hk.2.2.1)); first | exact e_ | (rw [add_block]; exact e_) | (dsimp only; exact e_)) _).trans (((cell_far (p := ⟨gb319, _, none⟩) (by have e_ := Kd.own_blk (Kd.N_away HO358.out (fun _ hk => hk.2.2.1)); first | exact e_ | (rw [add_block]; exact e_) | (dsimp only; exact e_)) _).trans (((cell_far (p := ⟨gb319, _, none⟩) (by have e_ := Kd.own_blk (Kd.N_away HO358.out (fun _ hk => hk.2.2.1)); first | exact e_ | (rw [add_block]; exact e_) | (dsimp only; exact e_)) _).trans (hHeld.2.2.2.2.2.2.2.1)))))))))))))))), ((cell_far (p := ⟨gb319, _, none⟩) (by have e_ := Kd.own_blk (Kd.N_away HO358.out (fun _ hk => hk.2.2.1)); first | exact e_ | (rw [add_block]; exact e_) | (dsimp only; exact e_)) _).trans (((cell_far (p := ⟨gb319, _, none⟩) (by have e_ := Kd.own_blk (Kd.N_away HO358.out (fun _ hk => hk.2.2.1)); first | exact e_ | (rw [add_block]; exact e_) | (dsimp only; exact e_)) _).trans (((cell_far (p := ⟨gb319, _, none⟩) (by have e_ := Kd.own_blk (Kd.N_away HO358.out (fun _ hk => hk.2.2.1)); first | exact e_ | (rw [add_block]; exact e_) | (dsimp only; exact e_)) _).trans (((cell_far (p := ⟨gb319, _, none⟩) (by have e_ := Kd.own_blk (Kd.N_away HO358.out (fun _ hk => hk.2.2.1)); first | exact e_ | (rw [add_block]; exact e_) | (dsimp only; exact e_)) _).trans (((cell_far (p := ⟨gb319, _, none⟩) (by have e_ := Kd.own_blk (Kd.N_away HO358.out (fun _ hk => hk.2.2.1)); first | exact e_ | (rw [add_block]; exact e_) | (dsimp only; exact e_)) _).trans (((cell_far (p := ⟨gb319, _, none⟩) (by have e_ := Kd.own_blk (Kd.N_away HO358.out (fun _ hk => hk.2.2.1)); first | exact e_ | (rw [add_block]; exact e_) | (dsimp only; exact e_)) _).trans (((cell_far (p := ⟨gb319, _, none⟩) (by have e_ := Kd.own_blk (Kd.N_away HO358.out (fun _ hk => hk.2.2.1)); first | exact e_ | (rw [add_block]; exact e_) | (dsimp only; exact e_)) _).trans (((cell_far (p := ⟨gb319, _, none⟩) (by have e_ := Kd.own_blk (Kd.N_away HO358.out (fun _ hk => hk.2.2.1)); first | exact e_ | (rw [add_block]; exact e_) | (dsimp only; exact e_)) _).trans (hHeld.2.2.2.2.2.2.2.2.1)))))))))))))))), ((cell_far (p := ⟨gb319, _, none⟩) (by have e_ := Kd.own_blk (Kd.N_away HO358.out (fun _ hk => hk.2.2.1)); first | exact e_ | (rw [add_block]; exact e_) | (dsimp only; exact e_)) _).trans (((cell_far (p := ⟨gb319, _, none⟩) (by have e_ := Kd.own_blk (Kd.N_away HO358.out (fun _ hk => hk.2.2.1)); first | exact e_ | (rw [add_block]; exact e_) | (dsimp only; exact e_)) _).trans (((cell_far (p := ⟨gb319, _, none⟩) (by have e_ := Kd.own_blk (Kd.N_away HO358.out (fun _ hk => hk.2.2.1)); first | exact e_ | (rw [add_block]; exact e_) | (dsimp only; exact e_)) _).trans (((cell_far (p := ⟨gb319, _, none⟩) (by have e_ := Kd.own_blk (Kd.N_away HO358.out (fun _ hk => hk.2.2.1)); first | exact e_ | (rw [add_block]; exact e_) | (dsimp only; exact e_)) _).trans (((cell_far (p := ⟨gb319, _, none⟩) (by have e_ := Kd.own_blk (Kd.N_away HO358.out (fun _ hk => hk.2.2.1)); first | exact e_ | (rw [add_block]; exact e_) | (dsimp only; exact e_)) _).trans (((cell_far (p := ⟨gb319, _, none⟩) (by have e_ := Kd.own_blk (Kd.N_away HO358.out (fun _ hk => hk.2.2.1)); first | exact e_ | (rw [add_block]; exact e_) | (dsimp only; exact e_)) _).trans (((cell_far (p := ⟨gb319, _, none⟩) (by have e_ := Kd.own_blk (Kd.N_away HO358.out (fun _ hk => hk.2.2.1)); first | exact e_ | (rw [add_block]; exact e_) | (dsimp only; exact e_)) _).trans (((cell_far (p := ⟨gb319, _, none⟩) (by have e_ := Kd.own_blk (Kd.N_away HO358.out (fun _ hk => hk.2.2.1)); first | exact e_ | (rw [add_block]; exact e_) | (dsimp only; exact e_)) _).trans (hHeld.2.2.2.2.2.2.2.2.2.1)))))))))))))))), ((cell_far (p := ⟨gb319, _, none⟩) (by have e_ := Kd.own_blk (Kd.N_away HO358.out (fun _ hk => hk.2.2.1)); first | exact e_ | (rw [add_block]; exact e_) | (dsimp only; exact e_)) _).trans (((cell_far (p := ⟨gb319, _, none⟩) (by have e_ := Kd.own_blk (Kd.N_away HO358.out (fun _ hk => hk.2.2.1)); first | exact e_ | (rw [add_block]; exact e_) | (dsimp only; exact e_)) _).trans (((cell_far (p := ⟨gb319, _, none⟩) (by have e_ := Kd.own_blk (Kd.N_away HO358.out (fun _ hk => hk.2.2.1)); first | exact e_ | (rw [add_block]; exact e_) | (dsimp only; exact e_)) _).trans (((cell_far (p := ⟨gb319, _, none⟩) (by have e_ := Kd.own_blk (Kd.N_away HO358.out (fun _ hk => hk.2.2.1)); first | exact e_ | (rw [add_block]; exact e_) | (dsimp only; exact e_)) _).trans (((cell_far (p := ⟨gb319, _, none⟩) (by have e_ := Kd.own_blk (Kd.N_away HO358.out (fun _ hk => hk.2.2.1)); first | exact e_ | (rw [add_block]; exact e_) | (dsimp only; exact e_)) _).trans (((cell_far (p := ⟨gb319, _, none⟩) (by have e_ := Kd.own_blk (Kd.N_away HO358.out (fun _ hk => hk.2.2.1)); first | exact e_ | (rw [add_block]; exact e_) | (dsimp only; exact e_)) _).trans (((cell_far (p := ⟨gb319, _, none⟩) (by have e_ := Kd.own_blk (Kd.N_away HO358.out (fun _ hk => hk.2.2.1)); first | exact e_ | (rw [add_block]; exact e_) | (dsimp only; exact e_)) _).trans (((cell_far (p := ⟨gb319, _, none⟩) (by have e_ := Kd.own_blk (Kd.N_away HO358.out (fun _ hk => hk.2.2.1)); first | exact e_ | (rw [add_block]; exact e_) | (dsimp only; exact e_)) _).trans (hHeld.2.2.2.2.2.2.2.2.2.2.1)))))))))))))))), ((cell_far (p := ⟨gb319, _, none⟩) (by have e_ := Kd.own_blk (Kd.N_away HO358.out (fun _ hk => hk.2.2.1)); first | exact e_ | (rw [add_block]; exact e_) | (dsimp only; exact e_)) _).trans (((cell_far (p := ⟨gb319, _, none⟩) (by have e_ := Kd.own_blk (Kd.N_away HO358.out (fun _ hk => hk.2.2.1)); first | exact e_ | (rw [add_block]; exact e_) | (dsimp only; exact e_)) _).trans (((cell_far (p := ⟨gb319, _, none⟩) (by have e_ := Kd.own_blk (Kd.N_away HO358.out (fun _ hk => hk.2.2.1)); first | exact e_ | (rw [add_block]; exact e_) | (dsimp only; exact e_)) _).trans (((cell_far (p := ⟨gb319, _, none⟩) (by have e_ := Kd.own_blk (Kd.N_away HO358.out (fun _ hk => hk.2.2.1)); first | exact e_ | (rw [add_block]; exact e_) | (dsimp only; exact e_)) _).trans (((cell_far (p := ⟨gb319, _, none⟩) (by have e_ := Kd.own_blk (Kd.N_away HO358.out (fun _ hk => hk.2.2.1)); first | exact e_ | (rw [add_block]; exact e_) | (dsimp only; exact e_)) _).trans (((cell_far (p := ⟨gb319, _, none⟩) (by have e_ := Kd.own_blk (Kd.N_away HO358.out (fun _ hk => hk.2.2.1)); first | exact e_ | (rw [add_block]; exact e_) | (dsimp only; exact e_)) _).trans (((cell_far (p := ⟨gb319, _, none⟩) (by have e_ := Kd.own_blk (Kd.N_away HO358.out (fun _ hk => hk.2.2.1)); first | exact e_ | (rw [add_block]; exact e_) | (dsimp only; exact e_)) _).trans (((cell_far (p := ⟨gb319, _, none⟩) (by have e_ := Kd.own_blk (Kd.N_away HO358.out (fun _ hk => hk.2.2.1)); first | exact e_ | (rw [add_block]; exact e_) | (dsimp only; exact e_)) _).trans (hHeld.2.2.2.2.2.2.2.2.2.2.2.1)))))))))))))))), ((cell_far (p := ⟨gb319, _, none⟩) (by have e_ := Kd.own_blk (Kd.N_away HO358.out (fun _ hk => hk.2.2.1)); first | exact e_ | (rw [add_block]; exact e_) | (dsimp only; exact e_)) _).trans (((cell_far (p := ⟨gb319, _, none⟩) (by have e_ := Kd.own_blk (Kd.N_away HO358.out (fun _ hk => hk.2.2.1)); first | exact e_ | (rw [add_block]; exact e_) | (dsimp only; exact e_)) _).trans (((cell_far (p := ⟨gb319, _, none⟩) (by have e_ := Kd.own_blk (Kd.N_away HO358.out (fun _ hk => hk.2.2.1)); first | exact e_ | (rw [add_block]; exact e_) | (dsimp only; exact e_)) _).trans (((cell_far (p := ⟨gb319, _, none⟩) (by have e_ := Kd.own_blk (Kd.N_away HO358.out (fun _ hk => hk.2.2.1)); first | exact e_ | (rw [add_block]; exact e_) | (dsimp only; exact e_)) _).trans (((cell_far (p := ⟨gb319, _, none⟩) (by have e_ := Kd.own_blk (Kd.N_away HO358.out (fun _ hk => hk.2.2.1)); first | exact e_ | (rw [add_block]; exact e_) | (dsimp only; exact e_)) _).trans (((cell_far (p := ⟨gb319, _, none⟩) (by have e_ := Kd.own_blk (Kd.N_away HO358.out (fun _ hk => hk.2.2.1)); first | exact e_ | (rw [add_block]; exact e_) | (dsimp only; exact e_)) _).trans (((cell_far (p := ⟨gb319, _, none⟩) (by have e_ := Kd.own_blk (Kd.N_away HO358.out (fun _ hk => hk.2.2.1)); first | exact e_ | (rw [add_block]; exact e_) | (dsimp only; exact e_)) _).trans (((cell_far (p := ⟨gb319, _, none⟩) (by have e_ := Kd.own_blk (Kd.N_away HO358.out (fun _ hk => hk.2.2.1)); first | exact e_ | (rw [add_block]; exact e_) | (dsimp only; exact e_)) _).trans (hHeld.2.2.2.2.2.2.2.2.2.2.2.2.1)))))))))))))))), ((cell_far (p := ⟨gb319, _, none⟩) (by have e_ := Kd.own_blk (Kd.N_away HO358.out (fun _ hk => hk.2.2.1)); first | exact e_ | (rw [add_block]; exact e_) | (dsimp only; exact e_)) _).trans (((cell_far (p := ⟨gb319, _, none⟩) (by have e_ := Kd.own_blk (Kd.N_away HO358.out (fun _ hk => hk.2.2.1)); first | exact e_ | (rw [add_block]; exact e_) | (dsimp only; exact e_)) _).trans (((cell_far (p := ⟨gb319, _, none⟩) (by have e_ := Kd.own_blk (Kd.N_away HO358.out (fun _ hk => hk.2.2.1)); first | exact e_ | (rw [add_block]; exact e_) | (dsimp only; exact e_)) _).trans (((cell_far (p := ⟨gb319, _, none⟩) (by have e_ := Kd.own_blk (Kd.N_away HO358.out (fun _ hk => hk.2.2.1)); first | exact e_ | (rw [add_block]; exact e_) | (dsimp only; exact e_)) _).trans (((cell_far (p := ⟨gb319, _, none⟩) (by have e_ := Kd.own_blk (Kd.N_away HO358.out (fun _ hk => hk.2.2.1)); first | exact e_ | (rw [add_block]; exact e_) | (dsimp only; exact e_)) _).trans (((cell_far (p := ⟨gb319, _, none⟩) (by have e_ := Kd.own_blk (Kd.N_away HO358.out (fun _ hk => hk.2.2.1)); first | exact e_ | (rw [add_block]; exact e_) | (dsimp only; exact e_)) _).trans (((cell_far (p := ⟨gb319, _, none⟩) (by have e_ := Kd.own_blk (Kd.N_away HO358.out (fun _ hk => hk.2.2.1)); first | exact e_ | (rw [add_block]; exact e_) | (dsimp only; exact e_)) _).trans (((cell_far (p := ⟨gb319, _, none⟩) (by have e_ := Kd.own_blk (Kd.N_away HO358.out (fun _ hk => hk.2.2.1)); first | exact e_ | (rw [add_block]; exact e_) | (dsimp only; exact e_)) _).trans (hHeld.2.2.2.2.2.2.2.2.2.2.2.2.2.1)))))))))))))))), ((cell_far (p := ⟨gb319, _, none⟩) (by have e_ := Kd.own_blk (Kd.N_away HO358.out (fun _ hk => hk.2.2.1)); first | exact e_ | (rw [add_block]; exact e_) | (dsimp only; exact e_)) _).trans (((cell_far (p := ⟨gb319, _, none⟩) (by have e_ := Kd.own_blk (Kd.N_away HO358.out (fun _ hk => hk.2.2.1)); first | exact e_ | (rw [add_block]; exact e_) | (dsimp only; exact e_)) _).trans (((cell_far (p := ⟨gb319, _, none⟩) (by have e_ := Kd.own_blk (Kd.N_away HO358.out (fun _ hk => hk.2.2.1)); first | exact e_ | (rw [add_block]; exact e_) | (dsimp only; exact e_)) _).trans (((cell_far (p := ⟨gb319, _, none⟩) (by have e_ := Kd.own_blk (Kd.N_away HO358.out (fun _ hk => hk.2.2.1)); first | exact e_ | (rw [add_block]; exact e_) | (dsimp only; exact e_)) _).trans (((cell_far (p := ⟨gb319, _, none⟩) (by have e_ := Kd.own_blk (Kd.N_away HO358.out (fun _ hk => hk.2.2.1)); first | exact e_ | (rw [add_block]; exact e_) | (dsimp only; exact e_)) _).trans (((cell_far (p := ⟨gb319, _, none⟩) (by have e_ := Kd.own_blk (Kd.N_away HO358.out (fun _ hk => hk.2.2.1)); first | exact e_ | (rw [add_block]; exact e_) | (dsimp only; exact e_)) _).trans (((cell_far (p := ⟨gb319, _, none⟩) (by have e_ := Kd.own_blk (Kd.N_away HO358.out (fun _ hk => hk.2.2.1)); first | exact e_ | (rw [add_block]; exact e_) | (dsimp only; exact e_)) _).trans (((cell_far (p := ⟨gb319, _, none⟩) (by have e_ := Kd.own_blk (Kd.N_away HO358.out (fun _ hk => hk.2.2.1)); first | exact e_ | (rw [add_block]; exact e_) | (dsimp only; exact e_)) _).trans (hHeld.2.2.2.2.2.2.2.2.2.2.2.2.2.2.1)))))))))))))))), ((cell_far (p := ⟨gb319, _, none⟩) (by have e_ := Kd.own_blk (Kd.N_away HO358.out (fun _ hk => hk.2.2.1)); first | exact e_ | (rw [add_block]; exact e_) | (dsimp only; exact e_)) _).trans (((cell_far (p := ⟨gb319, _, none⟩) (by have e_ := Kd.own_blk (Kd.N_away HO358.out (fun _ hk => hk.2.2.1)); first | exact e_ | (rw [add_block]; exact e_) | (dsimp only; exact e_)) _).trans (((cell_far (p := ⟨gb319, _, none⟩) (by have e_ := Kd.own_blk (Kd.N_away HO358.out (fun _ hk => hk.2.2.1)); first | exact e_ | (rw [add_block]; exact e_) | (dsimp only; exact e_)) _).trans (((cell_far (p := ⟨gb319, _, none⟩) (by have e_ := Kd.own_blk (Kd.N_away HO358.out (fun _ hk => hk.2.2.1)); first | exact e_ | (rw [add_block]; exact e_) | (dsimp only; exact e_)) _).trans (((cell_far (p := ⟨gb319, _, none⟩) (by have e_ := Kd.own_blk (Kd.N_away HO358.out (fun _ hk => hk.2.2.1)); first | exact e_ | (rw [add_block]; exact e_) | (dsimp only; exact e_)) _).trans (((cell_far (p := ⟨gb319, _, none⟩) (by have e_ := Kd.own_blk (Kd.N_away HO358.out (fun _ hk => hk.2.2.1)); first | exact e_ | (rw [add_block]; exact e_) | (dsimp only; exact e_)) _).trans (((cell_far (p := ⟨gb319, _, none⟩) (by have e_ := Kd.own_blk (Kd.N_away HO358.out (fun _ hk => hk.2.2.1)); first | exact e_ | (rw [add_block]; exact e_) | (dsimp only; exact e_)) _).trans (((cell_far (p := ⟨gb319, _, none⟩) (by have e_ := Kd.own_blk (Kd.N_away HO358.out (fun _ hk => hk.2.2.1)); first | exact e_ | (rw [add_block]; exact e_) | (dsimp only; exact e_)) _).trans (hHeld.2.2.2.2.2.2.2.2.2.2.2.2.2.2.2))))))))))))))))⟩ (fun hHeld => ?_)
    clear hK K
    refine done_ (done_of HT_.out (by kernel_rfl)) ?_
    try go_wp2
    refine bodyPost_ret (results_cc rfl _ _ gb318 gb319 29 29 #[.int .i64 ((rd_T29 y356 0).f0), .int .i64 ((rd_T29 y356 0).f1), .int .i64 ((rd_T29 y356 0).f2), .int .i64 ((rd_T29 y356 0).f3), .int .i64 ((rd_T29 y356 0).f4), .int .i64 ((rd_T29 y356 0).f5), .int .i64 ((rd_T29 y356 0).f6), .slice A359_7 ((rd_T29 y356 0).f7).length c359_7] #[.int .i64 ((rd_T29 y356 1).f0), .int .i64 ((rd_T29 y356 1).f1), .int .i64 ((rd_T29 y356 1).f2), .int .i64 ((rd_T29 y356 1).f3), .int .i64 ((rd_T29 y356 1).f4), .int .i64 ((rd_T29 y356 1).f5), .int .i64 ((rd_T29 y356 1).f6), .slice A360_7 ((rd_T29 y356 1).f7).length c360_7] (0, 0) (0, 0) _ _ rfl (by (repeat apply bX); refine blk_far ?_ NB318_319.out _; (repeat apply bX); refine blk_far ?_ NB318_319.out _; (repeat apply bX); refine blk_far ?_ NB318_319.out _; (repeat apply bX); refine blk_far ?_ NB318_319.out _; (repeat apply bX); refine blk_far ?_ NB318_319.out _; (repeat apply bX); refine blk_far ?_ NB318_319.out _; (repeat apply bX); refine blk_far ?_ NB318_319.out _; (repeat apply bX); refine blk_far ?_ NB318_319.out _; (repeat apply bX); refine blk_put (cs := #[.int .i64 ((rd_T29 y356 0).f0), .int .i64 ((rd_T29 y356 0).f1), .int .i64 ((rd_T29 y356 0).f2), .int .i64 ((rd_T29 y356 0).f3), .int .i64 ((rd_T29 y356 0).f4), .int .i64 ((rd_T29 y356 0).f5), .int .i64 ((rd_T29 y356 0).f6), .slice none 0 0]) ?_ 7 _ rfl; (repeat apply bX); refine blk_put (cs := #[.int .i64 ((rd_T29 y356 0).f0), .int .i64 ((rd_T29 y356 0).f1), .int .i64 ((rd_T29 y356 0).f2), .int .i64 ((rd_T29 y356 0).f3), .int .i64 ((rd_T29 y356 0).f4), .int .i64 ((rd_T29 y356 0).f5), .int .i64 0, .slice none 0 0]) ?_ 6 _ rfl; (repeat apply bX); refine blk_put (cs := #[.int .i64 ((rd_T29 y356 0).f0), .int .i64 ((rd_T29 y356 0).f1), .int .i64 ((rd_T29 y356 0).f2), .int .i64 ((rd_T29 y356 0).f3), .int .i64 ((rd_T29 y356 0).f4), .int .i64 0, .int .i64 0, .slice none 0 0]) ?_ 5 _ rfl; (repeat apply bX); refine blk_put (cs := #[.int .i64 ((rd_T29 y356 0).f0), .int .i64 ((rd_T29 y356 0).f1), .int .i64 ((rd_T29 y356 0).f2), .int .i64 ((rd_T29 y356 0).f3), .int .i64 0, .int .i64 0, .int .i64 0, .slice none 0 0]) ?_ 4 _ rfl; (repeat apply bX); refine blk_put (cs := #[.int .i64 ((rd_T29 y356 0).f0), .int .i64 ((rd_T29 y356 0).f1), .int .i64 ((rd_T29 y356 0).f2), .int .i64 0, .int .i64 0, .int .i64 0, .int .i64 0, .slice none 0 0]) ?_ 3 _ rfl; (repeat apply bX); refine blk_put (cs := #[.int .i64 ((rd_T29 y356 0).f0), .int .i64 ((rd_T29 y356 0).f1), .int .i64 0, .int .i64 0, .int .i64 0, .int .i64 0, .int .i64 0, .slice none 0 0]) ?_ 2 _ rfl; (repeat apply bX); refine blk_put (cs := #[.int .i64 ((rd_T29 y356 0).f0), .int .i64 0, .int .i64 0, .int .i64 0, .int .i64 0, .int .i64 0, .int .i64 0, .slice none 0 0]) ?_ 1 _ rfl; (repeat apply bX); refine blk_put (cs := #[.int .i64 0, .int .i64 0, .int .i64 0, .int .i64 0, .int .i64 0, .int .i64 0, .int .i64 0, .slice none 0 0]) ?_ 0 _ rfl; (repeat apply bX); exact BK318.out) Try.underlying29 rfl (by kernel_rfl) rfl (by (repeat apply bX); refine blk_put (cs := #[.int .i64 ((rd_T29 y356 1).f0), .int .i64 ((rd_T29 y356 1).f1), .int .i64 ((rd_T29 y356 1).f2), .int .i64 ((rd_T29 y356 1).f3), .int .i64 ((rd_T29 y356 1).f4), .int .i64 ((rd_T29 y356 1).f5), .int .i64 ((rd_T29 y356 1).f6), .slice none 0 0]) ?_ 7 _ rfl; (repeat apply bX); refine blk_put (cs := #[.int .i64 ((rd_T29 y356 1).f0), .int .i64 ((rd_T29 y356 1).f1), .int .i64 ((rd_T29 y356 1).f2), .int .i64 ((rd_T29 y356 1).f3), .int .i64 ((rd_T29 y356 1).f4), .int .i64 ((rd_T29 y356 1).f5), .int .i64 0, .slice none 0 0]) ?_ 6 _ rfl; (repeat apply bX); refine blk_put (cs := #[.int .i64 ((rd_T29 y356 1).f0), .int .i64 ((rd_T29 y356 1).f1), .int .i64 ((rd_T29 y356 1).f2), .int .i64 ((rd_T29 y356 1).f3), .int .i64 ((rd_T29 y356 1).f4), .int .i64 0, .int .i64 0, .slice none 0 0]) ?_ 5 _ rfl; (repeat apply bX); refine blk_put (cs := #[.int .i64 ((rd_T29 y356 1).f0), .int .i64 ((rd_T29 y356 1).f1), .int .i64 ((rd_T29 y356 1).f2), .int .i64 ((rd_T29 y356 1).f3), .int .i64 0, .int .i64 0, .int .i64 0, .slice none 0 0]) ?_ 4 _ rfl; (repeat apply bX); refine blk_put (cs := #[.int .i64 ((rd_T29 y356 1).f0), .int .i64 ((rd_T29 y356 1).f1), .int .i64 ((rd_T29 y356 1).f2), .int .i64 0, .int .i64 0, .int .i64 0, .int .i64 0, .slice none 0 0]) ?_ 3 _ rfl; (repeat apply bX); refine blk_put (cs := #[.int .i64 ((rd_T29 y356 1).f0), .int .i64 ((rd_T29 y356 1).f1), .int .i64 0, .int .i64 0, .int .i64 0, .int .i64 0, .int .i64 0, .slice none 0 0]) ?_ 2 _ rfl; (repeat apply bX); refine blk_put (cs := #[.int .i64 ((rd_T29 y356 1).f0), .int .i64 0, .int .i64 0, .int .i64 0, .int .i64 0, .int .i64 0, .int .i64 0, .slice none 0 0]) ?_ 1 _ rfl; (repeat apply bX); refine blk_put (cs := #[.int .i64 0, .int .i64 0, .int .i64 0, .int .i64 0, .int .i64 0, .int .i64 0, .int .i64 0, .slice none 0 0]) ?_ 0 _ rfl; (repeat apply bX); refine blk_far ?_ NB319_318.out _; (repeat apply bX); refine blk_far ?_ NB319_318.out _; (repeat apply bX); refine blk_far ?_ NB319_318.out _; (repeat apply bX); refine blk_far ?_ NB319_318.out _; (repeat apply bX); refine blk_far ?_ NB319_318.out _; (repeat apply bX); refine blk_far ?_ NB319_318.out _; (repeat apply bX); refine blk_far ?_ NB319_318.out _; (repeat apply bX); refine blk_far ?_ NB319_318.out _; (repeat apply bX); exact BK319.out) Try.underlying29 rfl (by kernel_rfl)) rfl ?_
    exact ⟨_, _, by first | rfl | (simp [errW_none, errW_some] <;> rfl) | (simp [*, errW_none, errW_some] <;> rfl), by (with_reducible repeat (first | apply Kd.V_alloc | apply Kd.V_drewN | apply Kd.V_drew)); exact Kd.V_mono (Kd.V_far (p := ⟨gb319, 7, none⟩) (Kd.V_far (p := ⟨gb319, 6, none⟩) (Kd.V_far (p := ⟨gb319, 5, none⟩) (Kd.V_far (p := ⟨gb319, 4, none⟩) (Kd.V_far (p := ⟨gb319, 3, none⟩) (Kd.V_far (p := ⟨gb319, 2, none⟩) (Kd.V_far (p := ⟨gb319, 1, none⟩) (Kd.V_far (p := ⟨gb319, 0, none⟩) (Kd.V_far (p := ⟨gb318, 7, none⟩) (Kd.V_far (p := ⟨gb318, 6, none⟩) (Kd.V_far (p := ⟨gb318, 5, none⟩) (Kd.V_far (p := ⟨gb318, 4, none⟩) (Kd.V_far (p := ⟨gb318, 3, none⟩) (Kd.V_far (p := ⟨gb318, 2, none⟩) (Kd.V_far (p := ⟨gb318, 1, none⟩) (Kd.V_far (p := ⟨gb318, 0, none⟩) (Kd.V_mono (Kd.V_mono HL359_7.out (fun k_ hk => (⟨hk, hk.1.2.1⟩ : _ ∧ k_ ≠ gb318))) (fun k_ hk => (⟨hk, hk.1.1.2.2.1⟩ : _ ∧ k_ ≠ gb319))) (fun _ hk => hk.1.2) (.int .i64 ((rd_T29 y356 0).f0))) (fun _ hk => hk.1.2) (.int .i64 ((rd_T29 y356 0).f1))) (fun _ hk => hk.1.2) (.int .i64 ((rd_T29 y356 0).f2))) (fun _ hk => hk.1.2) (.int .i64 ((rd_T29 y356 0).f3))) (fun _ hk => hk.1.2) (.int .i64 ((rd_T29 y356 0).f4))) (fun _ hk => hk.1.2) (.int .i64 ((rd_T29 y356 0).f5))) (fun _ hk => hk.1.2) (.int .i64 ((rd_T29 y356 0).f6))) (fun _ hk => hk.1.2) (.slice A359_7 ((rd_T29 y356 0).f7).length c359_7)) (fun _ hk => hk.2) (.int .i64 ((rd_T29 y356 1).f0))) (fun _ hk => hk.2) (.int .i64 ((rd_T29 y356 1).f1))) (fun _ hk => hk.2) (.int .i64 ((rd_T29 y356 1).f2))) (fun _ hk => hk.2) (.int .i64 ((rd_T29 y356 1).f3))) (fun _ hk => hk.2) (.int .i64 ((rd_T29 y356 1).f4))) (fun _ hk => hk.2) (.int .i64 ((rd_T29 y356 1).f5))) (fun _ hk => hk.2) (.int .i64 ((rd_T29 y356 1).f6))) (fun _ hk => hk.2) (.slice A360_7 ((rd_T29 y356 1).f7).length c360_7)) (fun _ hk => hk.1.1.1.1), by (with_reducible repeat (first | apply Kd.V_alloc | apply Kd.V_drewN | apply Kd.V_drew)); exact Kd.V_mono (Kd.V_far (p := ⟨gb319, 7, none⟩) (Kd.V_far (p := ⟨gb319, 6, none⟩) (Kd.V_far (p := ⟨gb319, 5, none⟩) (Kd.V_far (p := ⟨gb319, 4, none⟩) (Kd.V_far (p := ⟨gb319, 3, none⟩) (Kd.V_far (p := ⟨gb319, 2, none⟩) (Kd.V_far (p := ⟨gb319, 1, none⟩) (Kd.V_far (p := ⟨gb319, 0, none⟩) (Kd.V_far (p := ⟨gb318, 7, none⟩) (Kd.V_far (p := ⟨gb318, 6, none⟩) (Kd.V_far (p := ⟨gb318, 5, none⟩) (Kd.V_far (p := ⟨gb318, 4, none⟩) (Kd.V_far (p := ⟨gb318, 3, none⟩) (Kd.V_far (p := ⟨gb318, 2, none⟩) (Kd.V_far (p := ⟨gb318, 1, none⟩) (Kd.V_far (p := ⟨gb318, 0, none⟩) (Kd.V_mono (Kd.V_mono HL360_7.out (fun k_ hk => (⟨hk, hk.1.2.1⟩ : _ ∧ k_ ≠ gb318))) (fun k_ hk => (⟨hk, hk.1.1.2.2.1⟩ : _ ∧ k_ ≠ gb319))) (fun _ hk => hk.1.2) (.int .i64 ((rd_T29 y356 0).f0))) (fun _ hk => hk.1.2) (.int .i64 ((rd_T29 y356 0).f1))) (fun _ hk => hk.1.2) (.int .i64 ((rd_T29 y356 0).f2))) (fun _ hk => hk.1.2) (.int .i64 ((rd_T29 y356 0).f3))) (fun _ hk => hk.1.2) (.int .i64 ((rd_T29 y356 0).f4))) (fun _ hk => hk.1.2) (.int .i64 ((rd_T29 y356 0).f5))) (fun _ hk => hk.1.2) (.int .i64 ((rd_T29 y356 0).f6))) (fun _ hk => hk.1.2) (.slice A359_7 ((rd_T29 y356 0).f7).length c359_7)) (fun _ hk => hk.2) (.int .i64 ((rd_T29 y356 1).f0))) (fun _ hk => hk.2) (.int .i64 ((rd_T29 y356 1).f1))) (fun _ hk => hk.2) (.int .i64 ((rd_T29 y356 1).f2))) (fun _ hk => hk.2) (.int .i64 ((rd_T29 y356 1).f3))) (fun _ hk => hk.2) (.int .i64 ((rd_T29 y356 1).f4))) (fun _ hk => hk.2) (.int .i64 ((rd_T29 y356 1).f5))) (fun _ hk => hk.2) (.int .i64 ((rd_T29 y356 1).f6))) (fun _ hk => hk.2) (.slice A360_7 ((rd_T29 y356 1).f7).length c360_7)) (fun _ hk => hk.1.1.1.1), by repeat (first | (with_reducible first | exact HB.out | apply below_alloc | apply pw_below_drewN | apply below_drew1 | refine below_set ?_ (IsS72.ge HI323.out) | refine below_set ?_ GE318.out | refine below_set ?_ GE319.out) | exact HB.out)⟩
   ·rw [if_neg c8] at H
    exact absurd H (by simp)
  ·rw [if_neg c7] at H
   exact absurd H (by simp)
 ·rw [if_neg c6] at H
  exact absurd H (by simp)

/-! ### spec_DrawQueue: function 16 -/
def spec_DrawQueue.f (k : Nat) (l0 : List Int) : Option ((List (S29))) := (spec_l01New.f k l0).bind fun bt361 => ((spec_l16Queue.f k bt361.1 bt361.2.1 bt361.2.2).bind fun bt365 => (some bt365.1))
theorem spec_DrawQueue.mono : ∀ a0 k, LeO (spec_DrawQueue.f k a0) (spec_DrawQueue.f (k + 1) a0) := by
 intro a0 k
 unfold spec_DrawQueue.f
 repeat' first
   | (with_reducible exact spec_l01New.mono _ _)
   | (with_reducible exact spec_l16Queue.mono _ _ _ _)
   | (with_reducible exact LeO.refl _)
   | (with_reducible exact LeO.none _)
   | (with_reducible refine LeO.ite ?_ ?_)
   | (with_reducible refine LeO.bind ?_ (fun _ => ?_))
   | exact spec_l01New.mono _ _
   | exact spec_l16Queue.mono _ _ _ _
   | exact LeO.none _
   | refine LeO.ite ?_ ?_
   | refine LeO.bind ?_ (fun _ => ?_)
set_option maxHeartbeats 8000000 in
set_option maxRecDepth 100000 in
theorem spec_DrawQueue.calls (k : Nat) (A0 : Option Addr) (c0 : Nat) (l0 : List Int) (r : List (S29)) (w : World) (hr0 : Kd.C (Kd.int .u8) w A0 l0.length l0) (hc0 : l0.length ≤ c0) (h : spec_DrawQueue.f k l0 = some r) :
  Calls Try.prog 16 #[.slice A0 l0.length c0] w fun e w' => ∃ v0_ : Value, e = .returned (v0_) ∧ Kd.S k29 29 w' w.heap.size (fun _ => True) v0_ r ∧ Below w.heap.size w w' := by
 have HR0 := Aside0.mk hr0
 have HC0 := Aside0.mk hc0
 clear hr0 hc0
 have HB := Aside0.mk (Below.refl w.heap.size w)
 have H : ((spec_l01New.f k l0).bind fun bt361 => ((spec_l16Queue.f k bt361.1 bt361.2.1 bt361.2.2).bind fun bt365 => (some bt365.1))) = some r := h
 clear h
 replace H := Option.bind_eq_some_iff.mp H
 obtain ⟨⟨t361, t362, t363⟩, A20, H⟩ := H
 replace H : ((spec_l16Queue.f k t361 t362 t363).bind fun bt365 => (some bt365.1)) = some r := H
 have A2 := Aside0.mk A20
 clear A20
 replace H := Option.bind_eq_some_iff.mp H
 obtain ⟨⟨t365, t368, t369⟩, A30, H⟩ := H
 replace H : (some t365) = some r := H
 have A3 := Aside0.mk A30
 clear A30
 obtain rfl := Option.some.inj H
 go_enter Try.func16, Try.ntmps16
 go_wp2_with (first | ((with_reducible refine gate_callee (f := 29) rfl ?_); refine goesL_ (some 4) rfl rfl Try.func29 (by kernel_rfl) rfl #[.slice A0 l0.length c0] rfl (by (try simp only [List.map_toArray, List.map_cons, List.map_nil]); first | done | rfl) ?_; (with_reducible refine (spec_l01New.calls k _ _ l0 t361 t362 t363 w _ ?side1 ?side2 ?side3 A2.out).mono ?_); (case side1 => repeat (first | (with_reducible first | exact HB.out | apply below_alloc | apply pw_below_drewN | apply below_drew1) | exact HB.out)); (case side2 => exact HR0.out); (case side3 => exact HC0.out); rintro e w4 ⟨g364, rfl, hi, hb, hb2⟩; refine ⟨_, rfl, ?_⟩; have n0_ := Aside0.mk (hb); have n1_ := Aside0.mk (hi); clear HB; have HB := n0_; have HI364 := n1_; clear n0_ n1_; (try clear hb); (try clear hb2); (try clear hk); (try clear hi)) | ((with_reducible refine gate_callee (f := 36) rfl ?_); refine goesL_ (some 5) rfl rfl Try.func36 (by kernel_rfl) rfl #[.pointer (some ⟨g364, 0, none⟩)] rfl (by (try simp only [List.map_toArray, List.map_cons, List.map_nil]); first | done | rfl) ?_; (with_reducible refine (spec_l16Queue.calls k g364 t361 t362 t363 t365 t368 t369 w _ ?side1 ?side2 A3.out).mono ?_); (case side1 => repeat (first | (with_reducible first | exact HI364.out | apply IsS72.alloc | apply IsS72.drewN | apply IsS72.drew | apply IsS72.set_1 | apply IsS72.set_2) | exact HI364.out)); (case side2 => repeat (first | (with_reducible first | exact HB.out | apply below_alloc | apply pw_below_drewN | apply below_drew1 | refine below_set ?_ (IsS72.ge HI364.out)) | exact HB.out)); rintro e w5 ⟨v366, rfl, ho0, hi, hb, hk⟩; refine ⟨_, rfl, ?_⟩; have n0_ := Aside0.mk (Kd.S_lower ho0 (below_size (by repeat (first | (with_reducible first | exact HB.out | apply below_alloc | apply pw_below_drewN | apply below_drew1 | refine below_set ?_ (IsS72.ge HI364.out)) | exact HB.out)))); have n1_ := Aside0.mk (hb); have n2_ := Aside0.mk (hi); clear HB; clear HI364; have HO367 := n0_; have HB := n1_; have HI364 := n2_; clear n0_ n1_ n2_; (try clear hb); (try clear hb2); (try clear hk); (try clear hi); (try clear ho0)))
 go_ret
 exact ⟨_, by first | rfl | (simp [errW_none, errW_some] <;> rfl) | (simp [*, errW_none, errW_some] <;> rfl), by (with_reducible repeat (first | apply Kd.S_alloc | apply Kd.S_drewN | apply Kd.S_drew)); exact HO367.out, by repeat (first | (with_reducible first | exact HB.out | apply below_alloc | apply pw_below_drewN | apply below_drew1 | refine below_set ?_ (IsS72.ge HI364.out)) | exact HB.out)⟩

/-! ### impl_within: function 39 -/
def impl_within.f (a0 : Int) (a1 : Int) (a2 : Int) : Option (Bool) := if a0 ≥ a1 then (some (decide (a0 ≤ a2))) else (some false)
set_option maxHeartbeats 8000000 in
set_option maxRecDepth 100000 in
theorem impl_within.calls (a0 : Int) (a1 : Int) (a2 : Int) (r : Bool) (w : World) (h : impl_within.f a0 a1 a2 = some r) :
  Calls Try.prog 39 #[.int .i64 a0, .int .i64 a1, .int .i64 a2] w fun e w' => e = .returned (.bool r) ∧ Drawn0 w w' := by
 have H : (if a0 ≥ a1 then (some (decide (a0 ≤ a2))) else (some false)) = some r := h
 clear h
 by_cases c4 : a0 ≥ a1
 ·rw [if_pos c4] at H
  have c4b0 : decide (a1 ≤ a0) = true := decide_eq_true c4
  clear c4
  obtain rfl := Option.some.inj H
  go_enter Try.func39, Try.ntmps39
  go_wp2
  go_ret
  exact ⟨by first | rfl | (simp; done) | (simp [*]; done), by repeat (first | exact Drawn0.refl _ | apply Drawn0.step)⟩
 ·rw [if_neg c4] at H
  have c4b0 : decide (a1 ≤ a0) = false := decide_eq_false c4
  clear c4
  obtain rfl := Option.some.inj H
  go_enter Try.func39, Try.ntmps39
  go_wp2
  go_ret
  exact ⟨by first | rfl | (simp; done) | (simp [*]; done), by repeat (first | exact Drawn0.refl _ | apply Drawn0.step)⟩

/-! ### impl_IsId: function 49 -/
def impl_IsId.f (a0 : Int) : Option (Bool) := (impl_within.f a0 0 255).bind fun t370 => (some t370)
set_option maxHeartbeats 8000000 in
set_option maxRecDepth 100000 in
theorem impl_IsId.calls (a0 : Int) (r : Bool) (w : World) (h : impl_IsId.f a0 = some r) :
  Calls Try.prog 49 #[.int .i64 a0] w fun e w' => e = .returned (.bool r) ∧ Drawn0 w w' := by
 have H : ((impl_within.f a0 0 255).bind fun t370 => (some t370)) = some r := h
 clear h
 replace H := Option.bind_eq_some_iff.mp H
 obtain ⟨t370, A20, H⟩ := H
 replace H : (some t370) = some r := H
 have A2 := Aside0.mk A20
 clear A20
 obtain rfl := Option.some.inj H
 go_enter Try.func49, Try.ntmps49
 go_wp2_with (first | ((with_reducible refine gate_callee (f := 39) rfl ?_); refine goesL_ (some 4) rfl rfl Try.func39 (by kernel_rfl) rfl #[.int .i64 a0, .int .i64 0, .int .i64 255] rfl (by (try simp only [List.map_toArray, List.map_cons, List.map_nil]); first | done | rfl) ?_; (with_reducible refine (impl_within.calls a0 0 255 t370 _ A2.out).mono ?_); rintro e w' ⟨rfl, ⟨nd, rfl⟩⟩; refine ⟨_, rfl, ?_⟩))
 go_ret
 exact ⟨by first | rfl | (simp; done) | (simp [*]; done), by repeat (first | exact Drawn0.refl _ | apply Drawn0.step)⟩

/-! ### impl_Packet_words: function 61 -/
def impl_Packet_words.f (a0_0 : Int) (a0_1 : Int) (a0_2 : Int) (a0_3 : Int) (a0_4 : Int) (a0_5 : Int) (a0_6 : Int) (l0_7 : List Int) : Option (Int) := if a0_0 = 3 then (some a0_4) else (some (l0_7.length : Int))
set_option maxHeartbeats 8000000 in
set_option maxRecDepth 100000 in
theorem impl_Packet_words.calls (a0_0 : Int) (a0_1 : Int) (a0_2 : Int) (a0_3 : Int) (a0_4 : Int) (a0_5 : Int) (a0_6 : Int) (A0_7 : Option Addr) (c0_7 : Nat) (l0_7 : List Int) (r : Int) (w : World) (hr0_7 : Kd.C (Kd.int .i64) w A0_7 l0_7.length l0_7) (hc0_7 : l0_7.length ≤ c0_7) (h : impl_Packet_words.f a0_0 a0_1 a0_2 a0_3 a0_4 a0_5 a0_6 l0_7 = some r) :
  Calls Try.prog 61 #[.agg #[.int .i64 a0_0, .int .i64 a0_1, .int .i64 a0_2, .int .i64 a0_3, .int .i64 a0_4, .int .i64 a0_5, .int .i64 a0_6, .slice A0_7 l0_7.length c0_7]] w fun e w' => e = .returned (.int .i64 r) ∧ Below w.heap.size w w' := by
 have hu29 := Try.underlying29
 have HR0_7 := Aside0.mk hr0_7
 have HC0_7 := Aside0.mk hc0_7
 clear hr0_7 hc0_7
 have HB := Aside0.mk (Below.refl w.heap.size w)
 have H : (if a0_0 = 3 then (some a0_4) else (some (l0_7.length : Int))) = some r := h
 clear h
 by_cases c2 : a0_0 = 3
 ·rw [if_pos c2] at H
  have c2b0 : (a0_0 == 3) = true := beq_iff_eq.mpr c2
  have c2b1 : (a0_0 != 3) = false := bne_eq_false_iff_eq.mpr c2
  clear c2
  obtain rfl := Option.some.inj H
  go_enter Try.func61, Try.ntmps61
  go_wp2_with (first | ((with_reducible refine gate_dst (N := 1) rfl ?_); refine box_event ?hg (N := 1) ?hd (cs := #[.int .i64 a0_0, .int .i64 a0_1, .int .i64 a0_2, .int .i64 a0_3, .int .i64 a0_4, .int .i64 a0_5, .int .i64 a0_6, .slice A0_7 l0_7.length c0_7]) (t := 29) ?hr ?_; (case hd => rfl); (case hg => rfl); (case hr => first | (go_simp; done) | (go_simp; rfl)); intro gb371 hg w3 hbox hb; have n0_ := Aside0.mk (below_step (by repeat (first | (with_reducible first | exact HB.out | apply below_alloc | apply pw_below_drewN | apply below_drew1) | exact HB.out)) hb); have n1_ := Aside0.mk (hbox); have n2_ := Aside0.mk ((by rw [hg]; exact (below_size (by repeat (first | (with_reducible first | exact HB.out | apply below_alloc | apply pw_below_drewN | apply below_drew1) | exact HB.out))) : w.heap.size ≤ gb371)); have n3_ := Aside0.mk ((by rw [hg]; exact (below_size (by repeat (first | (with_reducible first | exact HB.out | apply below_alloc | apply pw_below_drewN | apply below_drew1) | exact HB.out))) : w.heap.size ≤ gb371)); clear HB; have HB := n0_; have BK371 := n1_; have GW371 := n2_; have GE371 := n3_; clear n0_ n1_ n2_ n3_; clear hb hbox hg; have hcz4_0 : w3.cell? ⟨gb371, 0, none⟩ = some (.int .i64 a0_0) := (blk_cell BK371.out 0).trans rfl; have hcz4_1 : w3.cell? ⟨gb371, 1, none⟩ = some (.int .i64 a0_1) := (blk_cell BK371.out 1).trans rfl; have hcz4_2 : w3.cell? ⟨gb371, 2, none⟩ = some (.int .i64 a0_2) := (blk_cell BK371.out 2).trans rfl; have hcz4_3 : w3.cell? ⟨gb371, 3, none⟩ = some (.int .i64 a0_3) := (blk_cell BK371.out 3).trans rfl; have hcz4_4 : w3.cell? ⟨gb371, 4, none⟩ = some (.int .i64 a0_4) := (blk_cell BK371.out 4).trans rfl; have hcz4_5 : w3.cell? ⟨gb371, 5, none⟩ = some (.int .i64 a0_5) := (blk_cell BK371.out 5).trans rfl; have hcz4_6 : w3.cell? ⟨gb371, 6, none⟩ = some (.int .i64 a0_6) := (blk_cell BK371.out 6).trans rfl; have hcz4_7 : w3.cell? ⟨gb371, 7, none⟩ = some (.slice A0_7 l0_7.length c0_7) := (blk_cell BK371.out 7).trans rfl; have hfz4_0 := blk_frozen BK371.out 0; have hfz4_1 := blk_frozen BK371.out 1; have hfz4_2 := blk_frozen BK371.out 2; have hfz4_3 := blk_frozen BK371.out 3; have hfz4_4 := blk_frozen BK371.out 4; have hfz4_5 := blk_frozen BK371.out 5; have hfz4_6 := blk_frozen BK371.out 6; have hfz4_7 := blk_frozen BK371.out 7))
  go_ret
  exact ⟨by first | rfl | (simp [errW_none, errW_some] <;> rfl) | (simp [*, errW_none, errW_some] <;> rfl), by repeat (first | (with_reducible first | exact HB.out | apply below_alloc | apply pw_below_drewN | apply below_drew1 | refine below_set ?_ GE371.out) | exact HB.out)⟩
 ·rw [if_neg c2] at H
  have c2b0 : (a0_0 == 3) = false := beq_eq_false_iff_ne.mpr c2
  have c2b1 : (a0_0 != 3) = true := bne_iff_ne.mpr c2
  obtain rfl := Option.some.inj H
  go_enter Try.func61, Try.ntmps61
  go_wp2_with (first | ((with_reducible refine gate_dst (N := 1) rfl ?_); refine box_event ?hg (N := 1) ?hd (cs := #[.int .i64 a0_0, .int .i64 a0_1, .int .i64 a0_2, .int .i64 a0_3, .int .i64 a0_4, .int .i64 a0_5, .int .i64 a0_6, .slice A0_7 l0_7.length c0_7]) (t := 29) ?hr ?_; (case hd => rfl); (case hg => rfl); (case hr => first | (go_simp; done) | (go_simp; rfl)); intro gb371 hg w5 hbox hb; have n0_ := Aside0.mk (below_step (by repeat (first | (with_reducible first | exact HB.out | apply below_alloc | apply pw_below_drewN | apply below_drew1) | exact HB.out)) hb); have n1_ := Aside0.mk (hbox); have n2_ := Aside0.mk ((by rw [hg]; exact (below_size (by repeat (first | (with_reducible first | exact HB.out | apply below_alloc | apply pw_below_drewN | apply below_drew1) | exact HB.out))) : w.heap.size ≤ gb371)); have n3_ := Aside0.mk ((by rw [hg]; exact (below_size (by repeat (first | (with_reducible first | exact HB.out | apply below_alloc | apply pw_below_drewN | apply below_drew1) | exact HB.out))) : w.heap.size ≤ gb371)); clear HB; have HB := n0_; have BK371 := n1_; have GW371 := n2_; have GE371 := n3_; clear n0_ n1_ n2_ n3_; clear hb hbox hg; have hcz6_0 : w5.cell? ⟨gb371, 0, none⟩ = some (.int .i64 a0_0) := (blk_cell BK371.out 0).trans rfl; have hcz6_1 : w5.cell? ⟨gb371, 1, none⟩ = some (.int .i64 a0_1) := (blk_cell BK371.out 1).trans rfl; have hcz6_2 : w5.cell? ⟨gb371, 2, none⟩ = some (.int .i64 a0_2) := (blk_cell BK371.out 2).trans rfl; have hcz6_3 : w5.cell? ⟨gb371, 3, none⟩ = some (.int .i64 a0_3) := (blk_cell BK371.out 3).trans rfl; have hcz6_4 : w5.cell? ⟨gb371, 4, none⟩ = some (.int .i64 a0_4) := (blk_cell BK371.out 4).trans rfl; have hcz6_5 : w5.cell? ⟨gb371, 5, none⟩ = some (.int .i64 a0_5) := (blk_cell BK371.out 5).trans rfl; have hcz6_6 : w5.cell? ⟨gb371, 6, none⟩ = some (.int .i64 a0_6) := (blk_cell BK371.out 6).trans rfl; have hcz6_7 : w5.cell? ⟨gb371, 7, none⟩ = some (.slice A0_7 l0_7.length c0_7) := (blk_cell BK371.out 7).trans rfl; have hfz6_0 := blk_frozen BK371.out 0; have hfz6_1 := blk_frozen BK371.out 1; have hfz6_2 := blk_frozen BK371.out 2; have hfz6_3 := blk_frozen BK371.out 3; have hfz6_4 := blk_frozen BK371.out 4; have hfz6_5 := blk_frozen BK371.out 5; have hfz6_6 := blk_frozen BK371.out 6; have hfz6_7 := blk_frozen BK371.out 7))
  go_ret
  exact ⟨by first | rfl | (simp [errW_none, errW_some] <;> rfl) | (simp [*, errW_none, errW_some] <;> rfl), by repeat (first | (with_reducible first | exact HB.out | apply below_alloc | apply pw_below_drewN | apply below_drew1 | refine below_set ?_ GE371.out) | exact HB.out)⟩

/-! ### impl_Packet_addressOk: function 50 -/
def impl_Packet_addressOk.j0 : Nat → Int → Bool → Int → Int → Int → Int → Int → Int → Int → List Int → Option (Bool)
 | 0, _, _, _, _, _, _, _, _, _, _ => none
 | k + 1, x4, x5, x373000, x373001, x373002, x373003, x373004, x373005, x373006, x373007 => if x5 = true then ((impl_within.f x373003 0 65535).bind fun t373 => (if t373 = true then ((impl_Packet_words.f x373000 x373001 x373002 x373003 x373004 x373005 x373006 x373007).bind fun t374 => (some (decide (t374 ≤ (wrap64 (65536 - x373003)))))) else (some false))) else (if x4 = 4 then ((impl_within.f x373003 0 63).bind fun t375 => (some t375)) else (if x4 = 5 then ((impl_within.f x373003 0 63).bind fun t376 => (some t376)) else (some (x373003 == 0))))
def impl_Packet_addressOk.f (k : Nat) (a0_0 : Int) (a0_1 : Int) (a0_2 : Int) (a0_3 : Int) (a0_4 : Int) (a0_5 : Int) (a0_6 : Int) (l0_7 : List Int) : Option (Bool) := if a0_0 = 1 then (impl_Packet_addressOk.j0 k a0_0 (a0_0 == 1) a0_0 a0_1 a0_2 a0_3 a0_4 a0_5 a0_6 l0_7) else (impl_Packet_addressOk.j0 k a0_0 (a0_0 == 3) a0_0 a0_1 a0_2 a0_3 a0_4 a0_5 a0_6 l0_7)
theorem impl_Packet_addressOk.mono_l : ∀ k, (∀ y0 y1 y2 y3 y4 y5 y6 y7 y8 y9, LeO (impl_Packet_addressOk.j0 k y0 y1 y2 y3 y4 y5 y6 y7 y8 y9) (impl_Packet_addressOk.j0 (k + 1) y0 y1 y2 y3 y4 y5 y6 y7 y8 y9))
 | 0 => fun _ _ _ _ _ _ _ _ _ _ r h => by simp [impl_Packet_addressOk.j0] at h
 | k + 1 => by
  have ih0 := impl_Packet_addressOk.mono_l k
  ·intro y0 y1 y2 y3 y4 y5 y6 y7 y8 y9
   unfold impl_Packet_addressOk.j0
   repeat' first
   | (with_reducible exact ih0 _ _ _ _ _ _ _ _ _ _)
   | (with_reducible exact LeO.refl _)
   | (with_reducible exact LeO.none _)
   | (with_reducible refine LeO.ite ?_ ?_)
   | (with_reducible refine LeO.bind ?_ (fun _ => ?_))
   | exact ih0 _ _ _ _ _ _ _ _ _ _
   | exact LeO.none _
   | refine LeO.ite ?_ ?_
   | refine LeO.bind ?_ (fun _ => ?_)
theorem impl_Packet_addressOk.mono : ∀ a0 a1 a2 a3 a4 a5 a6 a7 k, LeO (impl_Packet_addressOk.f k a0 a1 a2 a3 a4 a5 a6 a7) (impl_Packet_addressOk.f (k + 1) a0 a1 a2 a3 a4 a5 a6 a7) := by
 intro a0 a1 a2 a3 a4 a5 a6 a7 k
 have ih0 := impl_Packet_addressOk.mono_l k
 unfold impl_Packet_addressOk.f
 repeat' first
   | (with_reducible exact ih0 _ _ _ _ _ _ _ _ _ _)
   | (with_reducible exact LeO.refl _)
   | (with_reducible exact LeO.none _)
   | (with_reducible refine LeO.ite ?_ ?_)
   | (with_reducible refine LeO.bind ?_ (fun _ => ?_))
   | exact ih0 _ _ _ _ _ _ _ _ _ _
   | exact LeO.none _
   | refine LeO.ite ?_ ?_
   | refine LeO.bind ?_ (fun _ => ?_)
def impl_Packet_addressOk.T4 : Bool × List (List Nat × List Nat) := (true, [([], []), ([0], [0]), ([1], [1]), ([2, 2], [2]), ([3], [3]), ([4, 3, 3], [3, 4]), ([3], [3]), ([6, 3], [3, 6]), ([7, 3], [3, 7]), ([5, 8, 3], [3, 5, 8]), ([3, 9], [3, 9]), ([10, 5, 0, 1, 2, 3, 4, 5, 6, 7, 8, 9, 10], [10])])
def impl_Packet_addressOk.B4 : List Nat := [0, 1, 3, 7, 15, 31, 15, 79, 207, 511, 1023, 2047]
theorem impl_Packet_addressOk.tab4 : rtab .any (opsOf Try.f50 4) = impl_Packet_addressOk.T4 := by kernel_rfl
theorem impl_Packet_addressOk.bits4 : waitsOk impl_Packet_addressOk.T4.2 impl_Packet_addressOk.B4 = true := by kernel_rfl
set_option maxHeartbeats 8000000 in
set_option maxRecDepth 100000 in
theorem impl_Packet_addressOk.calls (k : Nat) (a0_0 : Int) (a0_1 : Int) (a0_2 : Int) (a0_3 : Int) (a0_4 : Int) (a0_5 : Int) (a0_6 : Int) (A0_7 : Option Addr) (c0_7 : Nat) (l0_7 : List Int) (r : Bool) (w : World) (hr0_7 : Kd.C (Kd.int .i64) w A0_7 l0_7.length l0_7) (hc0_7 : l0_7.length ≤ c0_7) (h : impl_Packet_addressOk.f k a0_0 a0_1 a0_2 a0_3 a0_4 a0_5 a0_6 l0_7 = some r) :
  Calls Try.prog 50 #[.agg #[.int .i64 a0_0, .int .i64 a0_1, .int .i64 a0_2, .int .i64 a0_3, .int .i64 a0_4, .int .i64 a0_5, .int .i64 a0_6, .slice A0_7 l0_7.length c0_7]] w fun e w' => e = .returned (.bool r) ∧ Below w.heap.size w w' := by
 have hu29 := Try.underlying29
 have HR0_7 := Aside0.mk hr0_7
 have HC0_7 := Aside0.mk hc0_7
 clear hr0_7 hc0_7
 have HB := Aside0.mk (Below.refl w.heap.size w)
 have H : (if a0_0 = 1 then (impl_Packet_addressOk.j0 k a0_0 (a0_0 == 1) a0_0 a0_1 a0_2 a0_3 a0_4 a0_5 a0_6 l0_7) else (impl_Packet_addressOk.j0 k a0_0 (a0_0 == 3) a0_0 a0_1 a0_2 a0_3 a0_4 a0_5 a0_6 l0_7)) = some r := h
 clear h
 have HC2 := Aside0.mk H
 clear H
 go_enter Try.func50, Try.ntmps50
 go_upto_if 5 with (first | ((with_reducible refine gate_dst (N := 1) rfl ?_); refine box_event ?hg (N := 1) ?hd (cs := #[.int .i64 a0_0, .int .i64 a0_1, .int .i64 a0_2, .int .i64 a0_3, .int .i64 a0_4, .int .i64 a0_5, .int .i64 a0_6, .slice A0_7 l0_7.length c0_7]) (t := 29) ?hr ?_; (case hd => rfl); (case hg => rfl); (case hr => first | (go_simp; done) | (go_simp; rfl)); intro gb372 hg w3 hbox hb; have n0_ := Aside0.mk (below_step (by repeat (first | (with_reducible first | exact HB.out | apply below_alloc | apply pw_below_drewN | apply below_drew1) | exact HB.out)) hb); have n1_ := Aside0.mk (hbox); have n2_ := Aside0.mk ((by rw [hg]; exact (below_size (by repeat (first | (with_reducible first | exact HB.out | apply below_alloc | apply pw_below_drewN | apply below_drew1) | exact HB.out))) : w.heap.size ≤ gb372)); have n3_ := Aside0.mk ((by rw [hg]; exact (below_size (by repeat (first | (with_reducible first | exact HB.out | apply below_alloc | apply pw_below_drewN | apply below_drew1) | exact HB.out))) : w.heap.size ≤ gb372)); clear HB; have HB := n0_; have BK372 := n1_; have GW372 := n2_; have GE372 := n3_; clear n0_ n1_ n2_ n3_; clear hb hbox hg; have hcz4_0 : w3.cell? ⟨gb372, 0, none⟩ = some (.int .i64 a0_0) := (blk_cell BK372.out 0).trans rfl; have hcz4_1 : w3.cell? ⟨gb372, 1, none⟩ = some (.int .i64 a0_1) := (blk_cell BK372.out 1).trans rfl; have hcz4_2 : w3.cell? ⟨gb372, 2, none⟩ = some (.int .i64 a0_2) := (blk_cell BK372.out 2).trans rfl; have hcz4_3 : w3.cell? ⟨gb372, 3, none⟩ = some (.int .i64 a0_3) := (blk_cell BK372.out 3).trans rfl; have hcz4_4 : w3.cell? ⟨gb372, 4, none⟩ = some (.int .i64 a0_4) := (blk_cell BK372.out 4).trans rfl; have hcz4_5 : w3.cell? ⟨gb372, 5, none⟩ = some (.int .i64 a0_5) := (blk_cell BK372.out 5).trans rfl; have hcz4_6 : w3.cell? ⟨gb372, 6, none⟩ = some (.int .i64 a0_6) := (blk_cell BK372.out 6).trans rfl; have hcz4_7 : w3.cell? ⟨gb372, 7, none⟩ = some (.slice A0_7 l0_7.length c0_7) := (blk_cell BK372.out 7).trans rfl; have hfz4_0 := blk_frozen BK372.out 0; have hfz4_1 := blk_frozen BK372.out 1; have hfz4_2 := blk_frozen BK372.out 2; have hfz4_3 := blk_frozen BK372.out 3; have hfz4_4 := blk_frozen BK372.out 4; have hfz4_5 := blk_frozen BK372.out 5; have hfz4_6 := blk_frozen BK372.out 6; have hfz4_7 := blk_frozen BK372.out 7))
 (try simp only [Act.put, List.setIfInBounds_toArray, List.set_cons_zero, List.set_cons_succ])
 go_cut [5] (fun v5 wc => ∃ (kq : Nat) (x5_1 : Bool), v5 = .bool x5_1 ∧ Aside0 (impl_Packet_addressOk.j0 kq a0_0 x5_1 a0_0 a0_1 a0_2 a0_3 a0_4 a0_5 a0_6 l0_7 = some r) ∧ Aside0 (kq ≤ k) ∧ Aside0 (wc.heap[gb372]? = some (.cells #[.int .i64 a0_0, .int .i64 a0_1, .int .i64 a0_2, .int .i64 a0_3, .int .i64 a0_4, .int .i64 a0_5, .int .i64 a0_6, (.slice A0_7 l0_7.length c0_7)] 29 (0, 0))) ∧ Aside0 (Below w.heap.size w wc))
 case first =>
  have H := HC2.out
  clear HC2
  by_cases c5 : a0_0 = 1
  ·rw [if_pos c5] at H
   have c5b0 : (a0_0 == 1) = true := beq_iff_eq.mpr c5
   have c5b1 : (a0_0 != 1) = false := bne_eq_false_iff_eq.mpr c5
   clear c5
   (first | rw [c5b0] | (simp only [i64_w, i32_w]; rw [c5b0]) | skip)
   have H' := Aside0.mk H
   clear H
   go_wp2
   go_meet
   case rel => exact ⟨_, ((a0_0 == 1)), (by first | rfl | (simp; done) | (simp [*]; done)), H', ⟨by first | omega | exact Nat.le_refl _⟩, ⟨by (repeat apply bX); exact BK372.out⟩, ⟨by repeat (first | (with_reducible first | exact HB.out | apply below_alloc | apply pw_below_drewN | apply below_drew1 | refine below_set ?_ GE372.out) | exact HB.out)⟩⟩
  ·rw [if_neg c5] at H
   have c5b0 : (a0_0 == 1) = false := beq_eq_false_iff_ne.mpr c5
   have c5b1 : (a0_0 != 1) = true := bne_iff_ne.mpr c5
   (first | rw [c5b0] | (simp only [i64_w, i32_w]; rw [c5b0]) | skip)
   have H' := Aside0.mk H
   clear H
   go_wp2
   go_meet
   case rel => exact ⟨_, ((a0_0 == 3)), (by first | rfl | (simp; done) | (simp [*]; done)), H', ⟨by first | omega | exact Nat.le_refl _⟩, ⟨by (repeat apply bX); exact BK372.out⟩, ⟨by repeat (first | (with_reducible first | exact HB.out | apply below_alloc | apply pw_below_drewN | apply below_drew1 | refine below_set ?_ GE372.out) | exact HB.out)⟩⟩
 case rest =>
  clear HC2
  obtain ⟨kq, x5_1, rfl, HA, HJ1, BK372, HB⟩ := hcut
  cases kq with
  | zero => exact absurd HA.out (by simp [impl_Packet_addressOk.j0])
  | succ kj1 =>
   have H := HA.out
   clear HA
   simp only [impl_Packet_addressOk.j0] at H
   by_cases c6 : x5_1 = true
   ·subst c6
    have H1 : ((impl_within.f a0_3 0 65535).bind fun t373 => (if t373 = true then ((impl_Packet_words.f a0_0 a0_1 a0_2 a0_3 a0_4 a0_5 a0_6 l0_7).bind fun t374 => (some (decide (t374 ≤ (wrap64 (65536 - a0_3)))))) else (some false))) = some r := by rw [if_pos rfl] at H; exact H
    clear H
    have H := H1
    clear H1
    replace H := Option.bind_eq_some_iff.mp H
    obtain ⟨t373, A70, H⟩ := H
    replace H : (if t373 = true then ((impl_Packet_words.f a0_0 a0_1 a0_2 a0_3 a0_4 a0_5 a0_6 l0_7).bind fun t374 => (some (decide (t374 ≤ (wrap64 (65536 - a0_3)))))) else (some false)) = some r := H
    have A7 := Aside0.mk A70
    clear A70
    by_cases c8 : t373 = true
    ·subst c8
     have H1 : ((impl_Packet_words.f a0_0 a0_1 a0_2 a0_3 a0_4 a0_5 a0_6 l0_7).bind fun t374 => (some (decide (t374 ≤ (wrap64 (65536 - a0_3)))))) = some r := by rw [if_pos rfl] at H; exact H
     clear H
     have H := H1
     clear H1
     replace H := Option.bind_eq_some_iff.mp H
     obtain ⟨t374, A90, H⟩ := H
     replace H : (some (decide (t374 ≤ (wrap64 (65536 - a0_3))))) = some r := H
     have A9 := Aside0.mk A90
     clear A90
     obtain rfl := Option.some.inj H
     try go_wp2
     have n0_ := Aside0.mk (blk_drew BK372.out)
     have n1_ := Aside0.mk (below_drew1 HB.out)
     clear BK372
     clear HB
     have BK372 := n0_
     have HB := n1_
     clear n0_ n1_
     refine start_ (n := 12) (S := fun w' => w'.cell? ⟨gb372, 0, none⟩ = some (.int .i64 a0_0) ∧ w'.cell? ⟨gb372, 1, none⟩ = some (.int .i64 a0_1) ∧ w'.cell? ⟨gb372, 2, none⟩ = some (.int .i64 a0_2) ∧ w'.cell? ⟨gb372, 3, none⟩ = some (.int .i64 a0_3) ∧ w'.cell? ⟨gb372, 4, none⟩ = some (.int .i64 a0_4) ∧ w'.cell? ⟨gb372, 5, none⟩ = some (.int .i64 a0_5) ∧ w'.cell? ⟨gb372, 6, none⟩ = some (.int .i64 a0_6) ∧ w'.cell? ⟨gb372, 7, none⟩ = some (.slice A0_7 l0_7.length c0_7)) (ds := []) #[false, false, false, false, false, false, false, false, false, false, false, false] (by kernel_rfl) rfl rfl ⟨(blk_cell BK372.out 0).trans rfl, (blk_cell BK372.out 1).trans rfl, (blk_cell BK372.out 2).trans rfl, (blk_cell BK372.out 3).trans rfl, (blk_cell BK372.out 4).trans rfl, (blk_cell BK372.out 5).trans rfl, (blk_cell BK372.out 6).trans rfl, (blk_cell BK372.out 7).trans rfl⟩ (fun hHeld => ?_); refine with_tabW impl_Packet_addressOk.tab4 impl_Packet_addressOk.bits4 (fun HT_ HW_ => ?_)
     generalize wc.drew = w10 at BK372 HB hHeld ⊢
     refine pure_ (i := 0) (N := some 8) (v := ?_) (a' := ?_) #[true, false, false, false, false, false, false, false, false, false, false, false] rfl rfl (any_of HT_.out (by kernel_rfl)) (fun _ _ _ h => h) (Or.inl ⟨by rfl, ?_⟩) ?_ ?_
     rotate_left
     ·intro w'
      go_simp
      with_reducible rfl
     rotate_left
     ·simp only [Act.put, List.setIfInBounds_toArray, List.set_cons_zero, List.set_cons_succ, i64_w, i32_w]
      rfl
     refine take_ (i := 1) (N := some 9) (v := ?_) (a' := ?_) #[true, true, false, false, false, false, false, false, false, false, false, false] rfl rfl (take_ofW HT_.out HW_.out (by kernel_rfl)) (fun _ _ _ h => h) (Or.inl ⟨by rfl, ?_⟩) hHeld ?_ ?_
     rotate_left
     ·rintro w' ⟨s0, s1, s2, s3, s4, s5, s6, s7⟩
      go_simp
      with_reducible rfl
     rotate_left
     ·simp only [Act.put, List.setIfInBounds_toArray, List.set_cons_zero, List.set_cons_succ, i64_w, i32_w]
      rfl
     refine one_ (i := 2) (N := some 10) #[true, true, true, false, false, false, false, false, false, false, false, false] rfl rfl (one_of HT_.out (by kernel_rfl)) (by decide) (fun K hK => ?_)
     refine goes_ Try.func39 (by kernel_rfl) rfl #[.int .i64 a0_3, .int .i64 0, .int .i64 65535] (by rfl) rfl rfl (by (try simp only [List.map_toArray, List.map_cons, List.map_nil]); first | done | rfl) ?_
     with_reducible refine (impl_within.calls a0_3 0 65535 true _ A7.out).mono ?_
     rintro e w' ⟨rfl, ⟨nd, rfl⟩⟩
     refine ⟨_, rfl, ?_⟩
     refine hK.out _ _ ⟨(blk_cell BK372.out 0).trans rfl, (blk_cell BK372.out 1).trans rfl, (blk_cell BK372.out 2).trans rfl, (blk_cell BK372.out 3).trans rfl, (blk_cell BK372.out 4).trans rfl, (blk_cell BK372.out 5).trans rfl, (blk_cell BK372.out 6).trans rfl, (blk_cell BK372.out 7).trans rfl⟩ (fun hHeld => ?_)
     clear hK K
     refine norm_ (a' := ?_) ?_ ?_
     rotate_left
     ·show Act.put _ (some 10) _ = _
      simp only [Act.put, List.setIfInBounds_toArray, List.set_cons_zero, List.set_cons_succ, i64_w, i32_w]
      rfl
     refine pure_ (i := 3) (N := some 11) (v := ?_) (a' := ?_) #[true, true, true, true, false, false, false, false, false, false, false, false] rfl rfl (any_of HT_.out (by kernel_rfl)) (fun _ _ _ h => h) (Or.inl ⟨by rfl, ?_⟩) ?_ ?_
     rotate_left
     ·intro w'
      go_simp
      with_reducible rfl
     rotate_left
     ·simp only [Act.put, List.setIfInBounds_toArray, List.set_cons_zero, List.set_cons_succ, i64_w, i32_w]
      rfl
     refine pure_ (i := 6) (N := some 14) (v := ?_) (a' := ?_) #[true, true, true, true, false, false, true, false, false, false, false, false] rfl rfl (any_of HT_.out (by kernel_rfl)) (fun _ _ _ h => h) (Or.inl ⟨by rfl, ?_⟩) ?_ ?_
     rotate_left
     ·intro w'
      go_simp
      with_reducible rfl
     rotate_left
     ·simp only [Act.put, List.setIfInBounds_toArray, List.set_cons_zero, List.set_cons_succ, i64_w, i32_w]
      rfl
     refine take_ (i := 4) (N := some 12) (v := ?_) (a' := ?_) #[true, true, true, true, true, false, true, false, false, false, false, false] rfl rfl (take_ofW HT_.out HW_.out (by kernel_rfl)) (fun _ _ _ h => h) (Or.inl ⟨by rfl, ?_⟩) hHeld ?_ ?_
     rotate_left
     ·rintro w' ⟨s0, s1, s2, s3, s4, s5, s6, s7⟩
      go_simp
      with_reducible rfl
     rotate_left
     ·simp only [Act.put, List.setIfInBounds_toArray, List.set_cons_zero, List.set_cons_succ, i64_w, i32_w]
      rfl
     refine take_ (i := 7) (N := some 15) (v := ?_) (a' := ?_) #[true, true, true, true, true, false, true, true, false, false, false, false] rfl rfl (take_ofW HT_.out HW_.out (by kernel_rfl)) (fun _ _ _ h => h) (Or.inl ⟨by rfl, ?_⟩) hHeld ?_ ?_
     rotate_left
     ·rintro w' ⟨s0, s1, s2, s3, s4, s5, s6, s7⟩
      go_simp
      with_reducible rfl
     rotate_left
     ·simp only [Act.put, List.setIfInBounds_toArray, List.set_cons_zero, List.set_cons_succ, i64_w, i32_w]
      rfl
     refine pure_ (i := 8) (N := some 16) (v := ?_) (a' := ?_) #[true, true, true, true, true, false, true, true, true, false, false, false] rfl rfl (any_of HT_.out (by kernel_rfl)) (fun _ _ _ h => h) (Or.inl ⟨by rfl, ?_⟩) ?_ ?_
     rotate_left
     ·intro w'
      go_simp
      with_reducible rfl
     rotate_left
     ·simp only [Act.put, List.setIfInBounds_toArray, List.set_cons_zero, List.set_cons_succ, i64_w, i32_w]
      rfl
     refine one_ (i := 5) (N := some 13) #[true, true, true, true, true, true, true, true, true, false, false, false] rfl rfl (one_of HT_.out (by kernel_rfl)) (by decide) (fun K hK => ?_)
     refine goes_ Try.func61 (by kernel_rfl) rfl #[.agg #[.int .i64 a0_0, .int .i64 a0_1, .int .i64 a0_2, .int .i64 a0_3, .int .i64 a0_4, .int .i64 a0_5, .int .i64 a0_6, .slice A0_7 l0_7.length c0_7]] (by rfl) rfl rfl (by (try simp only [List.map_toArray, List.map_cons, List.map_nil]); first | done | rfl) ?_
     with_reducible refine (impl_Packet_words.calls a0_0 a0_1 a0_2 a0_3 a0_4 a0_5 a0_6 _ _ l0_7 t374 _ ?side1 ?side2 A9.out).mono ?_
     (case side1 => repeat (first | exact (Kd.C_below HR0_7.out (by repeat (first | (with_reducible first | exact HB.out | apply below_alloc | apply pw_below_drewN | apply below_drew1 | refine below_set ?_ GE372.out) | exact HB.out))) | (with_reducible refine Kd.C_alloc ?_ _) | (with_reducible refine Kd.C_drewN ?_ _) | (with_reducible refine Kd.C_drew ?_)))
     (case side2 => exact HC0_7.out)
     rintro e w11 ⟨rfl, hb⟩
     refine ⟨_, rfl, ?_⟩
     have n0_ := Aside0.mk (blk_below (g := gb372) (o := .cells #[.int .i64 a0_0, .int .i64 a0_1, .int .i64 a0_2, .int .i64 a0_3, .int .i64 a0_4, .int .i64 a0_5, .int .i64 a0_6, .slice A0_7 l0_7.length c0_7] 29 (0, 0)) (by (repeat apply bX); exact BK372.out) hb)
     have n1_ := Aside0.mk (below_step (by repeat (first | (with_reducible first | exact HB.out | apply below_alloc | apply pw_below_drewN | apply below_drew1 | refine below_set ?_ GE372.out) | exact HB.out)) hb)
     clear BK372
     clear HB
     have BK372 := n0_
     have HB := n1_
     clear n0_ n1_
     refine hK.out _ _ ⟨(blk_cell BK372.out 0).trans rfl, (blk_cell BK372.out 1).trans rfl, (blk_cell BK372.out 2).trans rfl, (blk_cell BK372.out 3).trans rfl, (blk_cell BK372.out 4).trans rfl, (blk_cell BK372.out 5).trans rfl, (blk_cell BK372.out 6).trans rfl, (blk_cell BK372.out 7).trans rfl⟩ (fun hHeld => ?_)
     clear hK K
     refine norm_ (a' := ?_) ?_ ?_
     rotate_left
     ·show Act.put _ (some 13) _ = _
      simp only [Act.put, List.setIfInBounds_toArray, List.set_cons_zero, List.set_cons_succ, i64_w, i32_w]
      rfl
     refine pure_ (i := 9) (N := some 17) (v := ?_) (a' := ?_) #[true, true, true, true, true, true, true, true, true, true, false, false] rfl rfl (any_of HT_.out (by kernel_rfl)) (fun _ _ _ h => h) (Or.inl ⟨by rfl, ?_⟩) ?_ ?_
     rotate_left
     ·intro w'
      go_simp
      with_reducible rfl
     rotate_left
     ·simp only [Act.put, List.setIfInBounds_toArray, List.set_cons_zero, List.set_cons_succ, i64_w, i32_w]
      rfl
     refine pure_ (i := 10) (N := some 18) (v := ?_) (a' := ?_) #[true, true, true, true, true, true, true, true, true, true, true, false] rfl rfl (any_of HT_.out (by kernel_rfl)) (fun _ _ _ h => h) (Or.inl ⟨by rfl, ?_⟩) ?_ ?_
     rotate_left
     ·intro w'
      go_simp
      with_reducible rfl
     rotate_left
     ·simp only [Act.put, List.setIfInBounds_toArray, List.set_cons_zero, List.set_cons_succ, i64_w, i32_w]
      rfl
     refine pure_ (i := 11) (N := some 2) (v := ?_) (a' := ?_) #[true, true, true, true, true, true, true, true, true, true, true, true] rfl rfl (any_of HT_.out (by kernel_rfl)) (fun _ _ _ h => h) (Or.inl ⟨by rfl, ?_⟩) ?_ ?_
     rotate_left
     ·intro w'
      go_simp
      with_reducible rfl
     rotate_left
     ·simp only [Act.put, List.setIfInBounds_toArray, List.set_cons_zero, List.set_cons_succ, i64_w, i32_w]
      rfl
     refine done_ (done_of HT_.out (by kernel_rfl)) ?_
     try go_wp2
     go_ret
     exact ⟨by first | rfl | (simp [errW_none, errW_some] <;> rfl) | (simp [*, errW_none, errW_some] <;> rfl), by repeat (first | (with_reducible first | exact HB.out | apply below_alloc | apply pw_below_drewN | apply below_drew1 | refine below_set ?_ GE372.out) | exact HB.out)⟩
    ·replace c8 := Bool.eq_false_iff.mpr c8
     subst c8
     have H1 : (some false) = some r := by rw [if_neg (show ¬ (false = true) by decide)] at H; exact H
     clear H
     have H := H1
     clear H1
     obtain rfl := Option.some.inj H
     try go_wp2
     have n0_ := Aside0.mk (blk_drew BK372.out)
     have n1_ := Aside0.mk (below_drew1 HB.out)
     clear BK372
     clear HB
     have BK372 := n0_
     have HB := n1_
     clear n0_ n1_
     refine start_ (n := 12) (S := fun w' => w'.cell? ⟨gb372, 0, none⟩ = some (.int .i64 a0_0) ∧ w'.cell? ⟨gb372, 1, none⟩ = some (.int .i64 a0_1) ∧ w'.cell? ⟨gb372, 2, none⟩ = some (.int .i64 a0_2) ∧ w'.cell? ⟨gb372, 3, none⟩ = some (.int .i64 a0_3) ∧ w'.cell? ⟨gb372, 4, none⟩ = some (.int .i64 a0_4) ∧ w'.cell? ⟨gb372, 5, none⟩ = some (.int .i64 a0_5) ∧ w'.cell? ⟨gb372, 6, none⟩ = some (.int .i64 a0_6) ∧ w'.cell? ⟨gb372, 7, none⟩ = some (.slice A0_7 l0_7.length c0_7)) (ds := []) #[false, false, false, false, false, false, false, false, false, false, false, false] (by kernel_rfl) rfl rfl ⟨(blk_cell BK372.out 0).trans rfl, (blk_cell BK372.out 1).trans rfl, (blk_cell BK372.out 2).trans rfl, (blk_cell BK372.out 3).trans rfl, (blk_cell BK372.out 4).trans rfl, (blk_cell BK372.out 5).trans rfl, (blk_cell BK372.out 6).trans rfl, (blk_cell BK372.out 7).trans rfl⟩ (fun hHeld => ?_); refine with_tabW impl_Packet_addressOk.tab4 impl_Packet_addressOk.bits4 (fun HT_ HW_ => ?_)
     generalize wc.drew = w12 at BK372 HB hHeld ⊢
     refine pure_ (i := 0) (N := some 8) (v := ?_) (a' := ?_) #[true, false, false, false, false, false, false, false, false, false, false, false] rfl rfl (any_of HT_.out (by kernel_rfl)) (fun _ _ _ h => h) (Or.inl ⟨by rfl, ?_⟩) ?_ ?_
     rotate_left
     ·intro w'
      go_simp
      with_reducible rfl
     rotate_left
     ·simp only [Act.put, List.setIfInBounds_toArray, List.set_cons_zero, List.set_cons_succ, i64_w, i32_w]
      rfl
     refine take_ (i := 1) (N := some 9) (v := ?_) (a' := ?_) #[true, true, false, false, false, false, false, false, false, false, false, false] rfl rfl (take_ofW HT_.out HW_.out (by kernel_rfl)) (fun _ _ _ h => h) (Or.inl ⟨by rfl, ?_⟩) hHeld ?_ ?_
     rotate_left
     ·rintro w' ⟨s0, s1, s2, s3, s4, s5, s6, s7⟩
      go_simp
      with_reducible rfl
     rotate_left
     ·simp only [Act.put, List.setIfInBounds_toArray, List.set_cons_zero, List.set_cons_succ, i64_w, i32_w]
      rfl
     refine one_ (i := 2) (N := some 10) #[true, true, true, false, false, false, false, false, false, false, false, false] rfl rfl (one_of HT_.out (by kernel_rfl)) (by decide) (fun K hK => ?_)
     refine goes_ Try.func39 (by kernel_rfl) rfl #[.int .i64 a0_3, .int .i64 0, .int .i64 65535] (by rfl) rfl rfl (by (try simp only [List.map_toArray, List.map_cons, List.map_nil]); first | done | rfl) ?_
     with_reducible refine (impl_within.calls a0_3 0 65535 false _ A7.out).mono ?_
     rintro e w' ⟨rfl, ⟨nd, rfl⟩⟩
     refine ⟨_, rfl, ?_⟩
     refine hK.out _ _ ⟨(blk_cell BK372.out 0).trans rfl, (blk_cell BK372.out 1).trans rfl, (blk_cell BK372.out 2).trans rfl, (blk_cell BK372.out 3).trans rfl, (blk_cell BK372.out 4).trans rfl, (blk_cell BK372.out 5).trans rfl, (blk_cell BK372.out 6).trans rfl, (blk_cell BK372.out 7).trans rfl⟩ (fun hHeld => ?_)
     clear hK K
     refine norm_ (a' := ?_) ?_ ?_
     rotate_left
     ·show Act.put _ (some 10) _ = _
      simp only [Act.put, List.setIfInBounds_toArray, List.set_cons_zero, List.set_cons_succ, i64_w, i32_w]
      rfl
     refine pure_ (i := 3) (N := some 11) (v := ?_) (a' := ?_) #[true, true, true, true, false, false, false, false, false, false, false, false] rfl rfl (any_of HT_.out (by kernel_rfl)) (fun _ _ _ h => h) (Or.inl ⟨by rfl, ?_⟩) ?_ ?_
     rotate_left
     ·intro w'
      go_simp
      with_reducible rfl
     rotate_left
     ·simp only [Act.put, List.setIfInBounds_toArray, List.set_cons_zero, List.set_cons_succ, i64_w, i32_w]
      rfl
     refine pure_ (i := 4) (N := some 12) (v := undef) (a' := ?_) #[true, true, true, true, true, false, false, false, false, false, false, false] rfl rfl (any_of HT_.out (by kernel_rfl)) (fun _ _ _ h => h) (Or.inr ⟨by rfl, rfl⟩) ?_ ?_
     rotate_left
     ·simp only [Act.put, List.setIfInBounds_toArray, List.set_cons_zero, List.set_cons_succ, i64_w, i32_w]
      rfl
     refine pure_ (i := 5) (N := some 13) (v := undef) (a' := ?_) #[true, true, true, true, true, true, false, false, false, false, false, false] rfl rfl (any_of HT_.out (by kernel_rfl)) (fun _ _ _ h => h) (Or.inr ⟨by rfl, rfl⟩) ?_ ?_
     rotate_left
     ·simp only [Act.put, List.setIfInBounds_toArray, List.set_cons_zero, List.set_cons_succ, i64_w, i32_w]
      rfl
     refine pure_ (i := 6) (N := some 14) (v := undef) (a' := ?_) #[true, true, true, true, true, true, true, false, false, false, false, false] rfl rfl (any_of HT_.out (by kernel_rfl)) (fun _ _ _ h => h) (Or.inr ⟨by rfl, rfl⟩) ?_ ?_
     rotate_left
     ·simp only [Act.put, List.setIfInBounds_toArray, List.set_cons_zero, List.set_cons_succ, i64_w, i32_w]
      rfl
     refine pure_ (i := 7) (N := some 15) (v := undef) (a' := ?_) #[true, true, true, true, true, true, true, true, false, false, false, false] rfl rfl (any_of HT_.out (by kernel_rfl)) (fun _ _ _ h => h) (Or.inr ⟨by rfl, rfl⟩) ?_ ?_
     rotate_left
     ·simp only [Act.put, List.setIfInBounds_toArray, List.set_cons_zero, List.set_cons_succ, i64_w, i32_w]
      rfl
     refine pure_ (i := 8) (N := some 16) (v := undef) (a' := ?_) #[true, true, true, true, true, true, true, true, true, false, false, false] rfl rfl (any_of HT_.out (by kernel_rfl)) (fun _ _ _ h => h) (Or.inr ⟨by rfl, rfl⟩) ?_ ?_
     rotate_left
     ·simp only [Act.put, List.setIfInBounds_toArray, List.set_cons_zero, List.set_cons_succ, i64_w, i32_w]
      rfl
     refine pure_ (i := 9) (N := some 17) (v := undef) (a' := ?_) #[true, true, true, true, true, true, true, true, true, true, false, false] rfl rfl (any_of HT_.out (by kernel_rfl)) (fun _ _ _ h => h) (Or.inr ⟨by rfl, rfl⟩) ?_ ?_
     rotate_left
     ·simp only [Act.put, List.setIfInBounds_toArray, List.set_cons_zero, List.set_cons_succ, i64_w, i32_w]
      rfl
     refine pure_ (i := 10) (N := some 18) (v := ?_) (a' := ?_) #[true, true, true, true, true, true, true, true, true, true, true, false] rfl rfl (any_of HT_.out (by kernel_rfl)) (fun _ _ _ h => h) (Or.inl ⟨by rfl, ?_⟩) ?_ ?_
     rotate_left
     ·intro w'
      go_simp
      with_reducible rfl
     rotate_left
     ·simp only [Act.put, List.setIfInBounds_toArray, List.set_cons_zero, List.set_cons_succ, i64_w, i32_w]
      rfl
     refine pure_ (i := 11) (N := some 2) (v := ?_) (a' := ?_) #[true, true, true, true, true, true, true, true, true, true, true, true] rfl rfl (any_of HT_.out (by kernel_rfl)) (fun _ _ _ h => h) (Or.inl ⟨by rfl, ?_⟩) ?_ ?_
     rotate_left
     ·intro w'
      go_simp
      with_reducible rfl
     rotate_left
     ·simp only [Act.put, List.setIfInBounds_toArray, List.set_cons_zero, List.set_cons_succ, i64_w, i32_w]
      rfl
     refine done_ (done_of HT_.out (by kernel_rfl)) ?_
     try go_wp2
     go_ret
     exact ⟨by first | rfl | (simp [errW_none, errW_some] <;> rfl) | (simp [*, errW_none, errW_some] <;> rfl), by repeat (first | (with_reducible first | exact HB.out | apply below_alloc | apply pw_below_drewN | apply below_drew1 | refine below_set ?_ GE372.out) | exact HB.out)⟩
   ·replace c6 := Bool.eq_false_iff.mpr c6
    subst c6
    have H1 : (if a0_0 = 4 then ((impl_within.f a0_3 0 63).bind fun t375 => (some t375)) else (if a0_0 = 5 then ((impl_within.f a0_3 0 63).bind fun t376 => (some t376)) else (some (a0_3 == 0)))) = some r := by rw [if_neg (show ¬ (false = true) by decide)] at H; exact H
    clear H
    have H := H1
    clear H1
    by_cases c13 : a0_0 = 4
    ·rw [if_pos c13] at H
     have c13b0 : (a0_0 == 4) = true := beq_iff_eq.mpr c13
     have c13b1 : (a0_0 != 4) = false := bne_eq_false_iff_eq.mpr c13
     clear c13
     replace H := Option.bind_eq_some_iff.mp H
     obtain ⟨t375, A140, H⟩ := H
     replace H : (some t375) = some r := H
     have A14 := Aside0.mk A140
     clear A140
     obtain rfl := Option.some.inj H
     have hcz15_0 : wc.cell? ⟨gb372, 0, none⟩ = some (.int .i64 a0_0) := (blk_cell BK372.out 0).trans rfl
     have hcz15_1 : wc.cell? ⟨gb372, 1, none⟩ = some (.int .i64 a0_1) := (blk_cell BK372.out 1).trans rfl
     have hcz15_2 : wc.cell? ⟨gb372, 2, none⟩ = some (.int .i64 a0_2) := (blk_cell BK372.out 2).trans rfl
     have hcz15_3 : wc.cell? ⟨gb372, 3, none⟩ = some (.int .i64 a0_3) := (blk_cell BK372.out 3).trans rfl
     have hcz15_4 : wc.cell? ⟨gb372, 4, none⟩ = some (.int .i64 a0_4) := (blk_cell BK372.out 4).trans rfl
     have hcz15_5 : wc.cell? ⟨gb372, 5, none⟩ = some (.int .i64 a0_5) := (blk_cell BK372.out 5).trans rfl
     have hcz15_6 : wc.cell? ⟨gb372, 6, none⟩ = some (.int .i64 a0_6) := (blk_cell BK372.out 6).trans rfl
     have hcz15_7 : wc.cell? ⟨gb372, 7, none⟩ = some (.slice A0_7 l0_7.length c0_7) := (blk_cell BK372.out 7).trans rfl
     have hfz15_0 := blk_frozen BK372.out 0
     have hfz15_1 := blk_frozen BK372.out 1
     have hfz15_2 := blk_frozen BK372.out 2
     have hfz15_3 := blk_frozen BK372.out 3
     have hfz15_4 := blk_frozen BK372.out 4
     have hfz15_5 := blk_frozen BK372.out 5
     have hfz15_6 := blk_frozen BK372.out 6
     have hfz15_7 := blk_frozen BK372.out 7
     go_wp2_with (first | ((with_reducible refine gate_callee (f := 39) rfl ?_); refine goesL_ (some 24) rfl rfl Try.func39 (by kernel_rfl) rfl #[.int .i64 a0_3, .int .i64 0, .int .i64 63] rfl (by (try simp only [List.map_toArray, List.map_cons, List.map_nil]); first | done | rfl) ?_; (with_reducible refine (impl_within.calls a0_3 0 63 t375 _ A14.out).mono ?_); rintro e w' ⟨rfl, ⟨nd, rfl⟩⟩; refine ⟨_, rfl, ?_⟩))
     go_ret
     exact ⟨by first | rfl | (simp [errW_none, errW_some] <;> rfl) | (simp [*, errW_none, errW_some] <;> rfl), by repeat (first | (with_reducible first | exact HB.out | apply below_alloc | apply pw_below_drewN | apply below_drew1 | refine below_set ?_ GE372.out) | exact HB.out)⟩
    ·rw [if_neg c13] at H
     have c13b0 : (a0_0 == 4) = false := beq_eq_false_iff_ne.mpr c13
     have c13b1 : (a0_0 != 4) = true := bne_iff_ne.mpr c13
     by_cases c16 : a0_0 = 5
     ·rw [if_pos c16] at H
      have c16b0 : (a0_0 == 5) = true := beq_iff_eq.mpr c16
      have c16b1 : (a0_0 != 5) = false := bne_eq_false_iff_eq.mpr c16
      clear c16
      replace H := Option.bind_eq_some_iff.mp H
      obtain ⟨t376, A170, H⟩ := H
      replace H : (some t376) = some r := H
      have A17 := Aside0.mk A170
      clear A170
      obtain rfl := Option.some.inj H
      have hcz18_0 : wc.cell? ⟨gb372, 0, none⟩ = some (.int .i64 a0_0) := (blk_cell BK372.out 0).trans rfl
      have hcz18_1 : wc.cell? ⟨gb372, 1, none⟩ = some (.int .i64 a0_1) := (blk_cell BK372.out 1).trans rfl
      have hcz18_2 : wc.cell? ⟨gb372, 2, none⟩ = some (.int .i64 a0_2) := (blk_cell BK372.out 2).trans rfl
      have hcz18_3 : wc.cell? ⟨gb372, 3, none⟩ = some (.int .i64 a0_3) := (blk_cell BK372.out 3).trans rfl
      have hcz18_4 : wc.cell? ⟨gb372, 4, none⟩ = some (.int .i64 a0_4) := (blk_cell BK372.out 4).trans rfl
      have hcz18_5 : wc.cell? ⟨gb372, 5, none⟩ = some (.int .i64 a0_5) := (blk_cell BK372.out 5).trans rfl
      have hcz18_6 : wc.cell? ⟨gb372, 6, none⟩ = some (.int .i64 a0_6) := (blk_cell BK372.out 6).trans rfl
      have hcz18_7 : wc.cell? ⟨gb372, 7, none⟩ = some (.slice A0_7 l0_7.length c0_7) := (blk_cell BK372.out 7).trans rfl
      have hfz18_0 := blk_frozen BK372.out 0
      have hfz18_1 := blk_frozen BK372.out 1
      have hfz18_2 := blk_frozen BK372.out 2
      have hfz18_3 := blk_frozen BK372.out 3
      have hfz18_4 := blk_frozen BK372.out 4
      have hfz18_5 := blk_frozen BK372.out 5
      have hfz18_6 := blk_frozen BK372.out 6
      have hfz18_7 := blk_frozen BK372.out 7
      go_wp2_with (first | ((with_reducible refine gate_callee (f := 39) rfl ?_); refine goesL_ (some 24) rfl rfl Try.func39 (by kernel_rfl) rfl #[.int .i64 a0_3, .int .i64 0, .int .i64 63] rfl (by (try simp only [List.map_toArray, List.map_cons, List.map_nil]); first | done | rfl) ?_; (with_reducible refine (impl_within.calls a0_3 0 63 t376 _ A17.out).mono ?_); rintro e w' ⟨rfl, ⟨nd, rfl⟩⟩; refine ⟨_, rfl, ?_⟩))
      go_ret
      exact ⟨by first | rfl | (simp [errW_none, errW_some] <;> rfl) | (simp [*, errW_none, errW_some] <;> rfl), by repeat (first | (with_reducible first | exact HB.out | apply below_alloc | apply pw_below_drewN | apply below_drew1 | refine below_set ?_ GE372.out) | exact HB.out)⟩
     ·rw [if_neg c16] at H
      have c16b0 : (a0_0 == 5) = false := beq_eq_false_iff_ne.mpr c16
      have c16b1 : (a0_0 != 5) = true := bne_iff_ne.mpr c16
      obtain rfl := Option.some.inj H
      have hcz19_0 : wc.cell? ⟨gb372, 0, none⟩ = some (.int .i64 a0_0) := (blk_cell BK372.out 0).trans rfl
      have hcz19_1 : wc.cell? ⟨gb372, 1, none⟩ = some (.int .i64 a0_1) := (blk_cell BK372.out 1).trans rfl
      have hcz19_2 : wc.cell? ⟨gb372, 2, none⟩ = some (.int .i64 a0_2) := (blk_cell BK372.out 2).trans rfl
      have hcz19_3 : wc.cell? ⟨gb372, 3, none⟩ = some (.int .i64 a0_3) := (blk_cell BK372.out 3).trans rfl
      have hcz19_4 : wc.cell? ⟨gb372, 4, none⟩ = some (.int .i64 a0_4) := (blk_cell BK372.out 4).trans rfl
      have hcz19_5 : wc.cell? ⟨gb372, 5, none⟩ = some (.int .i64 a0_5) := (blk_cell BK372.out 5).trans rfl
      have hcz19_6 : wc.cell? ⟨gb372, 6, none⟩ = some (.int .i64 a0_6) := (blk_cell BK372.out 6).trans rfl
      have hcz19_7 : wc.cell? ⟨gb372, 7, none⟩ = some (.slice A0_7 l0_7.length c0_7) := (blk_cell BK372.out 7).trans rfl
      have hfz19_0 := blk_frozen BK372.out 0
      have hfz19_1 := blk_frozen BK372.out 1
      have hfz19_2 := blk_frozen BK372.out 2
      have hfz19_3 := blk_frozen BK372.out 3
      have hfz19_4 := blk_frozen BK372.out 4
      have hfz19_5 := blk_frozen BK372.out 5
      have hfz19_6 := blk_frozen BK372.out 6
      have hfz19_7 := blk_frozen BK372.out 7
      go_wp2
      go_ret
      exact ⟨by first | rfl | (simp [errW_none, errW_some] <;> rfl) | (simp [*, errW_none, errW_some] <;> rfl), by repeat (first | (with_reducible first | exact HB.out | apply below_alloc | apply pw_below_drewN | apply below_drew1 | refine below_set ?_ GE372.out) | exact HB.out)⟩

end Go.Proofs.Ytemapchppbpfmaa.PFnOrders
