-- Written by a program of this session (wip/xp): not trusted, Lean checks it.
import Derived.Test.YtbdehpmfemgooaaPFnQueuesx0
import Derived.Test.YtbdehpmfemgooaaPFnQueuesx9
import Derived.Test.YtbdehpmfemgooaaPFnQueuesx10
import Derived.Test.YtbdehpmfemgooaaPFnQueuesx11
namespace Go.Proofs.Ytbdehpmfemgooaa.PFnQueues
open Go.RowKit Go.Proofs.YtbdehpmfemgooaaW.PrintWords Go.Proofs.YtbdehpmfemgooaaW.PrintLast Go.Proofs.YtbdehpmfemgooaaW.PrintMore
attribute [local go_sem] max2_int min2_int max_two min_two max_three min_three max_four min_four   -- for this text's walks alone
set_option linter.unusedVariables false
set_option linter.unusedSimpArgs false

/-! ### impl_Queue_next: function 59 -/
def impl_Queue_next.l0 : Nat → List Int → Int → Int → List (S60) → List Int → List Int → List (S60) → Option (Int)
 | 0, _, _, _, _, _, _, _ => none
 | k + 1, x7, x8, x9, x395000, x395001, x395002, x395003 => if x9 < x8 then (if 0 ≤ x9 then (if x9 < (x7.length : Int) then (if 0 ≤ (rd x7 x9) then (if (rd x7 x9) < (x395000.length : Int) then ((impl_CanSend.f k x395001 x395002 ((rd_T60 x395000 (rd x7 x9)).f0) ((rd_T60 x395000 (rd x7 x9)).f1) ((rd_T60 x395000 (rd x7 x9)).f2) ((rd_T60 x395000 (rd x7 x9)).f3) ((rd_T60 x395000 (rd x7 x9)).f4) ((rd_T60 x395000 (rd x7 x9)).f5) ((rd_T60 x395000 (rd x7 x9)).f6) ((rd_T60 x395000 (rd x7 x9)).f7)).bind fun t400 => (if t400 = true then (some (rd x7 x9)) else (impl_Queue_next.l0 k x7 x8 (wrap64 (x9 + 1)) x395000 x395001 x395002 x395003))) else (none)) else (none)) else (none)) else (none)) else (some (-1))
def impl_Queue_next.f (k : Nat) (l0_0 : List (S60)) (l0_1 : List Int) (l0_2 : List Int) (l0_3 : List (S60)) : Option (Int) := (impl_PassersOf.f k l0_0).bind fun t395 => (impl_Queue_next.l0 k t395 (t395.length : Int) 0 l0_0 l0_1 l0_2 l0_3)
def impl_Queue_next.T4 : Bool × List (List Nat × List Nat) := (true, [([], []), ([0], [0]), ([], []), ([2], [2]), ([], []), ([3, 4], [3, 4]), ([5], [5]), ([1, 6], [1, 6])])
def impl_Queue_next.B4 : List Nat := [0, 1, 0, 4, 0, 28, 60, 127]
theorem impl_Queue_next.tab4 : rtab .any (opsOf Try.f59 4) = impl_Queue_next.T4 := by kernel_rfl
theorem impl_Queue_next.bits4 : waitsOk impl_Queue_next.T4.2 impl_Queue_next.B4 = true := by kernel_rfl
set_option maxHeartbeats 8000000 in
set_option maxRecDepth 100000 in
theorem impl_Queue_next.calls (k : Nat) (A0_0 : Option Addr) (c0_0 : Nat) (l0_0 : List (S60)) (A0_1 : Option Addr) (c0_1 : Nat) (l0_1 : List Int) (A0_2 : Option Addr) (c0_2 : Nat) (l0_2 : List Int) (A0_3 : Option Addr) (c0_3 : Nat) (l0_3 : List (S60)) (r : Int) (w : World) (hr0_0 : Kd.C k60 w A0_0 l0_0.length l0_0) (hc0_0 : l0_0.length ≤ c0_0) (hr0_1 : Kd.C (Kd.int .i64) w A0_1 l0_1.length l0_1) (hc0_1 : l0_1.length ≤ c0_1) (hr0_2 : Kd.C (Kd.int .i64) w A0_2 l0_2.length l0_2) (hc0_2 : l0_2.length ≤ c0_2) (hr0_3 : Kd.C k60 w A0_3 l0_3.length l0_3) (hc0_3 : l0_3.length ≤ c0_3) (h : impl_Queue_next.f k l0_0 l0_1 l0_2 l0_3 = some r) :
  Calls Try.prog 59 #[.agg #[.slice A0_0 l0_0.length c0_0, .slice A0_1 l0_1.length c0_1, .slice A0_2 l0_2.length c0_2, .slice A0_3 l0_3.length c0_3]] w fun e w' => e = .returned (.int .i64 r) ∧ Below w.heap.size w w' := by
 have hu53 := Try.underlying53
 have hu26 := Try.underlying26
 have hu60 := Try.underlying60
 have HR0_0 := A_.mk hr0_0
 have HC0_0 := A_.mk hc0_0
 clear hr0_0 hc0_0
 have HR0_1 := A_.mk hr0_1
 have HC0_1 := A_.mk hc0_1
 clear hr0_1 hc0_1
 have HR0_2 := A_.mk hr0_2
 have HC0_2 := A_.mk hc0_2
 clear hr0_2 hc0_2
 have HR0_3 := A_.mk hr0_3
 have HC0_3 := A_.mk hc0_3
 clear hr0_3 hc0_3
 have HB := A_.mk (Below.refl w.heap.size w)
 have H : ((impl_PassersOf.f k l0_0).bind fun t395 => (impl_Queue_next.l0 k t395 (t395.length : Int) 0 l0_0 l0_1 l0_2 l0_3)) = some r := h
 clear h
 replace H := ob_ H
 obtain ⟨t395, A20, H⟩ := H
 have A2 := A_.mk A20
 clear A20
 have H' := A_.mk H
 clear H
 go_enter Try.func59, Try.ntmps59
 go_wp2_with (first | ((with_reducible refine gd_ (N := 1) rfl ?_); refine by_ 1 (cs := #[.slice A0_0 l0_0.length c0_0, .slice A0_1 l0_1.length c0_1, .slice A0_2 l0_2.length c0_2, .slice A0_3 l0_3.length c0_3]) (t := 53) ?_; intro gb394 hg w3 hbox hb; have n0_ := A_.mk (bt_ (beY HB.out) hb); have n1_ := A_.mk (hbox); have n2_ := A_.mk ((by rw [hg]; exact (bz_ (beY HB.out)) : w.heap.size ≤ gb394)); have n3_ := A_.mk ((by rw [hg]; exact (bz_ (beY HB.out)) : w.heap.size ≤ gb394)); clear HB; have HB := n0_; have BK394 := n1_; have GW394 := n2_; have GE394 := n3_; clear n0_ n1_ n2_ n3_ hb hbox hg; have hcz4_0 : w3.cell? ⟨gb394, 0, none⟩ = some (.slice A0_0 l0_0.length c0_0) := (bc_ BK394.out 0).trans rfl; have hcz4_1 : w3.cell? ⟨gb394, 1, none⟩ = some (.slice A0_1 l0_1.length c0_1) := (bc_ BK394.out 1).trans rfl; have hcz4_2 : w3.cell? ⟨gb394, 2, none⟩ = some (.slice A0_2 l0_2.length c0_2) := (bc_ BK394.out 2).trans rfl; have hcz4_3 : w3.cell? ⟨gb394, 3, none⟩ = some (.slice A0_3 l0_3.length c0_3) := (bc_ BK394.out 3).trans rfl; have hfz4_0 := bf_ BK394.out 0; have hfz4_1 := bf_ BK394.out 1; have hfz4_2 := bf_ BK394.out 2; have hfz4_3 := bf_ BK394.out 3) | ((with_reducible refine gc_ (f := 20) rfl ?_); refine gl_ (some 7) Try.func20 #[.slice A0_0 l0_0.length c0_0] ?_; (with_reducible refine (impl_PassersOf.calls k _ _ l0_0 t395 _ ?side1 ?side2 A2.out).mono ?_); (case side1 => exact cY ((Kd.C_below HR0_0.out HB.out))); (case side2 => exact HC0_0.out); rintro e w5 ⟨v396, rfl, ho0, hb⟩; refine ⟨_, rfl, ?_⟩; have n0_ := A_.mk (Kd.R_lower ho0 (bz_ (by repeat (first | (with_reducible first | exact HB.out | apply ba_ | apply bd_ | apply be_ | refine bs_ ?_ GE394.out) | exact HB.out)))); have n1_ := A_.mk (bb_ (bY BK394.out) hb); have n2_ := A_.mk (bt_ (by repeat (first | (with_reducible first | exact HB.out | apply ba_ | apply bd_ | apply be_ | refine bs_ ?_ GE394.out) | exact HB.out)) hb); clear BK394 HB; have HO397 := n0_; have BK394 := n1_; have HB := n2_; clear n0_ n1_ n2_; (try clear hb); (try clear hb2); (try clear hk); (try clear hi); (try clear ho0); obtain ⟨Ao6, co6, eo6⟩ := Kd.R_slice HO397.out; subst eo6))
 go_loopg [9] k (fun kq v9 w' => ∃ (x9_1 : Int), v9 = .int .i64 x9_1 ∧ A_ (impl_Queue_next.l0 kq t395 (t395.length : Int) x9_1 l0_0 l0_1 l0_2 l0_3 = some r) ∧ A_ (kq ≤ k) ∧ A_ (Kd.R (Kd.int .i64) 3 w' w.heap.size (fun _ => True) (.slice Ao6 t395.length co6) t395) ∧ A_ (w'.heap[gb394]? = some (.cells #[(.slice A0_0 l0_0.length c0_0), (.slice A0_1 l0_1.length c0_1), (.slice A0_2 l0_2.length c0_2), (.slice A0_3 l0_3.length c0_3)] 53 (0, 0))) ∧ A_ (Below w.heap.size w w'))
 case atStart => exact ⟨(0), (by first | rfl | (simp; done) | (simp [*]; done)), H', ⟨Nat.le_refl _⟩, ⟨by (repeat apply rX); exact HO397.out⟩, ⟨by (repeat apply bX); exact BK394.out⟩, ⟨by repeat (first | (with_reducible first | exact HB.out | apply ba_ | apply bd_ | apply be_ | refine bs_ ?_ GE394.out) | exact HB.out)⟩⟩
 case round =>
  clear H'
  obtain ⟨x9_1, rfl, HA, HK1, HO_7, BK394, HB⟩ := hrel
  cases gk with
  | zero => exact absurd HA.out (by simp [impl_Queue_next.l0])
  | succ k1 =>
   have H := HA.out
   clear HA
   simp only [impl_Queue_next.l0] at H
   by_cases c7 : x9_1 < (t395.length : Int)
   rotate_left
   ·rw [if_neg c7] at H
    have c7b0 : decide (x9_1 < (t395.length : Int)) = false := decide_eq_false c7
    clear c7
    obtain rfl := Option.some.inj H
    go_wp2
    go_ret
    exact ⟨by first | rfl | (simp [errW_none, errW_some] <;> rfl) | (simp [*, errW_none, errW_some] <;> rfl), by repeat (first | (with_reducible first | exact HB.out | apply ba_ | apply bd_ | apply be_ | refine bs_ ?_ GE394.out) | exact HB.out)⟩
   rw [if_pos c7] at H
   have c7b0 : decide (x9_1 < (t395.length : Int)) = true := decide_eq_true c7
   clear c7
   by_cases c8 : 0 ≤ x9_1
   rotate_left
   ·rw [if_neg c8] at H
    exact absurd H (by simp)
   rw [if_pos c8] at H
   have c8b0 : decide (0 ≤ x9_1) = true := decide_eq_true c8
   clear c8
   by_cases c9 : x9_1 < (t395.length : Int)
   rotate_left
   ·rw [if_neg c9] at H
    exact absurd H (by simp)
   rw [if_pos c9] at H
   have c9b0 : decide (x9_1 < (t395.length : Int)) = true := decide_eq_true c9
   clear c9
   by_cases c10 : 0 ≤ (rd t395 x9_1)
   rotate_left
   ·rw [if_neg c10] at H
    exact absurd H (by simp)
   rw [if_pos c10] at H
   have c10b0 : decide (0 ≤ (rd t395 x9_1)) = true := decide_eq_true c10
   clear c10
   by_cases c11 : (rd t395 x9_1) < (l0_0.length : Int)
   rotate_left
   ·rw [if_neg c11] at H
    exact absurd H (by simp)
   rw [if_pos c11] at H
   have c11b0 : decide ((rd t395 x9_1) < (l0_0.length : Int)) = true := decide_eq_true c11
   clear c11
   replace H := ob_ H
   obtain ⟨t400, A120, H⟩ := H
   have A12 := A_.mk A120
   clear A120
   by_cases c13 : t400 = true
   ·subst c13
    have H1 : (some (rd t395 x9_1)) = some r := by rw [if_pos rfl] at H; exact H
    clear H
    have H := H1
    clear H1
    obtain rfl := Option.some.inj H
    have p398 : 0 ≤ (x9_1 : Int) := od_
    have q398 : x9_1 < (t395.length : Int) := od_
    obtain ⟨ad398, e398, hx398_0⟩ := Kd.at_int (Kd.R_reads' HO_7.out).2.2 x9_1 p398 q398
    cases e398
    replace p398 := eq_true p398
    replace q398 := eq_true q398
    try go_wp2
    have n0_ := A_.mk (Kd.R_drew HO_7.out)
    have n1_ := A_.mk (bw_ BK394.out)
    have n2_ := A_.mk (be_ HB.out)
    clear HO_7 BK394 HB
    have HO_7 := n0_
    have BK394 := n1_
    have HB := n2_
    clear n0_ n1_ n2_
    have p399 : 0 ≤ ((rd t395 x9_1) : Int) := od_
    have q399 : (rd t395 x9_1) < (l0_0.length : Int) := od_
    obtain ⟨ad399, A399_7, c399_7, e399, hx399_0, hx399_1, hx399_2, hx399_3, hx399_4, hx399_5, hx399_6, hx399_7, hl399_7, hi399_7⟩ := at_T60 HR0_0.out (rd t395 x9_1) p399 q399
    have hw399_7 := hx399_7
    have hw399_6 := hx399_6
    have hw399_5 := hx399_5
    have hw399_4 := hx399_4
    have hw399_3 := hx399_3
    have hw399_2 := hx399_2
    have hw399_1 := hx399_1
    have hw399_0 := hx399_0
    cases e399
    replace hx399_0 := (HB.out.cell (wl_ w _ hx399_0)).trans hx399_0
    replace hx399_1 := (HB.out.cell (wl_ w _ hx399_1)).trans hx399_1
    replace hx399_2 := (HB.out.cell (wl_ w _ hx399_2)).trans hx399_2
    replace hx399_3 := (HB.out.cell (wl_ w _ hx399_3)).trans hx399_3
    replace hx399_4 := (HB.out.cell (wl_ w _ hx399_4)).trans hx399_4
    replace hx399_5 := (HB.out.cell (wl_ w _ hx399_5)).trans hx399_5
    replace hx399_6 := (HB.out.cell (wl_ w _ hx399_6)).trans hx399_6
    replace hx399_7 := (HB.out.cell (wl_ w _ hx399_7)).trans hx399_7
    have HR399_7 := A_.mk hi399_7
    have HC399_7 := A_.mk hl399_7
    clear hi399_7 hl399_7
    replace p399 := eq_true p399
    replace q399 := eq_true q399
    refine start_ (n := 8) (S := fun w' => w'.cell? ⟨gb394, 0, none⟩ = some (.slice (some ad399) l0_0.length c0_0) ∧ w'.cell? ⟨gb394, 1, none⟩ = some (.slice A0_1 l0_1.length c0_1) ∧ w'.cell? ⟨gb394, 2, none⟩ = some (.slice A0_2 l0_2.length c0_2) ∧ w'.cell? ⟨gb394, 3, none⟩ = some (.slice A0_3 l0_3.length c0_3) ∧ w'.cell? (ad399.add (((rd t395 x9_1)).toNat * 8)) = some (.int .i64 ((rd_T60 l0_0 (rd t395 x9_1)).f0)) ∧ w'.cell? ⟨(ad399.add (((rd t395 x9_1)).toNat * 8)).block, (ad399.add (((rd t395 x9_1)).toNat * 8)).off + 1, none⟩ = some (.int .i64 ((rd_T60 l0_0 (rd t395 x9_1)).f1)) ∧ w'.cell? ⟨(ad399.add (((rd t395 x9_1)).toNat * 8)).block, (ad399.add (((rd t395 x9_1)).toNat * 8)).off + 2, none⟩ = some (.int .i64 ((rd_T60 l0_0 (rd t395 x9_1)).f2)) ∧ w'.cell? ⟨(ad399.add (((rd t395 x9_1)).toNat * 8)).block, (ad399.add (((rd t395 x9_1)).toNat * 8)).off + 3, none⟩ = some (.int .i64 ((rd_T60 l0_0 (rd t395 x9_1)).f3)) ∧ w'.cell? ⟨(ad399.add (((rd t395 x9_1)).toNat * 8)).block, (ad399.add (((rd t395 x9_1)).toNat * 8)).off + 4, none⟩ = some (.int .i64 ((rd_T60 l0_0 (rd t395 x9_1)).f4)) ∧ w'.cell? ⟨(ad399.add (((rd t395 x9_1)).toNat * 8)).block, (ad399.add (((rd t395 x9_1)).toNat * 8)).off + 5, none⟩ = some (.int .i64 ((rd_T60 l0_0 (rd t395 x9_1)).f5)) ∧ w'.cell? ⟨(ad399.add (((rd t395 x9_1)).toNat * 8)).block, (ad399.add (((rd t395 x9_1)).toNat * 8)).off + 6, none⟩ = some (.int .i64 ((rd_T60 l0_0 (rd t395 x9_1)).f6)) ∧ w'.cell? ⟨(ad399.add (((rd t395 x9_1)).toNat * 8)).block, (ad399.add (((rd t395 x9_1)).toNat * 8)).off + 7, none⟩ = some (.slice A399_7 ((rd_T60 l0_0 (rd t395 x9_1)).f7).length c399_7)) (ds := []) #[F, F, F, F, F, F, F, F] (by kernel_rfl) rfl rfl ⟨(bc_ BK394.out 0).trans rfl, (bc_ BK394.out 1).trans rfl, (bc_ BK394.out 2).trans rfl, (bc_ BK394.out 3).trans rfl, ((HB.out.cell (wl_ w _ hw399_0)).trans hw399_0), ((HB.out.cell (wl_ w _ hw399_1)).trans hw399_1), ((HB.out.cell (wl_ w _ hw399_2)).trans hw399_2), ((HB.out.cell (wl_ w _ hw399_3)).trans hw399_3), ((HB.out.cell (wl_ w _ hw399_4)).trans hw399_4), ((HB.out.cell (wl_ w _ hw399_5)).trans hw399_5), ((HB.out.cell (wl_ w _ hw399_6)).trans hw399_6), ((HB.out.cell (wl_ w _ hw399_7)).trans hw399_7)⟩ (fun hHeld => ?_); refine with_tabW impl_Queue_next.tab4 impl_Queue_next.bits4 (fun HT_ HW_ => ?_)
    generalize wr.drew = w14 at HO_7 BK394 HB HR399_7 hx399_0 hx399_1 hx399_2 hx399_3 hx399_4 hx399_5 hx399_6 hx399_7 hHeld ⊢
    refine pr_ (i := 0) (N := some 13) #[T, F, F, F, F, F, F, F] rfl HT_.out ?_
    refine pr_ (i := 2) (N := some 15) #[T, F, T, F, F, F, F, F] rfl HT_.out ?_
    refine pr_ (i := 4) (N := some 17) #[T, F, T, F, T, F, F, F] rfl HT_.out ?_
    refine take_ (i := 1) (N := some 14) (v := ?_) (a' := ?_) #[T, T, T, F, T, F, F, F] rfl rfl (take_ofW HT_.out HW_.out (by kernel_rfl)) (fun _ _ _ h => h) (Or.inl ⟨by rfl, ?_⟩) hHeld ?_ ?_
    rotate_left
    ·rintro w' ⟨s0, s1, s2, s3, s4, s5, s6, s7, s8, s9, s10, s11⟩
     go_simp
     with_reducible rfl
    rotate_left
    ·simp only [pS]
     rfl
    refine take_ (i := 3) (N := some 16) (v := ?_) (a' := ?_) #[T, T, T, T, T, F, F, F] rfl rfl (take_ofW HT_.out HW_.out (by kernel_rfl)) (fun _ _ _ h => h) (Or.inl ⟨by rfl, ?_⟩) hHeld ?_ ?_
    rotate_left
    ·rintro w' ⟨s0, s1, s2, s3, s4, s5, s6, s7, s8, s9, s10, s11⟩
     go_simp
     with_reducible rfl
    rotate_left
    ·simp only [pS]
     rfl
    refine pr_ (i := 5) (N := some 18) #[T, T, T, T, T, T, F, F] rfl HT_.out ?_
    refine take_ (i := 6) (N := some 19) (v := ?_) (a' := ?_) #[T, T, T, T, T, T, T, F] rfl rfl (take_ofW HT_.out HW_.out (by kernel_rfl)) (fun _ _ _ h => h) (Or.inl ⟨by rfl, ?_⟩) hHeld ?_ ?_
    rotate_left
    ·rintro w' ⟨s0, s1, s2, s3, s4, s5, s6, s7, s8, s9, s10, s11⟩
     go_simp
     with_reducible rfl
    rotate_left
    ·simp only [pS]
     rfl
    refine one_ (i := 7) (N := some 20) #[T, T, T, T, T, T, T, T] rfl rfl (one_of HT_.out (by kernel_rfl)) (by decide) (fun K hK => ?_)
    refine goes_ Try.func64 (by kernel_rfl) rfl #[.agg #[.slice A0_1 l0_1.length c0_1, .slice A0_2 l0_2.length c0_2], .agg #[.int .i64 ((rd_T60 l0_0 (rd t395 x9_1)).f0), .int .i64 ((rd_T60 l0_0 (rd t395 x9_1)).f1), .int .i64 ((rd_T60 l0_0 (rd t395 x9_1)).f2), .int .i64 ((rd_T60 l0_0 (rd t395 x9_1)).f3), .int .i64 ((rd_T60 l0_0 (rd t395 x9_1)).f4), .int .i64 ((rd_T60 l0_0 (rd t395 x9_1)).f5), .int .i64 ((rd_T60 l0_0 (rd t395 x9_1)).f6), .slice A399_7 ((rd_T60 l0_0 (rd t395 x9_1)).f7).length c399_7]] (by rfl) rfl rfl (by (try simp only [List.map_toArray, List.map_cons, List.map_nil]); first | done | rfl) ?_
    with_reducible refine (impl_CanSend.calls k1 _ _ l0_1 _ _ l0_2 ((rd_T60 l0_0 (rd t395 x9_1)).f0) ((rd_T60 l0_0 (rd t395 x9_1)).f1) ((rd_T60 l0_0 (rd t395 x9_1)).f2) ((rd_T60 l0_0 (rd t395 x9_1)).f3) ((rd_T60 l0_0 (rd t395 x9_1)).f4) ((rd_T60 l0_0 (rd t395 x9_1)).f5) ((rd_T60 l0_0 (rd t395 x9_1)).f6) _ _ ((rd_T60 l0_0 (rd t395 x9_1)).f7) true _ ?side1 ?side2 ?side3 ?side4 ?side5 ?side6 A12.out).mono ?_
    (case side1 => exact cY ((Kd.C_below HR0_1.out HB.out)))
    (case side2 => exact HC0_1.out)
    (case side3 => exact cY ((Kd.C_below HR0_2.out HB.out)))
    (case side4 => exact HC0_2.out)
    (case side5 => exact cY ((Kd.C_below HR399_7.out HB.out)))
    (case side6 => exact HC399_7.out)
    rintro e w15 ⟨rfl, hb⟩
    refine ⟨_, rfl, ?_⟩
    have n0_ := A_.mk (Kd.R_below (rY HO_7.out) hb)
    have n1_ := A_.mk (bb_ (bY BK394.out) hb)
    have n2_ := A_.mk (bt_ (by repeat (first | (with_reducible first | exact HB.out | apply ba_ | apply bd_ | apply be_ | refine bs_ ?_ GE394.out) | exact HB.out)) hb)
    clear HO_7 BK394 HB
    have HO_7 := n0_
    have BK394 := n1_
    have HB := n2_
    clear n0_ n1_ n2_
    refine hK.out _ _ ⟨(bc_ BK394.out 0).trans rfl, (bc_ BK394.out 1).trans rfl, (bc_ BK394.out 2).trans rfl, (bc_ BK394.out 3).trans rfl, ((HB.out.cell (wl_ w _ hw399_0)).trans hw399_0), ((HB.out.cell (wl_ w _ hw399_1)).trans hw399_1), ((HB.out.cell (wl_ w _ hw399_2)).trans hw399_2), ((HB.out.cell (wl_ w _ hw399_3)).trans hw399_3), ((HB.out.cell (wl_ w _ hw399_4)).trans hw399_4), ((HB.out.cell (wl_ w _ hw399_5)).trans hw399_5), ((HB.out.cell (wl_ w _ hw399_6)).trans hw399_6), ((HB.out.cell (wl_ w _ hw399_7)).trans hw399_7)⟩ (fun hHeld => ?_)
    clear hK K
    refine norm_ (a' := ?_) ?_ ?_
    rotate_left
    ·show Act.put _ (some 20) _ = _
     simp only [pS]
     rfl
    refine done_ (done_of HT_.out (by kernel_rfl)) ?_
    try go_wp2
    go_ret
    exact ⟨by first | rfl | (simp [errW_none, errW_some] <;> rfl) | (simp [*, errW_none, errW_some] <;> rfl), by repeat (first | (with_reducible first | exact HB.out | apply ba_ | apply bd_ | apply be_ | refine bs_ ?_ GE394.out) | exact HB.out)⟩
   replace c13 := Bool.eq_false_iff.mpr c13
   subst c13
   have H1 : (impl_Queue_next.l0 k1 t395 (t395.length : Int) (wrap64 (x9_1 + 1)) l0_0 l0_1 l0_2 l0_3) = some r := by rw [if_neg (show ¬ (false = true) by decide)] at H; exact H
   clear H
   have H := H1
   clear H1
   have H' := A_.mk H
   clear H
   have p398 : 0 ≤ (x9_1 : Int) := od_
   have q398 : x9_1 < (t395.length : Int) := od_
   obtain ⟨ad398, e398, hx398_0⟩ := Kd.at_int (Kd.R_reads' HO_7.out).2.2 x9_1 p398 q398
   cases e398
   replace p398 := eq_true p398
   replace q398 := eq_true q398
   try go_wp2
   have n0_ := A_.mk (Kd.R_drew HO_7.out)
   have n1_ := A_.mk (bw_ BK394.out)
   have n2_ := A_.mk (be_ HB.out)
   clear HO_7 BK394 HB
   have HO_7 := n0_
   have BK394 := n1_
   have HB := n2_
   clear n0_ n1_ n2_
   have p399 : 0 ≤ ((rd t395 x9_1) : Int) := od_
   have q399 : (rd t395 x9_1) < (l0_0.length : Int) := od_
   obtain ⟨ad399, A399_7, c399_7, e399, hx399_0, hx399_1, hx399_2, hx399_3, hx399_4, hx399_5, hx399_6, hx399_7, hl399_7, hi399_7⟩ := at_T60 HR0_0.out (rd t395 x9_1) p399 q399
   have hw399_7 := hx399_7
   have hw399_6 := hx399_6
   have hw399_5 := hx399_5
   have hw399_4 := hx399_4
   have hw399_3 := hx399_3
   have hw399_2 := hx399_2
   have hw399_1 := hx399_1
   have hw399_0 := hx399_0
   cases e399
   replace hx399_0 := (HB.out.cell (wl_ w _ hx399_0)).trans hx399_0
   replace hx399_1 := (HB.out.cell (wl_ w _ hx399_1)).trans hx399_1
   replace hx399_2 := (HB.out.cell (wl_ w _ hx399_2)).trans hx399_2
   replace hx399_3 := (HB.out.cell (wl_ w _ hx399_3)).trans hx399_3
   replace hx399_4 := (HB.out.cell (wl_ w _ hx399_4)).trans hx399_4
   replace hx399_5 := (HB.out.cell (wl_ w _ hx399_5)).trans hx399_5
   replace hx399_6 := (HB.out.cell (wl_ w _ hx399_6)).trans hx399_6
   replace hx399_7 := (HB.out.cell (wl_ w _ hx399_7)).trans hx399_7
   have HR399_7 := A_.mk hi399_7
   have HC399_7 := A_.mk hl399_7
   clear hi399_7 hl399_7
   replace p399 := eq_true p399
   replace q399 := eq_true q399
   refine start_ (n := 8) (S := fun w' => w'.cell? ⟨gb394, 0, none⟩ = some (.slice (some ad399) l0_0.length c0_0) ∧ w'.cell? ⟨gb394, 1, none⟩ = some (.slice A0_1 l0_1.length c0_1) ∧ w'.cell? ⟨gb394, 2, none⟩ = some (.slice A0_2 l0_2.length c0_2) ∧ w'.cell? ⟨gb394, 3, none⟩ = some (.slice A0_3 l0_3.length c0_3) ∧ w'.cell? (ad399.add (((rd t395 x9_1)).toNat * 8)) = some (.int .i64 ((rd_T60 l0_0 (rd t395 x9_1)).f0)) ∧ w'.cell? ⟨(ad399.add (((rd t395 x9_1)).toNat * 8)).block, (ad399.add (((rd t395 x9_1)).toNat * 8)).off + 1, none⟩ = some (.int .i64 ((rd_T60 l0_0 (rd t395 x9_1)).f1)) ∧ w'.cell? ⟨(ad399.add (((rd t395 x9_1)).toNat * 8)).block, (ad399.add (((rd t395 x9_1)).toNat * 8)).off + 2, none⟩ = some (.int .i64 ((rd_T60 l0_0 (rd t395 x9_1)).f2)) ∧ w'.cell? ⟨(ad399.add (((rd t395 x9_1)).toNat * 8)).block, (ad399.add (((rd t395 x9_1)).toNat * 8)).off + 3, none⟩ = some (.int .i64 ((rd_T60 l0_0 (rd t395 x9_1)).f3)) ∧ w'.cell? ⟨(ad399.add (((rd t395 x9_1)).toNat * 8)).block, (ad399.add (((rd t395 x9_1)).toNat * 8)).off + 4, none⟩ = some (.int .i64 ((rd_T60 l0_0 (rd t395 x9_1)).f4)) ∧ w'.cell? ⟨(ad399.add (((rd t395 x9_1)).toNat * 8)).block, (ad399.add (((rd t395 x9_1)).toNat * 8)).off + 5, none⟩ = some (.int .i64 ((rd_T60 l0_0 (rd t395 x9_1)).f5)) ∧ w'.cell? ⟨(ad399.add (((rd t395 x9_1)).toNat * 8)).block, (ad399.add (((rd t395 x9_1)).toNat * 8)).off + 6, none⟩ = some (.int .i64 ((rd_T60 l0_0 (rd t395 x9_1)).f6)) ∧ w'.cell? ⟨(ad399.add (((rd t395 x9_1)).toNat * 8)).block, (ad399.add (((rd t395 x9_1)).toNat * 8)).off + 7, none⟩ = some (.slice A399_7 ((rd_T60 l0_0 (rd t395 x9_1)).f7).length c399_7)) (ds := []) #[F, F, F, F, F, F, F, F] (by kernel_rfl) rfl rfl ⟨(bc_ BK394.out 0).trans rfl, (bc_ BK394.out 1).trans rfl, (bc_ BK394.out 2).trans rfl, (bc_ BK394.out 3).trans rfl, ((HB.out.cell (wl_ w _ hw399_0)).trans hw399_0), ((HB.out.cell (wl_ w _ hw399_1)).trans hw399_1), ((HB.out.cell (wl_ w _ hw399_2)).trans hw399_2), ((HB.out.cell (wl_ w _ hw399_3)).trans hw399_3), ((HB.out.cell (wl_ w _ hw399_4)).trans hw399_4), ((HB.out.cell (wl_ w _ hw399_5)).trans hw399_5), ((HB.out.cell (wl_ w _ hw399_6)).trans hw399_6), ((HB.out.cell (wl_ w _ hw399_7)).trans hw399_7)⟩ (fun hHeld => ?_); refine with_tabW impl_Queue_next.tab4 impl_Queue_next.bits4 (fun HT_ HW_ => ?_)
   generalize wr.drew = w16 at HO_7 BK394 HB HR399_7 hx399_0 hx399_1 hx399_2 hx399_3 hx399_4 hx399_5 hx399_6 hx399_7 hHeld ⊢
   refine pr_ (i := 0) (N := some 13) #[T, F, F, F, F, F, F, F] rfl HT_.out ?_
   refine pr_ (i := 2) (N := some 15) #[T, F, T, F, F, F, F, F] rfl HT_.out ?_
   refine pr_ (i := 4) (N := some 17) #[T, F, T, F, T, F, F, F] rfl HT_.out ?_
   refine take_ (i := 1) (N := some 14) (v := ?_) (a' := ?_) #[T, T, T, F, T, F, F, F] rfl rfl (take_ofW HT_.out HW_.out (by kernel_rfl)) (fun _ _ _ h => h) (Or.inl ⟨by rfl, ?_⟩) hHeld ?_ ?_
   rotate_left
   ·rintro w' ⟨s0, s1, s2, s3, s4, s5, s6, s7, s8, s9, s10, s11⟩
    go_simp
    with_reducible rfl
   rotate_left
   ·simp only [pS]
    rfl
   refine take_ (i := 3) (N := some 16) (v := ?_) (a' := ?_) #[T, T, T, T, T, F, F, F] rfl rfl (take_ofW HT_.out HW_.out (by kernel_rfl)) (fun _ _ _ h => h) (Or.inl ⟨by rfl, ?_⟩) hHeld ?_ ?_
   rotate_left
   ·rintro w' ⟨s0, s1, s2, s3, s4, s5, s6, s7, s8, s9, s10, s11⟩
    go_simp
    with_reducible rfl
   rotate_left
   ·simp only [pS]
    rfl
   refine pr_ (i := 5) (N := some 18) #[T, T, T, T, T, T, F, F] rfl HT_.out ?_
   refine take_ (i := 6) (N := some 19) (v := ?_) (a' := ?_) #[T, T, T, T, T, T, T, F] rfl rfl (take_ofW HT_.out HW_.out (by kernel_rfl)) (fun _ _ _ h => h) (Or.inl ⟨by rfl, ?_⟩) hHeld ?_ ?_
   rotate_left
   ·rintro w' ⟨s0, s1, s2, s3, s4, s5, s6, s7, s8, s9, s10, s11⟩
    go_simp
    with_reducible rfl
   rotate_left
   ·simp only [pS]
    rfl
   refine one_ (i := 7) (N := some 20) #[T, T, T, T, T, T, T, T] rfl rfl (one_of HT_.out (by kernel_rfl)) (by decide) (fun K hK => ?_)
   refine goes_ Try.func64 (by kernel_rfl) rfl #[.agg #[.slice A0_1 l0_1.length c0_1, .slice A0_2 l0_2.length c0_2], .agg #[.int .i64 ((rd_T60 l0_0 (rd t395 x9_1)).f0), .int .i64 ((rd_T60 l0_0 (rd t395 x9_1)).f1), .int .i64 ((rd_T60 l0_0 (rd t395 x9_1)).f2), .int .i64 ((rd_T60 l0_0 (rd t395 x9_1)).f3), .int .i64 ((rd_T60 l0_0 (rd t395 x9_1)).f4), .int .i64 ((rd_T60 l0_0 (rd t395 x9_1)).f5), .int .i64 ((rd_T60 l0_0 (rd t395 x9_1)).f6), .slice A399_7 ((rd_T60 l0_0 (rd t395 x9_1)).f7).length c399_7]] (by rfl) rfl rfl (by (try simp only [List.map_toArray, List.map_cons, List.map_nil]); first | done | rfl) ?_
   with_reducible refine (impl_CanSend.calls k1 _ _ l0_1 _ _ l0_2 ((rd_T60 l0_0 (rd t395 x9_1)).f0) ((rd_T60 l0_0 (rd t395 x9_1)).f1) ((rd_T60 l0_0 (rd t395 x9_1)).f2) ((rd_T60 l0_0 (rd t395 x9_1)).f3) ((rd_T60 l0_0 (rd t395 x9_1)).f4) ((rd_T60 l0_0 (rd t395 x9_1)).f5) ((rd_T60 l0_0 (rd t395 x9_1)).f6) _ _ ((rd_T60 l0_0 (rd t395 x9_1)).f7) false _ ?side1 ?side2 ?side3 ?side4 ?side5 ?side6 A12.out).mono ?_
   (case side1 => exact cY ((Kd.C_below HR0_1.out HB.out)))
   (case side2 => exact HC0_1.out)
   (case side3 => exact cY ((Kd.C_below HR0_2.out HB.out)))
   (case side4 => exact HC0_2.out)
   (case side5 => exact cY ((Kd.C_below HR399_7.out HB.out)))
   (case side6 => exact HC399_7.out)
   rintro e w17 ⟨rfl, hb⟩
   refine ⟨_, rfl, ?_⟩
   have n0_ := A_.mk (Kd.R_below (rY HO_7.out) hb)
   have n1_ := A_.mk (bb_ (bY BK394.out) hb)
   have n2_ := A_.mk (bt_ (by repeat (first | (with_reducible first | exact HB.out | apply ba_ | apply bd_ | apply be_ | refine bs_ ?_ GE394.out) | exact HB.out)) hb)
   clear HO_7 BK394 HB
   have HO_7 := n0_
   have BK394 := n1_
   have HB := n2_
   clear n0_ n1_ n2_
   refine hK.out _ _ ⟨(bc_ BK394.out 0).trans rfl, (bc_ BK394.out 1).trans rfl, (bc_ BK394.out 2).trans rfl, (bc_ BK394.out 3).trans rfl, ((HB.out.cell (wl_ w _ hw399_0)).trans hw399_0), ((HB.out.cell (wl_ w _ hw399_1)).trans hw399_1), ((HB.out.cell (wl_ w _ hw399_2)).trans hw399_2), ((HB.out.cell (wl_ w _ hw399_3)).trans hw399_3), ((HB.out.cell (wl_ w _ hw399_4)).trans hw399_4), ((HB.out.cell (wl_ w _ hw399_5)).trans hw399_5), ((HB.out.cell (wl_ w _ hw399_6)).trans hw399_6), ((HB.out.cell (wl_ w _ hw399_7)).trans hw399_7)⟩ (fun hHeld => ?_)
   clear hK K
   refine norm_ (a' := ?_) ?_ ?_
   rotate_left
   ·show Act.put _ (some 20) _ = _
    simp only [pS]
    rfl
   refine done_ (done_of HT_.out (by kernel_rfl)) ?_
   try go_wp2
   go_roundg k1
   case measure => have := HK1.out; omega
   case rel => exact ⟨(wrap64 (x9_1 + 1)), (by first | rfl | (simp; done) | (simp [*]; done)), H', ⟨by have := HK1.out; omega⟩, ⟨by (repeat apply rX); exact HO_7.out⟩, ⟨by (repeat apply bX); exact BK394.out⟩, ⟨by repeat (first | (with_reducible first | exact HB.out | apply ba_ | apply bd_ | apply be_ | refine bs_ ?_ GE394.out) | exact HB.out)⟩⟩
/-! ### impl_NextOut: function 31 -/
def impl_NextOut.f (k : Nat) (l0_0 : List (S60)) (l0_1 : List Int) (l0_2 : List Int) (l0_3 : List (S60)) : Option (Int) := (impl_QueueOk.f k l0_0 l0_1 l0_2 l0_3).bind fun t402 => (if t402 = true then ((impl_Queue_next.f k l0_0 l0_1 l0_2 l0_3).bind fun t403 => (some t403)) else (some (-1)))
set_option maxHeartbeats 8000000 in
set_option maxRecDepth 100000 in
theorem impl_NextOut.calls (k : Nat) (A0_0 : Option Addr) (c0_0 : Nat) (l0_0 : List (S60)) (A0_1 : Option Addr) (c0_1 : Nat) (l0_1 : List Int) (A0_2 : Option Addr) (c0_2 : Nat) (l0_2 : List Int) (A0_3 : Option Addr) (c0_3 : Nat) (l0_3 : List (S60)) (r : Int) (w : World) (hr0_0 : Kd.C k60 w A0_0 l0_0.length l0_0) (hc0_0 : l0_0.length ≤ c0_0) (hr0_1 : Kd.C (Kd.int .i64) w A0_1 l0_1.length l0_1) (hc0_1 : l0_1.length ≤ c0_1) (hr0_2 : Kd.C (Kd.int .i64) w A0_2 l0_2.length l0_2) (hc0_2 : l0_2.length ≤ c0_2) (hr0_3 : Kd.C k60 w A0_3 l0_3.length l0_3) (hc0_3 : l0_3.length ≤ c0_3) (h : impl_NextOut.f k l0_0 l0_1 l0_2 l0_3 = some r) :
  Calls Try.prog 31 #[.agg #[.slice A0_0 l0_0.length c0_0, .slice A0_1 l0_1.length c0_1, .slice A0_2 l0_2.length c0_2, .slice A0_3 l0_3.length c0_3]] w fun e w' => e = .returned (.int .i64 r) ∧ Below w.heap.size w w' := by
 have hu53 := Try.underlying53
 have HR0_0 := A_.mk hr0_0
 have HC0_0 := A_.mk hc0_0
 clear hr0_0 hc0_0
 have HR0_1 := A_.mk hr0_1
 have HC0_1 := A_.mk hc0_1
 clear hr0_1 hc0_1
 have HR0_2 := A_.mk hr0_2
 have HC0_2 := A_.mk hc0_2
 clear hr0_2 hc0_2
 have HR0_3 := A_.mk hr0_3
 have HC0_3 := A_.mk hc0_3
 clear hr0_3 hc0_3
 have HB := A_.mk (Below.refl w.heap.size w)
 have H : ((impl_QueueOk.f k l0_0 l0_1 l0_2 l0_3).bind fun t402 => (if t402 = true then ((impl_Queue_next.f k l0_0 l0_1 l0_2 l0_3).bind fun t403 => (some t403)) else (some (-1)))) = some r := h
 clear h
 replace H := ob_ H
 obtain ⟨t402, A20, H⟩ := H
 have A2 := A_.mk A20
 clear A20
 by_cases c3 : t402 = true
 rotate_left
 ·replace c3 := Bool.eq_false_iff.mpr c3
  subst c3
  have H1 : (some (-1)) = some r := by rw [if_neg (show ¬ (false = true) by decide)] at H; exact H
  clear H
  have H := H1
  clear H1
  obtain rfl := Option.some.inj H
  go_enter Try.func31, Try.ntmps31
  go_wp2_with (first | ((with_reducible refine gd_ (N := 1) rfl ?_); refine by_ 1 (cs := #[.slice A0_0 l0_0.length c0_0, .slice A0_1 l0_1.length c0_1, .slice A0_2 l0_2.length c0_2, .slice A0_3 l0_3.length c0_3]) (t := 53) ?_; intro gb401 hg w10 hbox hb; have n0_ := A_.mk (bt_ (beY HB.out) hb); have n1_ := A_.mk (hbox); have n2_ := A_.mk ((by rw [hg]; exact (bz_ (beY HB.out)) : w.heap.size ≤ gb401)); have n3_ := A_.mk ((by rw [hg]; exact (bz_ (beY HB.out)) : w.heap.size ≤ gb401)); clear HB; have HB := n0_; have BK401 := n1_; have GW401 := n2_; have GE401 := n3_; clear n0_ n1_ n2_ n3_ hb hbox hg; have hcz11_0 : w10.cell? ⟨gb401, 0, none⟩ = some (.slice A0_0 l0_0.length c0_0) := (bc_ BK401.out 0).trans rfl; have hcz11_1 : w10.cell? ⟨gb401, 1, none⟩ = some (.slice A0_1 l0_1.length c0_1) := (bc_ BK401.out 1).trans rfl; have hcz11_2 : w10.cell? ⟨gb401, 2, none⟩ = some (.slice A0_2 l0_2.length c0_2) := (bc_ BK401.out 2).trans rfl; have hcz11_3 : w10.cell? ⟨gb401, 3, none⟩ = some (.slice A0_3 l0_3.length c0_3) := (bc_ BK401.out 3).trans rfl; have hfz11_0 := bf_ BK401.out 0; have hfz11_1 := bf_ BK401.out 1; have hfz11_2 := bf_ BK401.out 2; have hfz11_3 := bf_ BK401.out 3) | ((with_reducible refine gc_ (f := 34) rfl ?_); refine gl_ (some 4) Try.func34 #[.agg #[.slice A0_0 l0_0.length c0_0, .slice A0_1 l0_1.length c0_1, .slice A0_2 l0_2.length c0_2, .slice A0_3 l0_3.length c0_3]] ?_; (with_reducible refine (impl_QueueOk.calls k _ _ l0_0 _ _ l0_1 _ _ l0_2 _ _ l0_3 false _ ?side1 ?side2 ?side3 ?side4 ?side5 ?side6 ?side7 ?side8 A2.out).mono ?_); (case side1 => exact cY ((Kd.C_below HR0_0.out HB.out))); (case side2 => exact HC0_0.out); (case side3 => exact cY ((Kd.C_below HR0_1.out HB.out))); (case side4 => exact HC0_1.out); (case side5 => exact cY ((Kd.C_below HR0_2.out HB.out))); (case side6 => exact HC0_2.out); (case side7 => exact cY ((Kd.C_below HR0_3.out HB.out))); (case side8 => exact HC0_3.out); rintro e w12 ⟨rfl, hb⟩; refine ⟨_, rfl, ?_⟩; have n0_ := A_.mk (bb_ (bY BK401.out) hb); have n1_ := A_.mk (bt_ (by repeat (first | (with_reducible first | exact HB.out | apply ba_ | apply bd_ | apply be_ | refine bs_ ?_ GE401.out) | exact HB.out)) hb); clear BK401 HB; have BK401 := n0_; have HB := n1_; clear n0_ n1_; (try clear hb); (try clear hb2); (try clear hk); (try clear hi)))
  go_ret
  exact ⟨by first | rfl | (simp [errW_none, errW_some] <;> rfl) | (simp [*, errW_none, errW_some] <;> rfl), by repeat (first | (with_reducible first | exact HB.out | apply ba_ | apply bd_ | apply be_ | refine bs_ ?_ GE401.out) | exact HB.out)⟩
 subst c3
 have H1 : ((impl_Queue_next.f k l0_0 l0_1 l0_2 l0_3).bind fun t403 => (some t403)) = some r := by rw [if_pos rfl] at H; exact H
 clear H
 have H := H1
 clear H1
 replace H := ob_ H
 obtain ⟨t403, A40, H⟩ := H
 have A4 := A_.mk A40
 clear A40
 obtain rfl := Option.some.inj H
 go_enter Try.func31, Try.ntmps31
 go_wp2_with (first | ((with_reducible refine gd_ (N := 1) rfl ?_); refine by_ 1 (cs := #[.slice A0_0 l0_0.length c0_0, .slice A0_1 l0_1.length c0_1, .slice A0_2 l0_2.length c0_2, .slice A0_3 l0_3.length c0_3]) (t := 53) ?_; intro gb401 hg w5 hbox hb; have n0_ := A_.mk (bt_ (beY HB.out) hb); have n1_ := A_.mk (hbox); have n2_ := A_.mk ((by rw [hg]; exact (bz_ (beY HB.out)) : w.heap.size ≤ gb401)); have n3_ := A_.mk ((by rw [hg]; exact (bz_ (beY HB.out)) : w.heap.size ≤ gb401)); clear HB; have HB := n0_; have BK401 := n1_; have GW401 := n2_; have GE401 := n3_; clear n0_ n1_ n2_ n3_ hb hbox hg; have hcz6_0 : w5.cell? ⟨gb401, 0, none⟩ = some (.slice A0_0 l0_0.length c0_0) := (bc_ BK401.out 0).trans rfl; have hcz6_1 : w5.cell? ⟨gb401, 1, none⟩ = some (.slice A0_1 l0_1.length c0_1) := (bc_ BK401.out 1).trans rfl; have hcz6_2 : w5.cell? ⟨gb401, 2, none⟩ = some (.slice A0_2 l0_2.length c0_2) := (bc_ BK401.out 2).trans rfl; have hcz6_3 : w5.cell? ⟨gb401, 3, none⟩ = some (.slice A0_3 l0_3.length c0_3) := (bc_ BK401.out 3).trans rfl; have hfz6_0 := bf_ BK401.out 0; have hfz6_1 := bf_ BK401.out 1; have hfz6_2 := bf_ BK401.out 2; have hfz6_3 := bf_ BK401.out 3) | ((with_reducible refine gc_ (f := 34) rfl ?_); refine gl_ (some 4) Try.func34 #[.agg #[.slice A0_0 l0_0.length c0_0, .slice A0_1 l0_1.length c0_1, .slice A0_2 l0_2.length c0_2, .slice A0_3 l0_3.length c0_3]] ?_; (with_reducible refine (impl_QueueOk.calls k _ _ l0_0 _ _ l0_1 _ _ l0_2 _ _ l0_3 true _ ?side1 ?side2 ?side3 ?side4 ?side5 ?side6 ?side7 ?side8 A2.out).mono ?_); (case side1 => exact cY ((Kd.C_below HR0_0.out HB.out))); (case side2 => exact HC0_0.out); (case side3 => exact cY ((Kd.C_below HR0_1.out HB.out))); (case side4 => exact HC0_1.out); (case side5 => exact cY ((Kd.C_below HR0_2.out HB.out))); (case side6 => exact HC0_2.out); (case side7 => exact cY ((Kd.C_below HR0_3.out HB.out))); (case side8 => exact HC0_3.out); rintro e w7 ⟨rfl, hb⟩; refine ⟨_, rfl, ?_⟩; have n0_ := A_.mk (bb_ (bY BK401.out) hb); have n1_ := A_.mk (bt_ (by repeat (first | (with_reducible first | exact HB.out | apply ba_ | apply bd_ | apply be_ | refine bs_ ?_ GE401.out) | exact HB.out)) hb); clear BK401 HB; have BK401 := n0_; have HB := n1_; clear n0_ n1_; (try clear hb); (try clear hb2); (try clear hk); (try clear hi); have hcz8_0 : w7.cell? ⟨gb401, 0, none⟩ = some (.slice A0_0 l0_0.length c0_0) := (bc_ BK401.out 0).trans rfl; have hcz8_1 : w7.cell? ⟨gb401, 1, none⟩ = some (.slice A0_1 l0_1.length c0_1) := (bc_ BK401.out 1).trans rfl; have hcz8_2 : w7.cell? ⟨gb401, 2, none⟩ = some (.slice A0_2 l0_2.length c0_2) := (bc_ BK401.out 2).trans rfl; have hcz8_3 : w7.cell? ⟨gb401, 3, none⟩ = some (.slice A0_3 l0_3.length c0_3) := (bc_ BK401.out 3).trans rfl; have hfz8_0 := bf_ BK401.out 0; have hfz8_1 := bf_ BK401.out 1; have hfz8_2 := bf_ BK401.out 2; have hfz8_3 := bf_ BK401.out 3) | ((with_reducible refine gc_ (f := 59) rfl ?_); refine gl_ (some 7) Try.func59 #[.agg #[.slice A0_0 l0_0.length c0_0, .slice A0_1 l0_1.length c0_1, .slice A0_2 l0_2.length c0_2, .slice A0_3 l0_3.length c0_3]] ?_; (with_reducible refine (impl_Queue_next.calls k _ _ l0_0 _ _ l0_1 _ _ l0_2 _ _ l0_3 t403 _ ?side1 ?side2 ?side3 ?side4 ?side5 ?side6 ?side7 ?side8 A4.out).mono ?_); (case side1 => exact cY ((Kd.C_below HR0_0.out HB.out))); (case side2 => exact HC0_0.out); (case side3 => exact cY ((Kd.C_below HR0_1.out HB.out))); (case side4 => exact HC0_1.out); (case side5 => exact cY ((Kd.C_below HR0_2.out HB.out))); (case side6 => exact HC0_2.out); (case side7 => exact cY ((Kd.C_below HR0_3.out HB.out))); (case side8 => exact HC0_3.out); rintro e w9 ⟨rfl, hb⟩; refine ⟨_, rfl, ?_⟩; have n0_ := A_.mk (bb_ (bY BK401.out) hb); have n1_ := A_.mk (bt_ (by repeat (first | (with_reducible first | exact HB.out | apply ba_ | apply bd_ | apply be_ | refine bs_ ?_ GE401.out) | exact HB.out)) hb); clear BK401 HB; have BK401 := n0_; have HB := n1_; clear n0_ n1_; (try clear hb); (try clear hb2); (try clear hk); (try clear hi)))
 go_ret
 exact ⟨by first | rfl | (simp [errW_none, errW_some] <;> rfl) | (simp [*, errW_none, errW_some] <;> rfl), by repeat (first | (with_reducible first | exact HB.out | apply ba_ | apply bd_ | apply be_ | refine bs_ ?_ GE401.out) | exact HB.out)⟩
/-! ### slices_Clone_int_int: function 69 -/
def slices_Clone_int_int.f (l0 : List Int) : Option (List Int) := (some (([] : List Int) : List Int)).bind fun y404 => (if y404.length + l0.length < 17592186044416 then (some (y404 ++ l0)) else (none))
set_option maxHeartbeats 8000000 in
set_option maxRecDepth 100000 in
theorem slices_Clone_int_int.calls_some (A0 : Addr) (c0 : Nat) (l0 : List Int) (r : List Int) (w : World) (hr0 : Kd.C (Kd.int .i64) w (some A0) l0.length l0) (hc0 : l0.length ≤ c0) (h : slices_Clone_int_int.f l0 = some r) :
  Calls Try.prog 69 #[.slice (some A0) l0.length c0] w fun e w' => ∃ v0_ : Value, e = .returned (v0_) ∧ Kd.R (Kd.int .i64) 3 w' w.heap.size (fun _ => True) v0_ r ∧ Below w.heap.size w w' := by
 have HR0 := A_.mk hr0
 have HC0 := A_.mk hc0
 clear hr0 hc0
 have HB := A_.mk (Below.refl w.heap.size w)
 have H : ((some (([] : List Int) : List Int)).bind fun y404 => (if y404.length + l0.length < 17592186044416 then (some (y404 ++ l0)) else (none))) = some r := h
 clear h
 obtain ⟨y404, hy404⟩ : ∃ y_ : List Int, y_ = (([] : List Int)) := ⟨_, rfl⟩
 replace H : (if y404.length + l0.length < 17592186044416 then (some (y404 ++ l0)) else (none)) = some r := by first | (rw [hy404]; with_reducible exact H) | (have H2_ := (Option.bind_some _ _).symm.trans H; rw [hy404]; with_reducible exact H2_) | (have H2_ := (Option.bind_some _ _).symm.trans H; with_reducible exact H2_) | with_reducible exact H | (rw [hy404]; exact H) | exact H
 have Ny404 := A_.mk hy404
 clear hy404
 by_cases c2 : y404.length + l0.length < 17592186044416
 rotate_left
 ·rw [if_neg c2] at H
  exact absurd H (by simp)
 rw [if_pos c2] at H
 have LMc2 := A_.mk c2
 clear c2
 obtain ⟨y407, hy407⟩ : ∃ y_ : List Int, y_ = (y404 ++ l0) := ⟨_, rfl⟩
 replace H : (some y407) = some r := by first | (rw [hy407]; with_reducible exact H) | (have H2_ := (Option.bind_some _ _).symm.trans H; rw [hy407]; with_reducible exact H2_) | (have H2_ := (Option.bind_some _ _).symm.trans H; with_reducible exact H2_) | with_reducible exact H | (rw [hy407]; exact H) | exact H
 have Ny407 := A_.mk hy407
 clear hy407
 obtain rfl := Option.some.inj H
 have hb_ : ∀ w, (binOp .eql 22 (.slice (some A0) l0.length c0) (.slice none 0 0)).run Try.prog w = .ok (.bool false) w := fun _ => by kernel_rfl
 go_enter Try.func69, Try.ntmps69
 go_wp2_with (first | ((with_reducible refine gd_ (N := 5) rfl ?_); refine Kd.R_lit (Kd.int .i64) _ 3 ?hg (N := 5) ?hd (xs := ([] : List Int)) (inner := []) (ok := fun _ => True) (okp := fun _ => True) ?hr ?hp (fun _ hk => hk) trivial (Below.refl _ _) (Nat.le_refl _) (by simp) ?_; (case hd => rfl); (case hg => rfl); (case hr => first | (go_simp; done) | (go_simp; rfl)); (case hp => exact (Reps.none _ _)); intro v405 w3 ho4 hb hg_ hnew_; clear hg_ hnew_; (first | rw [← Ny404.out] at ho4 | (simp only [Int.reduceToNat] at ho4; rw [← Ny404.out] at ho4)); have n0_ := A_.mk (Kd.R_lower ho4 (bz_ (beY HB.out))); have n1_ := A_.mk (bt_ (beY HB.out) hb); clear HB; have HO406 := n0_; have HB := n1_; clear n0_ n1_ hb ho4) | ((with_reducible refine gate_builtin (b := .append) (xs := #[.tmp 5, .tmp 6]) rfl ?_); at_builtin; refine Kd.R_append_rows (Kd.int .i64) (w0 := w) w.heap.size rfl (.tmp 5) (.tmp 6) 22 3 (.int .i64 0) 8 rfl Try.underlying22 info3 rfl (by decide) (by omega) v405 y404 l0 _ _ _ (fun _ => True) (fun _ => False) rfl rfl ?aO ?aR (fun _ _ h => h) (fun _ h => h.elim) ?aF ?aB ?aS ?aL ?_; (case aR => repeat (first | exact (Kd.C_below HR0.out HB.out) | (with_reducible refine Kd.C_alloc ?_ _) | (with_reducible refine Kd.C_drewN ?_ _) | (with_reducible refine Kd.C_drew ?_))); (case aB => exact (beY HB.out)); (case aF => exact (fun _ _ => trivial)); (case aO => exact (rY HO406.out)); (case aS => exact (bz_ (beY HB.out))); (case aL => have := LMc2.out; omega); intro v408 w5 ho hb hg hat; rw [← Ny407.out] at ho; have n0_ := A_.mk (hb); have n1_ := A_.mk (ho); clear HB HO406; have HB := n0_; have HO409 := n1_; clear n0_ n1_ ho hb hg hat))
 go_ret
 exact ⟨_, by first | rfl | (simp [errW_none, errW_some] <;> rfl) | (simp [*, errW_none, errW_some] <;> rfl), by (repeat apply rX); exact HO409.out, beY HB.out⟩
set_option maxHeartbeats 8000000 in
set_option maxRecDepth 100000 in
theorem slices_Clone_int_int.calls (A0 : Option Addr) (c0 : Nat) (l0 : List Int) (r : List Int) (w : World) (hr0 : Kd.C (Kd.int .i64) w A0 l0.length l0) (hc0 : l0.length ≤ c0) (h : slices_Clone_int_int.f l0 = some r) :
  Calls Try.prog 69 #[.slice A0 l0.length c0] w fun e w' => ∃ v0_ : Value, e = .returned (v0_) ∧ Kd.R (Kd.int .i64) 3 w' w.heap.size (fun _ => True) v0_ r ∧ Below w.heap.size w w' := by
 cases A0 with
 | some A0 => exact slices_Clone_int_int.calls_some A0 c0 l0 r w hr0 hc0 h
 | none =>
  have hz : l0.length = 0 := by
   rcases Nat.eq_zero_or_pos l0.length with h0 | h0
   ·exact h0
   ·obtain ⟨_, hn_, _⟩ := hr0.2.2 h0; cases hn_
  obtain rfl := List.length_eq_zero_iff.mp hz
  have hr_ : r = [] := by unfold slices_Clone_int_int.f at h; simp at h; exact h
  subst hr_
  clear h hz hr0
  have HB := A_.mk (Below.refl w.heap.size w)
  have hb_ : ∀ w, (binOp .eql 22 (.slice none 0 c0) (.slice none 0 0)).run Try.prog w = .ok (.bool true) w := fun _ => by kernel_rfl
  go_enter Try.func69, Try.ntmps69
  go_wp2
  go_ret
  exact ⟨_, by first | rfl | (simp [errW_none, errW_some] <;> rfl) | (simp [*, errW_none, errW_some] <;> rfl), by first | exact Kd.R_nil _ _ _ _ _ | exact Kd.N_nil _ _ _ _ _ | exact Kd.V_nil _ _ _ _ _ | exact Kd.Q_nil _ _ _ _ _ | exact Kd.S_nil _ _ _ _ _, beY HB.out⟩

/-! ### impl_copyCredits: function 44 -/
def impl_copyCredits.f (l0_0 : List Int) (l0_1 : List Int) : Option (List Int × List Int) := (slices_Clone_int_int.f l0_0).bind fun t412 => ((slices_Clone_int_int.f l0_1).bind fun t415 => (some (t412, t415)))
def impl_copyCredits.T1 : Bool × List (List Nat × List Nat) := (true, [([], []), ([0], [0]), ([1], [1]), ([], []), ([3], [3]), ([4, 2], [4]), ([2, 5], [2, 5]), ([6, 5, 0, 1, 2, 3, 4, 5, 6], [6])])
def impl_copyCredits.B1 : List Nat := [0, 1, 3, 0, 8, 31, 63, 127]
theorem impl_copyCredits.tab1 : rtab .any (opsOf Try.f44 1) = impl_copyCredits.T1 := by kernel_rfl
theorem impl_copyCredits.bits1 : waitsOk impl_copyCredits.T1.2 impl_copyCredits.B1 = true := by kernel_rfl
set_option maxHeartbeats 8000000 in
set_option maxRecDepth 100000 in
theorem impl_copyCredits.calls (A0_0 : Option Addr) (c0_0 : Nat) (l0_0 : List Int) (A0_1 : Option Addr) (c0_1 : Nat) (l0_1 : List Int) (r1 : List Int) (r2 : List Int) (w : World) (hr0_0 : Kd.C (Kd.int .i64) w A0_0 l0_0.length l0_0) (hc0_0 : l0_0.length ≤ c0_0) (hr0_1 : Kd.C (Kd.int .i64) w A0_1 l0_1.length l0_1) (hc0_1 : l0_1.length ≤ c0_1) (h : impl_copyCredits.f l0_0 l0_1 = some (r1, r2)) :
  Calls Try.prog 44 #[.agg #[.slice A0_0 l0_0.length c0_0, .slice A0_1 l0_1.length c0_1]] w fun e w' => ∃ v0_ v1_ : Value, e = .returned (.agg #[v0_, v1_]) ∧ Kd.R (Kd.int .i64) 3 w' w.heap.size (fun k_ => some k_ ≠ (v1_ : Value).ownBlock) v0_ r1 ∧ Kd.R (Kd.int .i64) 3 w' w.heap.size (fun k_ => some k_ ≠ (v0_ : Value).ownBlock) v1_ r2 ∧ Below w.heap.size w w' := by
 have hu26 := Try.underlying26
 have HR0_0 := A_.mk hr0_0
 have HC0_0 := A_.mk hc0_0
 clear hr0_0 hc0_0
 have HR0_1 := A_.mk hr0_1
 have HC0_1 := A_.mk hc0_1
 clear hr0_1 hc0_1
 have HB := A_.mk (Below.refl w.heap.size w)
 have H : ((slices_Clone_int_int.f l0_0).bind fun t412 => ((slices_Clone_int_int.f l0_1).bind fun t415 => (some (t412, t415)))) = some (r1, r2) := h
 clear h
 replace H := ob_ H
 obtain ⟨t412, A20, H⟩ := H
 have A2 := A_.mk A20
 clear A20
 replace H := ob_ H
 obtain ⟨t415, A30, H⟩ := H
 have A3 := A_.mk A30
 clear A30
 simp only [Option.some.injEq, Prod.mk.injEq] at H
 obtain ⟨rfl, rfl⟩ := H
 go_enter Try.func44, Try.ntmps44
 try go_wp2_with (first | ((with_reducible refine gd_ (N := 1) rfl ?_); refine by_ 1 (cs := #[.slice A0_0 l0_0.length c0_0, .slice A0_1 l0_1.length c0_1]) (t := 26) ?_; intro gb410 hg w4 hbox hb; have n0_ := A_.mk (bt_ (beY HB.out) hb); have n1_ := A_.mk (hbox); have n2_ := A_.mk ((by rw [hg]; exact (bz_ (beY HB.out)) : w.heap.size ≤ gb410)); have n3_ := A_.mk ((by rw [hg]; exact (bz_ (beY HB.out)) : w.heap.size ≤ gb410)); clear HB; have HB := n0_; have BK410 := n1_; have GW410 := n2_; have GE410 := n3_; clear n0_ n1_ n2_ n3_ hb hbox hg) | ((with_reducible refine gd_ (N := 2) rfl ?_); refine by_ 2 (cs := #[.slice none 0 0, .slice none 0 0]) (t := 26) ?_; intro gb411 hg w5 hbox hb; have n0_ := A_.mk (bb_ (bY BK410.out) hb); have n1_ := A_.mk (bt_ (by repeat (first | (with_reducible first | exact HB.out | apply ba_ | apply bd_ | apply be_ | refine bs_ ?_ GE410.out) | exact HB.out)) hb); have n2_ := A_.mk (hbox); have n3_ := A_.mk ((by rw [hg]; exact (bz_ (by repeat (first | (with_reducible first | exact HB.out | apply ba_ | apply bd_ | apply be_ | refine bs_ ?_ GE410.out) | exact HB.out))) : w.heap.size ≤ gb411)); have n4_ := A_.mk ((by rw [hg]; exact (bz_ (by repeat (first | (with_reducible first | exact HB.out | apply ba_ | apply bd_ | apply be_ | refine bs_ ?_ GE410.out) | exact HB.out))) : w.heap.size ≤ gb411)); have n5_ := A_.mk ((by rw [hg]; exact Nat.ne_of_lt (blk_lt (bY BK410.out)) : gb410 ≠ gb411)); have n6_ := A_.mk ((by rw [hg]; exact Nat.ne_of_gt (blk_lt (bY BK410.out)) : gb411 ≠ gb410)); clear BK410 HB; have BK410 := n0_; have HB := n1_; have BK411 := n2_; have GW411 := n3_; have GE411 := n4_; have NB410_411 := n5_; have NB411_410 := n6_; clear n0_ n1_ n2_ n3_ n4_ n5_ n6_ hb hbox hg))
 have n0_ := A_.mk (bw_ BK410.out)
 have n1_ := A_.mk (bw_ BK411.out)
 have n2_ := A_.mk (be_ HB.out)
 clear BK410 BK411 HB
 have BK410 := n0_
 have BK411 := n1_
 have HB := n2_
 clear n0_ n1_ n2_
 refine start_ (n := 8) (S := fun w' => w'.cell? ⟨gb410, 0, none⟩ = some (.slice A0_0 l0_0.length c0_0) ∧ w'.cell? ⟨gb410, 1, none⟩ = some (.slice A0_1 l0_1.length c0_1)) (ds := []) #[F, F, F, F, F, F, F, F] (by kernel_rfl) rfl rfl ⟨(bc_ BK410.out 0).trans rfl, (bc_ BK410.out 1).trans rfl⟩ (fun hHeld => ?_); refine with_tabW impl_copyCredits.tab1 impl_copyCredits.bits1 (fun HT_ HW_ => ?_)
 generalize w5.drew = w6 at BK410 BK411 HB hHeld ⊢
 refine pr_ (i := 0) (N := some 3) #[T, F, F, F, F, F, F, F] rfl HT_.out ?_
 refine pr_ (i := 3) (N := some 6) #[T, F, F, T, F, F, F, F] rfl HT_.out ?_
 refine take_ (i := 1) (N := some 4) (v := ?_) (a' := ?_) #[T, T, F, T, F, F, F, F] rfl rfl (take_ofW HT_.out HW_.out (by kernel_rfl)) (fun _ _ _ h => h) (Or.inl ⟨by rfl, ?_⟩) hHeld ?_ ?_
 rotate_left
 ·rintro w' ⟨s0, s1⟩
  go_simp
  with_reducible rfl
 rotate_left
 ·simp only [pS]
  rfl
 refine take_ (i := 4) (N := some 7) (v := ?_) (a' := ?_) #[T, T, F, T, T, F, F, F] rfl rfl (take_ofW HT_.out HW_.out (by kernel_rfl)) (fun _ _ _ h => h) (Or.inl ⟨by rfl, ?_⟩) hHeld ?_ ?_
 rotate_left
 ·rintro w' ⟨s0, s1⟩
  go_simp
  with_reducible rfl
 rotate_left
 ·simp only [pS]
  rfl
 refine one_ (i := 2) (N := some 5) #[T, T, T, T, T, F, F, F] rfl rfl (one_of HT_.out (by kernel_rfl)) (by decide) (fun K hK => ?_)
 refine goes_ Try.func69 (by kernel_rfl) rfl #[.slice A0_0 l0_0.length c0_0] (by rfl) rfl rfl (by (try simp only [List.map_toArray, List.map_cons, List.map_nil]); first | done | rfl) ?_
 with_reducible refine (slices_Clone_int_int.calls _ _ l0_0 t412 _ ?side1 ?side2 A2.out).mono ?_
 (case side1 => exact cY ((Kd.C_below HR0_0.out HB.out)))
 (case side2 => exact HC0_0.out)
 rintro e w7 ⟨v413, rfl, ho0, hb⟩
 refine ⟨_, rfl, ?_⟩
 have n0_ := A_.mk (Kd.R_lower ho0 (bz_ (by repeat (first | (with_reducible first | exact HB.out | apply ba_ | apply bd_ | apply be_ | refine bs_ ?_ GE410.out | refine bs_ ?_ GE411.out) | exact HB.out))))
 have n1_ := A_.mk (bb_ (bY BK410.out) hb)
 have n2_ := A_.mk (bb_ (bY BK411.out) hb)
 have n3_ := A_.mk (bt_ (by repeat (first | (with_reducible first | exact HB.out | apply ba_ | apply bd_ | apply be_ | refine bs_ ?_ GE410.out | refine bs_ ?_ GE411.out) | exact HB.out)) hb)
 clear BK410 BK411 HB
 have HO414 := n0_
 have BK410 := n1_
 have BK411 := n2_
 have HB := n3_
 clear n0_ n1_ n2_ n3_
 refine hK.out _ _ ⟨(bc_ BK410.out 0).trans rfl, (bc_ BK410.out 1).trans rfl⟩ (fun hHeld => ?_)
 clear hK K
 refine norm_ (a' := ?_) ?_ ?_
 rotate_left
 ·show Act.put _ (some 5) _ = _
  simp only [pS]
  rfl
 refine one_ (i := 5) (N := some 8) #[T, T, T, T, T, T, F, F] rfl rfl (one_of HT_.out (by kernel_rfl)) (by decide) (fun K hK => ?_)
 refine goes_ Try.func69 (by kernel_rfl) rfl #[.slice A0_1 l0_1.length c0_1] (by rfl) rfl rfl (by (try simp only [List.map_toArray, List.map_cons, List.map_nil]); first | done | rfl) ?_
 with_reducible refine (slices_Clone_int_int.calls _ _ l0_1 t415 _ ?side1 ?side2 A3.out).mono ?_
 (case side1 => exact cY ((Kd.C_below HR0_1.out HB.out)))
 (case side2 => exact HC0_1.out)
 rintro e w8 ⟨v416, rfl, ho0, hb⟩
 refine ⟨_, rfl, ?_⟩
 have n0_ := A_.mk (Kd.R_elder' (rY HO414.out) (Kd.R_base ho0) hb)
 have n1_ := A_.mk (Kd.R_lower (Kd.R_new' ho0 (Kd.R_lt (rY HO414.out))) (bz_ (by repeat (first | (with_reducible first | exact HB.out | apply ba_ | apply bd_ | apply be_ | refine bs_ ?_ GE410.out | refine bs_ ?_ GE411.out) | exact HB.out))))
 have n2_ := A_.mk (bb_ (bY BK410.out) hb)
 have n3_ := A_.mk (bb_ (bY BK411.out) hb)
 have n4_ := A_.mk (bt_ (by repeat (first | (with_reducible first | exact HB.out | apply ba_ | apply bd_ | apply be_ | refine bs_ ?_ GE410.out | refine bs_ ?_ GE411.out) | exact HB.out)) hb)
 clear HO414 BK410 BK411 HB
 have HO414 := n0_
 have HO417 := n1_
 have BK410 := n2_
 have BK411 := n3_
 have HB := n4_
 clear n0_ n1_ n2_ n3_ n4_
 obtain ⟨Ao9, co9, eo9⟩ := Kd.R_slice HO417.out
 (first | subst eo9 | (injection eo9 with f1_ f2_ f3_; have f4_ := f1_.symm; have f5_ := f3_.symm; clear f1_ f2_ f3_; subst f4_; subst f5_))
 obtain ⟨Ao10, co10, eo10⟩ := Kd.R_slice HO414.out
 (first | subst eo10 | (injection eo10 with f1_ f2_ f3_; have f4_ := f1_.symm; have f5_ := f3_.symm; clear f1_ f2_ f3_; subst f4_; subst f5_))
 refine hK.out _ _ ⟨(bc_ BK410.out 0).trans rfl, (bc_ BK410.out 1).trans rfl⟩ (fun hHeld => ?_)
 clear hK K
 refine norm_ (a' := ?_) ?_ ?_
 rotate_left
 ·show Act.put _ (some 8) _ = _
  simp only [pS]
  rfl
 refine pr_ (i := 6) (N := some 9) #[T, T, T, T, T, T, T, F] rfl HT_.out ?_
 refine one_ (i := 7) (N := none) #[T, T, T, T, T, T, T, T] rfl rfl (one_of HT_.out (by kernel_rfl)) (by decide) (fun K hK => ?_)
 have hs11 : w8.cell? ⟨gb411, 0, none⟩ = some (.slice none 0 0) := (bc_ BK411.out 0).trans rfl
 have hfs11 := bf_ BK411.out 0
 have hns11_0 := NB410_411.out
 have hms11_0 := NB411_410.out
 have hs12 : w8.cell? ⟨gb411, 1, none⟩ = some (.slice none 0 0) := (bc_ BK411.out 1).trans rfl
 have hfs12 := bf_ BK411.out 1
 have hns12_0 := NB410_411.out
 have hms12_0 := NB411_410.out
 refine skip_ (w1 := ?_) (by rfl) rfl ?_ ?_
 rotate_left
 ·go_simp
  rfl
 refine hK.out _ _ ⟨((cell_far (p := ⟨gb411, _, none⟩) NB410_411.out _).trans (((cell_far (p := ⟨gb411, _, none⟩) NB410_411.out _).trans (hHeld.1)))), ((cell_far (p := ⟨gb411, _, none⟩) NB410_411.out _).trans (((cell_far (p := ⟨gb411, _, none⟩) NB410_411.out _).trans (hHeld.2))))⟩ (fun hHeld => ?_)
 clear hK K
 refine done_ (done_of HT_.out (by kernel_rfl)) ?_
 try go_wp2
 refine bodyPost_ret (results_cell_row rfl _ _ gb411 26 #[.slice Ao10 t412.length co10, .slice Ao9 t415.length co9] (0, 0) _ rfl (by (repeat apply bX); refine bp_ (cs := #[.slice Ao10 t412.length co10, .slice none 0 0]) ?_ 1 _ rfl; (repeat apply bX); refine bp_ (cs := #[.slice none 0 0, .slice none 0 0]) ?_ 0 _ rfl; (repeat apply bX); exact BK411.out) Try.underlying26 rfl (by kernel_rfl)) rfl ?_
 exact ⟨_, _, by first | rfl | (simp [errW_none, errW_some] <;> rfl) | (simp [*, errW_none, errW_some] <;> rfl), by (repeat apply rX); exact Kd.R_mono (Kd.R_far (p := ⟨gb411, 1, none⟩) (Kd.R_far (p := ⟨gb411, 0, none⟩) (Kd.R_types HO414.out BK411.out (by decide)) (fun _ hk => hk.2) (.slice Ao10 t412.length co10)) (fun _ hk => hk.2) (.slice Ao9 t415.length co9)) (fun _ hk => hk.1.2), by (repeat apply rX); exact Kd.R_mono (Kd.R_far (p := ⟨gb411, 1, none⟩) (Kd.R_far (p := ⟨gb411, 0, none⟩) (Kd.R_types HO417.out BK411.out (by decide)) (fun _ hk => hk.2) (.slice Ao10 t412.length co10)) (fun _ hk => hk.2) (.slice Ao9 t415.length co9)) (fun _ hk => hk.1.2), by repeat (first | (with_reducible first | exact HB.out | apply ba_ | apply bd_ | apply be_ | refine bs_ ?_ GE410.out | refine bs_ ?_ GE411.out) | exact HB.out)⟩
/-! ### impl_copyPacket: function 66 -/
def impl_copyPacket.f (a0_0 : Int) (a0_1 : Int) (a0_2 : Int) (a0_3 : Int) (a0_4 : Int) (a0_5 : Int) (a0_6 : Int) (l0_7 : List Int) : Option (Int × Int × Int × Int × Int × Int × Int × List Int) := (slices_Clone_int_int.f l0_7).bind fun t420 => (some (a0_0, a0_1, a0_2, a0_3, a0_4, a0_5, a0_6, t420))
set_option maxHeartbeats 8000000 in
set_option maxRecDepth 100000 in
theorem impl_copyPacket.calls (a0_0 : Int) (a0_1 : Int) (a0_2 : Int) (a0_3 : Int) (a0_4 : Int) (a0_5 : Int) (a0_6 : Int) (A0_7 : Option Addr) (c0_7 : Nat) (l0_7 : List Int) (r1 : Int) (r2 : Int) (r3 : Int) (r4 : Int) (r5 : Int) (r6 : Int) (r7 : Int) (r8 : List Int) (w : World) (hr0_7 : Kd.C (Kd.int .i64) w A0_7 l0_7.length l0_7) (hc0_7 : l0_7.length ≤ c0_7) (h : impl_copyPacket.f a0_0 a0_1 a0_2 a0_3 a0_4 a0_5 a0_6 l0_7 = some (r1, r2, r3, r4, r5, r6, r7, r8)) :
  Calls Try.prog 66 #[.agg #[.int .i64 a0_0, .int .i64 a0_1, .int .i64 a0_2, .int .i64 a0_3, .int .i64 a0_4, .int .i64 a0_5, .int .i64 a0_6, .slice A0_7 l0_7.length c0_7]] w fun e w' => ∃ v7_ : Value, e = .returned (.agg #[.int .i64 r1, .int .i64 r2, .int .i64 r3, .int .i64 r4, .int .i64 r5, .int .i64 r6, .int .i64 r7, v7_]) ∧ Kd.R (Kd.int .i64) 3 w' w.heap.size (fun _ => True) v7_ r8 ∧ Below w.heap.size w w' := by
 have hu60 := Try.underlying60
 have HR0_7 := A_.mk hr0_7
 have HC0_7 := A_.mk hc0_7
 clear hr0_7 hc0_7
 have HB := A_.mk (Below.refl w.heap.size w)
 have H : ((slices_Clone_int_int.f l0_7).bind fun t420 => (some (a0_0, a0_1, a0_2, a0_3, a0_4, a0_5, a0_6, t420))) = some (r1, r2, r3, r4, r5, r6, r7, r8) := h
 clear h
 replace H := ob_ H
 obtain ⟨t420, A20, H⟩ := H
 have A2 := A_.mk A20
 clear A20
 simp only [Option.some.injEq, Prod.mk.injEq] at H
 obtain ⟨rfl, rfl, rfl, rfl, rfl, rfl, rfl, rfl⟩ := H
 go_enter Try.func66, Try.ntmps66
 go_wp2_with (first | ((with_reducible refine gd_ (N := 1) rfl ?_); refine by_ 1 (cs := #[.int .i64 a0_0, .int .i64 a0_1, .int .i64 a0_2, .int .i64 a0_3, .int .i64 a0_4, .int .i64 a0_5, .int .i64 a0_6, .slice A0_7 l0_7.length c0_7]) (t := 60) ?_; intro gb418 hg w3 hbox hb; have n0_ := A_.mk (bt_ (beY HB.out) hb); have n1_ := A_.mk (hbox); have n2_ := A_.mk ((by rw [hg]; exact (bz_ (beY HB.out)) : w.heap.size ≤ gb418)); have n3_ := A_.mk ((by rw [hg]; exact (bz_ (beY HB.out)) : w.heap.size ≤ gb418)); clear HB; have HB := n0_; have BK418 := n1_; have GW418 := n2_; have GE418 := n3_; clear n0_ n1_ n2_ n3_ hb hbox hg) | ((with_reducible refine gd_ (N := 2) rfl ?_); refine by_ 2 (cs := #[.int .i64 0, .int .i64 0, .int .i64 0, .int .i64 0, .int .i64 0, .int .i64 0, .int .i64 0, .slice none 0 0]) (t := 60) ?_; intro gb419 hg w4 hbox hb; have n0_ := A_.mk (bb_ (bY BK418.out) hb); have n1_ := A_.mk (bt_ (by repeat (first | (with_reducible first | exact HB.out | apply ba_ | apply bd_ | apply be_ | refine bs_ ?_ GE418.out) | exact HB.out)) hb); have n2_ := A_.mk (hbox); have n3_ := A_.mk ((by rw [hg]; exact (bz_ (by repeat (first | (with_reducible first | exact HB.out | apply ba_ | apply bd_ | apply be_ | refine bs_ ?_ GE418.out) | exact HB.out))) : w.heap.size ≤ gb419)); have n4_ := A_.mk ((by rw [hg]; exact (bz_ (by repeat (first | (with_reducible first | exact HB.out | apply ba_ | apply bd_ | apply be_ | refine bs_ ?_ GE418.out) | exact HB.out))) : w.heap.size ≤ gb419)); have n5_ := A_.mk ((by rw [hg]; exact Nat.ne_of_lt (blk_lt (bY BK418.out)) : gb418 ≠ gb419)); have n6_ := A_.mk ((by rw [hg]; exact Nat.ne_of_gt (blk_lt (bY BK418.out)) : gb419 ≠ gb418)); clear BK418 HB; have BK418 := n0_; have HB := n1_; have BK419 := n2_; have GW419 := n3_; have GE419 := n4_; have NB418_419 := n5_; have NB419_418 := n6_; clear n0_ n1_ n2_ n3_ n4_ n5_ n6_ hb hbox hg; have hnb5 := NB418_419.out; have hnc5 := NB419_418.out; have hcz6_0 : w4.cell? ⟨gb418, 0, none⟩ = some (.int .i64 a0_0) := (bc_ BK418.out 0).trans rfl; have hcz6_1 : w4.cell? ⟨gb418, 1, none⟩ = some (.int .i64 a0_1) := (bc_ BK418.out 1).trans rfl; have hcz6_2 : w4.cell? ⟨gb418, 2, none⟩ = some (.int .i64 a0_2) := (bc_ BK418.out 2).trans rfl; have hcz6_3 : w4.cell? ⟨gb418, 3, none⟩ = some (.int .i64 a0_3) := (bc_ BK418.out 3).trans rfl; have hcz6_4 : w4.cell? ⟨gb418, 4, none⟩ = some (.int .i64 a0_4) := (bc_ BK418.out 4).trans rfl; have hcz6_5 : w4.cell? ⟨gb418, 5, none⟩ = some (.int .i64 a0_5) := (bc_ BK418.out 5).trans rfl; have hcz6_6 : w4.cell? ⟨gb418, 6, none⟩ = some (.int .i64 a0_6) := (bc_ BK418.out 6).trans rfl; have hcz6_7 : w4.cell? ⟨gb418, 7, none⟩ = some (.slice A0_7 l0_7.length c0_7) := (bc_ BK418.out 7).trans rfl; have hfz6_0 := bf_ BK418.out 0; have hfz6_1 := bf_ BK418.out 1; have hfz6_2 := bf_ BK418.out 2; have hfz6_3 := bf_ BK418.out 3; have hfz6_4 := bf_ BK418.out 4; have hfz6_5 := bf_ BK418.out 5; have hfz6_6 := bf_ BK418.out 6; have hfz6_7 := bf_ BK418.out 7) | ((with_reducible refine gc_ (f := 69) rfl ?_); refine gl_ (some 5) Try.func69 #[.slice A0_7 l0_7.length c0_7] ?_; (with_reducible refine (slices_Clone_int_int.calls _ _ l0_7 t420 _ ?side1 ?side2 A2.out).mono ?_); (case side1 => exact cY ((Kd.C_below HR0_7.out HB.out))); (case side2 => exact HC0_7.out); rintro e w7 ⟨v421, rfl, ho0, hb⟩; refine ⟨_, rfl, ?_⟩; have n0_ := A_.mk (Kd.R_lower ho0 (bz_ (by repeat (first | (with_reducible first | exact HB.out | apply ba_ | apply bd_ | apply be_ | refine bs_ ?_ GE418.out | refine bs_ ?_ GE419.out) | exact HB.out)))); have n1_ := A_.mk (bb_ (bY BK418.out) hb); have n2_ := A_.mk (bb_ (bY BK419.out) hb); have n3_ := A_.mk (bt_ (by repeat (first | (with_reducible first | exact HB.out | apply ba_ | apply bd_ | apply be_ | refine bs_ ?_ GE418.out | refine bs_ ?_ GE419.out) | exact HB.out)) hb); clear BK418 BK419 HB; have HO422 := n0_; have BK418 := n1_; have BK419 := n2_; have HB := n3_; clear n0_ n1_ n2_ n3_; (try clear hb); (try clear hb2); (try clear hk); (try clear hi); (try clear ho0); obtain ⟨Ao8, co8, eo8⟩ := Kd.R_slice HO422.out; subst eo8; have hcz9_0 : w7.cell? ⟨gb418, 0, none⟩ = some (.int .i64 a0_0) := (bc_ BK418.out 0).trans rfl; have hcz9_1 : w7.cell? ⟨gb418, 1, none⟩ = some (.int .i64 a0_1) := (bc_ BK418.out 1).trans rfl; have hcz9_2 : w7.cell? ⟨gb418, 2, none⟩ = some (.int .i64 a0_2) := (bc_ BK418.out 2).trans rfl; have hcz9_3 : w7.cell? ⟨gb418, 3, none⟩ = some (.int .i64 a0_3) := (bc_ BK418.out 3).trans rfl; have hcz9_4 : w7.cell? ⟨gb418, 4, none⟩ = some (.int .i64 a0_4) := (bc_ BK418.out 4).trans rfl; have hcz9_5 : w7.cell? ⟨gb418, 5, none⟩ = some (.int .i64 a0_5) := (bc_ BK418.out 5).trans rfl; have hcz9_6 : w7.cell? ⟨gb418, 6, none⟩ = some (.int .i64 a0_6) := (bc_ BK418.out 6).trans rfl; have hcz9_7 : w7.cell? ⟨gb418, 7, none⟩ = some (.slice A0_7 l0_7.length c0_7) := (bc_ BK418.out 7).trans rfl; have hfz9_0 := bf_ BK418.out 0; have hfz9_1 := bf_ BK418.out 1; have hfz9_2 := bf_ BK418.out 2; have hfz9_3 := bf_ BK418.out 3; have hfz9_4 := bf_ BK418.out 4; have hfz9_5 := bf_ BK418.out 5; have hfz9_6 := bf_ BK418.out 6; have hfz9_7 := bf_ BK418.out 7; have hcz10_0 : w7.cell? ⟨gb419, 0, none⟩ = some (.int .i64 0) := (bc_ BK419.out 0).trans rfl; have hcz10_1 : w7.cell? ⟨gb419, 1, none⟩ = some (.int .i64 0) := (bc_ BK419.out 1).trans rfl; have hcz10_2 : w7.cell? ⟨gb419, 2, none⟩ = some (.int .i64 0) := (bc_ BK419.out 2).trans rfl; have hcz10_3 : w7.cell? ⟨gb419, 3, none⟩ = some (.int .i64 0) := (bc_ BK419.out 3).trans rfl; have hcz10_4 : w7.cell? ⟨gb419, 4, none⟩ = some (.int .i64 0) := (bc_ BK419.out 4).trans rfl; have hcz10_5 : w7.cell? ⟨gb419, 5, none⟩ = some (.int .i64 0) := (bc_ BK419.out 5).trans rfl; have hcz10_6 : w7.cell? ⟨gb419, 6, none⟩ = some (.int .i64 0) := (bc_ BK419.out 6).trans rfl; have hcz10_7 : w7.cell? ⟨gb419, 7, none⟩ = some (.slice none 0 0) := (bc_ BK419.out 7).trans rfl; have hfz10_0 := bf_ BK419.out 0; have hfz10_1 := bf_ BK419.out 1; have hfz10_2 := bf_ BK419.out 2; have hfz10_3 := bf_ BK419.out 3; have hfz10_4 := bf_ BK419.out 4; have hfz10_5 := bf_ BK419.out 5; have hfz10_6 := bf_ BK419.out 6; have hfz10_7 := bf_ BK419.out 7))
 refine bodyPost_ret (results_cell_row rfl _ _ gb419 60 #[.int .i64 a0_0, .int .i64 a0_1, .int .i64 a0_2, .int .i64 a0_3, .int .i64 a0_4, .int .i64 a0_5, .int .i64 a0_6, .slice Ao8 t420.length co8] (0, 0) _ rfl (by (repeat apply bX); refine bp_ (cs := #[.int .i64 a0_0, .int .i64 a0_1, .int .i64 a0_2, .int .i64 a0_3, .int .i64 a0_4, .int .i64 a0_5, .int .i64 a0_6, .slice none 0 0]) ?_ 7 _ rfl; (repeat apply bX); refine bp_ (cs := #[.int .i64 a0_0, .int .i64 a0_1, .int .i64 a0_2, .int .i64 a0_3, .int .i64 a0_4, .int .i64 a0_5, .int .i64 0, .slice none 0 0]) ?_ 6 _ rfl; (repeat apply bX); refine bp_ (cs := #[.int .i64 a0_0, .int .i64 a0_1, .int .i64 a0_2, .int .i64 a0_3, .int .i64 a0_4, .int .i64 0, .int .i64 0, .slice none 0 0]) ?_ 5 _ rfl; (repeat apply bX); refine bp_ (cs := #[.int .i64 a0_0, .int .i64 a0_1, .int .i64 a0_2, .int .i64 a0_3, .int .i64 0, .int .i64 0, .int .i64 0, .slice none 0 0]) ?_ 4 _ rfl; (repeat apply bX); refine bp_ (cs := #[.int .i64 a0_0, .int .i64 a0_1, .int .i64 a0_2, .int .i64 0, .int .i64 0, .int .i64 0, .int .i64 0, .slice none 0 0]) ?_ 3 _ rfl; (repeat apply bX); refine bp_ (cs := #[.int .i64 a0_0, .int .i64 a0_1, .int .i64 0, .int .i64 0, .int .i64 0, .int .i64 0, .int .i64 0, .slice none 0 0]) ?_ 2 _ rfl; (repeat apply bX); refine bp_ (cs := #[.int .i64 a0_0, .int .i64 0, .int .i64 0, .int .i64 0, .int .i64 0, .int .i64 0, .int .i64 0, .slice none 0 0]) ?_ 1 _ rfl; (repeat apply bX); refine bp_ (cs := #[.int .i64 0, .int .i64 0, .int .i64 0, .int .i64 0, .int .i64 0, .int .i64 0, .int .i64 0, .slice none 0 0]) ?_ 0 _ rfl; (repeat apply bX); refine blk_far ?_ NB419_418.out _; (repeat apply bX); exact BK419.out) Try.underlying60 rfl (by kernel_rfl)) rfl ?_
 exact ⟨_, by first | rfl | (simp [errW_none, errW_some] <;> rfl) | (simp [*, errW_none, errW_some] <;> rfl), by (repeat apply rX); exact Kd.R_mono (Kd.R_far (p := ⟨gb419, 7, none⟩) (Kd.R_far (p := ⟨gb419, 6, none⟩) (Kd.R_far (p := ⟨gb419, 5, none⟩) (Kd.R_far (p := ⟨gb419, 4, none⟩) (Kd.R_far (p := ⟨gb419, 3, none⟩) (Kd.R_far (p := ⟨gb419, 2, none⟩) (Kd.R_far (p := ⟨gb419, 1, none⟩) (Kd.R_far (p := ⟨gb419, 0, none⟩) (Kd.R_far (p := ⟨gb418, 7, none⟩) (Kd.R_types (Kd.R_types HO422.out BK418.out (by decide)) BK419.out (by decide)) (fun _ hk => hk.1.2) (.slice Ao8 t420.length co8)) (fun _ hk => hk.2) (.int .i64 a0_0)) (fun _ hk => hk.2) (.int .i64 a0_1)) (fun _ hk => hk.2) (.int .i64 a0_2)) (fun _ hk => hk.2) (.int .i64 a0_3)) (fun _ hk => hk.2) (.int .i64 a0_4)) (fun _ hk => hk.2) (.int .i64 a0_5)) (fun _ hk => hk.2) (.int .i64 a0_6)) (fun _ hk => hk.2) (.slice Ao8 t420.length co8)) (fun _ hk => trivial), by repeat (first | (with_reducible first | exact HB.out | apply ba_ | apply bd_ | apply be_ | refine bs_ ?_ GE418.out | refine bs_ ?_ GE419.out) | exact HB.out)⟩
/-! ### impl_copyPackets: function 81 -/
def impl_copyPackets.l0 : Nat → List (S60) → List (S60) → Int → Int → Option ((List (S60)))
 | 0, _, _, _, _ => none
 | k + 1, x3, x7, x8, x9 => if x9 < x8 then (if 0 ≤ x9 then (if x9 < (x7.length : Int) then ((impl_copyPacket.f ((rd_T60 x7 x9).f0) ((rd_T60 x7 x9).f1) ((rd_T60 x7 x9).f2) ((rd_T60 x7 x9).f3) ((rd_T60 x7 x9).f4) ((rd_T60 x7 x9).f5) ((rd_T60 x7 x9).f6) ((rd_T60 x7 x9).f7)).bind fun bt428 => (if x3.length < 1759218604441 then (impl_copyPackets.l0 k (x3 ++ [(⟨bt428.1, bt428.2.1, bt428.2.2.1, bt428.2.2.2.1, bt428.2.2.2.2.1, bt428.2.2.2.2.2.1, bt428.2.2.2.2.2.2.1, bt428.2.2.2.2.2.2.2⟩ : S60)]) x7 x8 (wrap64 (x9 + 1))) else (none))) else (none)) else (none)) else (some x3)
def impl_copyPackets.f (k : Nat) (l0 : List (S60)) : Option ((List (S60))) := impl_copyPackets.l0 k (([] : List (S60))) l0 (l0.length : Int) 0
set_option maxHeartbeats 8000000 in
set_option maxRecDepth 100000 in
theorem impl_copyPackets.calls (k : Nat) (A0 : Option Addr) (c0 : Nat) (l0 : List (S60)) (r : List (S60)) (w : World) (hr0 : Kd.C k60 w A0 l0.length l0) (hc0 : l0.length ≤ c0) (h : impl_copyPackets.f k l0 = some r) :
  Calls Try.prog 81 #[.slice A0 l0.length c0] w fun e w' => ∃ v0_ : Value, e = .returned (v0_) ∧ Kd.S k60 60 w' w.heap.size (fun _ => True) v0_ r ∧ Below w.heap.size w w' := by
 have hu60 := Try.underlying60
 have HR0 := A_.mk hr0
 have HC0 := A_.mk hc0
 clear hr0 hc0
 have HB := A_.mk (Below.refl w.heap.size w)
 have H : (impl_copyPackets.l0 k (([] : List (S60))) l0 (l0.length : Int) 0) = some r := h
 clear h
 obtain ⟨y423, hy423⟩ : ∃ y_ : List (S60), y_ = (([] : List (S60))) := ⟨_, rfl⟩
 replace H : (impl_copyPackets.l0 k y423 l0 (l0.length : Int) 0) = some r := by first | (rw [hy423]; with_reducible exact H) | (have H2_ := (Option.bind_some _ _).symm.trans H; rw [hy423]; with_reducible exact H2_) | (have H2_ := (Option.bind_some _ _).symm.trans H; with_reducible exact H2_) | with_reducible exact H | (rw [hy423]; exact H) | exact H
 have Ny423 := A_.mk hy423
 clear hy423
 have H' := A_.mk H
 clear H
 go_enter Try.func81, Try.ntmps81
 go_wp2_with (first | ((with_reducible refine gd_ (N := 6) rfl ?_); refine Kd.S_lit k60 _ 60 ?hg (N := 6) ?hd (xs := ([] : List (S60))) (inner := []) (ok := fun _ => True) (okp := fun _ => True) ?hr ?hp (fun _ hk => hk) trivial (Below.refl _ _) (Nat.le_refl _) (by simp) ?_; (case hd => rfl); (case hg => rfl); (case hr => first | (go_simp; done) | (go_simp; rfl)); (case hp => exact (Reps.none _ _)); intro v424 w2 ho3 hb hg_ hnew_; clear hg_ hnew_; (first | rw [← Ny423.out] at ho3 | (simp only [Int.reduceToNat] at ho3; rw [← Ny423.out] at ho3)); have n0_ := A_.mk (Kd.S_lower ho3 (bz_ (beY HB.out))); have n1_ := A_.mk (bt_ (beY HB.out) hb); clear HB; have HO425 := n0_; have HB := n1_; clear n0_ n1_ hb ho3))
 go_loopg [3, 9] k (fun kq v3 v9 w' => ∃ (x3_1 : List (S60)) (x9_1 : Int), v9 = .int .i64 x9_1 ∧ A_ (impl_copyPackets.l0 kq x3_1 l0 (l0.length : Int) x9_1 = some r) ∧ A_ (kq ≤ k) ∧ A_ (Kd.S k60 60 w' w.heap.size (fun _ => True) v3 x3_1) ∧ A_ (Below w.heap.size w w'))
 case atStart => exact ⟨(y423), (0), (by first | rfl | (simp; done) | (simp [*]; done)), H', ⟨Nat.le_refl _⟩, ⟨by (with_reducible repeat (first | apply Kd.S_alloc | apply Kd.S_drewN | apply Kd.S_drew)); exact HO425.out⟩, ⟨beY HB.out⟩⟩
 case round =>
  clear H'
  obtain ⟨x3_1, x9_1, rfl, HA, HK1, HO_3, HB⟩ := hrel
  cases gk with
  | zero => exact absurd HA.out (by simp [impl_copyPackets.l0])
  | succ k1 =>
   have H := HA.out
   clear HA
   simp only [impl_copyPackets.l0] at H
   by_cases c4 : x9_1 < (l0.length : Int)
   rotate_left
   ·rw [if_neg c4] at H
    have c4b0 : decide (x9_1 < (l0.length : Int)) = false := decide_eq_false c4
    clear c4
    obtain rfl := Option.some.inj H
    go_wp2
    go_ret
    exact ⟨_, by first | rfl | (simp [errW_none, errW_some] <;> rfl) | (simp [*, errW_none, errW_some] <;> rfl), by (with_reducible repeat (first | apply Kd.S_alloc | apply Kd.S_drewN | apply Kd.S_drew)); exact HO_3.out, beY HB.out⟩
   rw [if_pos c4] at H
   have c4b0 : decide (x9_1 < (l0.length : Int)) = true := decide_eq_true c4
   clear c4
   by_cases c5 : 0 ≤ x9_1
   rotate_left
   ·rw [if_neg c5] at H
    exact absurd H (by simp)
   rw [if_pos c5] at H
   have c5b0 : decide (0 ≤ x9_1) = true := decide_eq_true c5
   clear c5
   by_cases c6 : x9_1 < (l0.length : Int)
   rotate_left
   ·rw [if_neg c6] at H
    exact absurd H (by simp)
   rw [if_pos c6] at H
   have c6b0 : decide (x9_1 < (l0.length : Int)) = true := decide_eq_true c6
   clear c6
   replace H := ob_ H
   obtain ⟨⟨t428, t429, t430, t431, t432, t433, t434, t435⟩, A70, H⟩ := H
   replace H : (if x3_1.length < 1759218604441 then (impl_copyPackets.l0 k1 (x3_1 ++ [(⟨t428, t429, t430, t431, t432, t433, t434, t435⟩ : S60)]) l0 (l0.length : Int) (wrap64 (x9_1 + 1))) else (none)) = some r := H
   have A7 := A_.mk A70
   clear A70
   by_cases c8 : x3_1.length < 1759218604441
   rotate_left
   ·rw [if_neg c8] at H
    exact absurd H (by simp)
   rw [if_pos c8] at H
   have LMc8 := A_.mk c8
   clear c8
   obtain ⟨y438, hy438⟩ : ∃ y_ : List (S60), y_ = (x3_1 ++ [(⟨t428, t429, t430, t431, t432, t433, t434, t435⟩ : S60)]) := ⟨_, rfl⟩
   replace H : (impl_copyPackets.l0 k1 y438 l0 (l0.length : Int) (wrap64 (x9_1 + 1))) = some r := by first | (rw [hy438]; with_reducible exact H) | (have H2_ := (Option.bind_some _ _).symm.trans H; rw [hy438]; with_reducible exact H2_) | (have H2_ := (Option.bind_some _ _).symm.trans H; with_reducible exact H2_) | with_reducible exact H | (rw [hy438]; exact H) | exact H
   have Ny438 := A_.mk hy438
   clear hy438
   have H' := A_.mk H
   clear H
   have p426 : 0 ≤ (x9_1 : Int) := od_
   have q426 : x9_1 < (l0.length : Int) := od_
   obtain ⟨ad426, A426_7, c426_7, e426, hx426_0, hx426_1, hx426_2, hx426_3, hx426_4, hx426_5, hx426_6, hx426_7, hl426_7, hi426_7⟩ := at_T60 HR0.out x9_1 p426 q426
   cases e426
   replace hx426_0 := (HB.out.cell (wl_ w _ hx426_0)).trans hx426_0
   replace hx426_1 := (HB.out.cell (wl_ w _ hx426_1)).trans hx426_1
   replace hx426_2 := (HB.out.cell (wl_ w _ hx426_2)).trans hx426_2
   replace hx426_3 := (HB.out.cell (wl_ w _ hx426_3)).trans hx426_3
   replace hx426_4 := (HB.out.cell (wl_ w _ hx426_4)).trans hx426_4
   replace hx426_5 := (HB.out.cell (wl_ w _ hx426_5)).trans hx426_5
   replace hx426_6 := (HB.out.cell (wl_ w _ hx426_6)).trans hx426_6
   replace hx426_7 := (HB.out.cell (wl_ w _ hx426_7)).trans hx426_7
   have HR426_7 := A_.mk hi426_7
   have HC426_7 := A_.mk hl426_7
   clear hi426_7 hl426_7
   replace p426 := eq_true p426
   replace q426 := eq_true q426
   go_wp2_with (first | ((with_reducible refine gd_ (N := 5) rfl ?_); refine by_ 5 (cs := #[.int .i64 0, .int .i64 0, .int .i64 0, .int .i64 0, .int .i64 0, .int .i64 0, .int .i64 0, .slice none 0 0]) (t := 60) ?_; intro gb427 hg w9 hbox hb; have n0_ := A_.mk (Kd.S_below (Kd.S_elderB (by (with_reducible repeat (first | apply Kd.S_alloc | apply Kd.S_drewN | apply Kd.S_drew)); exact HO_3.out) gb427 (Nat.le_of_eq hg.symm)) hb); have n1_ := A_.mk (bt_ (beY HB.out) hb); have n2_ := A_.mk (hbox); have n3_ := A_.mk ((by rw [hg]; exact (bz_ (beY HB.out)) : w.heap.size ≤ gb427)); have n4_ := A_.mk ((by rw [hg]; exact (bz_ (beY HB.out)) : w.heap.size ≤ gb427)); clear HO_3 HB; have HO_3 := n0_; have HB := n1_; have BK427 := n2_; have GW427 := n3_; have GE427 := n4_; clear n0_ n1_ n2_ n3_ n4_ hb hbox hg; have hcz10_0 : w9.cell? ⟨gb427, 0, none⟩ = some (.int .i64 0) := (bc_ BK427.out 0).trans rfl; have hcz10_1 : w9.cell? ⟨gb427, 1, none⟩ = some (.int .i64 0) := (bc_ BK427.out 1).trans rfl; have hcz10_2 : w9.cell? ⟨gb427, 2, none⟩ = some (.int .i64 0) := (bc_ BK427.out 2).trans rfl; have hcz10_3 : w9.cell? ⟨gb427, 3, none⟩ = some (.int .i64 0) := (bc_ BK427.out 3).trans rfl; have hcz10_4 : w9.cell? ⟨gb427, 4, none⟩ = some (.int .i64 0) := (bc_ BK427.out 4).trans rfl; have hcz10_5 : w9.cell? ⟨gb427, 5, none⟩ = some (.int .i64 0) := (bc_ BK427.out 5).trans rfl; have hcz10_6 : w9.cell? ⟨gb427, 6, none⟩ = some (.int .i64 0) := (bc_ BK427.out 6).trans rfl; have hcz10_7 : w9.cell? ⟨gb427, 7, none⟩ = some (.slice none 0 0) := (bc_ BK427.out 7).trans rfl; have hfz10_0 := bf_ BK427.out 0; have hfz10_1 := bf_ BK427.out 1; have hfz10_2 := bf_ BK427.out 2; have hfz10_3 := bf_ BK427.out 3; have hfz10_4 := bf_ BK427.out 4; have hfz10_5 := bf_ BK427.out 5; have hfz10_6 := bf_ BK427.out 6; have hfz10_7 := bf_ BK427.out 7) | ((with_reducible refine gc_ (f := 66) rfl ?_); refine gl_ (some 15) Try.func66 #[.agg #[.int .i64 ((rd_T60 l0 x9_1).f0), .int .i64 ((rd_T60 l0 x9_1).f1), .int .i64 ((rd_T60 l0 x9_1).f2), .int .i64 ((rd_T60 l0 x9_1).f3), .int .i64 ((rd_T60 l0 x9_1).f4), .int .i64 ((rd_T60 l0 x9_1).f5), .int .i64 ((rd_T60 l0 x9_1).f6), .slice A426_7 ((rd_T60 l0 x9_1).f7).length c426_7]] ?_; (with_reducible refine (impl_copyPacket.calls ((rd_T60 l0 x9_1).f0) ((rd_T60 l0 x9_1).f1) ((rd_T60 l0 x9_1).f2) ((rd_T60 l0 x9_1).f3) ((rd_T60 l0 x9_1).f4) ((rd_T60 l0 x9_1).f5) ((rd_T60 l0 x9_1).f6) _ _ ((rd_T60 l0 x9_1).f7) t428 t429 t430 t431 t432 t433 t434 t435 _ ?side1 ?side2 A7.out).mono ?_); (case side1 => exact Kd.C_below HR426_7.out (by repeat (first | (with_reducible first | exact HB.out | apply ba_ | apply bd_ | apply be_ | refine bs_ ?_ GE427.out) | exact HB.out))); (case side2 => exact HC426_7.out); rintro e w11 ⟨v436, rfl, ho0, hb⟩; refine ⟨_, rfl, ?_⟩; have n0_ := A_.mk (Kd.S_elder' (by (with_reducible repeat (first | apply Kd.S_alloc | apply Kd.S_drewN | apply Kd.S_drew)); exact (Kd.S_mono (Kd.S_far (p := ⟨gb427, 7, none⟩) (Kd.S_far (p := ⟨gb427, 6, none⟩) (Kd.S_far (p := ⟨gb427, 5, none⟩) (Kd.S_far (p := ⟨gb427, 4, none⟩) (Kd.S_far (p := ⟨gb427, 3, none⟩) (Kd.S_far (p := ⟨gb427, 2, none⟩) (Kd.S_far (p := ⟨gb427, 1, none⟩) (Kd.S_far (p := ⟨gb427, 0, none⟩) (Kd.S_mono HO_3.out (fun k_ hk => (⟨hk, hk.2⟩ : _ ∧ k_ ≠ gb427))) (fun _ hk => hk.2) (.int .i64 ((rd_T60 l0 x9_1).f0))) (fun _ hk => hk.2) (.int .i64 ((rd_T60 l0 x9_1).f1))) (fun _ hk => hk.2) (.int .i64 ((rd_T60 l0 x9_1).f2))) (fun _ hk => hk.2) (.int .i64 ((rd_T60 l0 x9_1).f3))) (fun _ hk => hk.2) (.int .i64 ((rd_T60 l0 x9_1).f4))) (fun _ hk => hk.2) (.int .i64 ((rd_T60 l0 x9_1).f5))) (fun _ hk => hk.2) (.int .i64 ((rd_T60 l0 x9_1).f6))) (fun _ hk => hk.2) (.slice A426_7 ((rd_T60 l0 x9_1).f7).length c426_7)) (fun _ h_ => h_.1))) (Kd.R_base ho0) hb); have n1_ := A_.mk (Kd.R_lower ho0 (bz_ (by repeat (first | (with_reducible first | exact HB.out | apply ba_ | apply bd_ | apply be_ | refine bs_ ?_ GE427.out) | exact HB.out)))); have n2_ := A_.mk (bb_ (g := gb427) (o := .cells #[.int .i64 ((rd_T60 l0 x9_1).f0), .int .i64 ((rd_T60 l0 x9_1).f1), .int .i64 ((rd_T60 l0 x9_1).f2), .int .i64 ((rd_T60 l0 x9_1).f3), .int .i64 ((rd_T60 l0 x9_1).f4), .int .i64 ((rd_T60 l0 x9_1).f5), .int .i64 ((rd_T60 l0 x9_1).f6), .slice A426_7 ((rd_T60 l0 x9_1).f7).length c426_7] 60 (0, 0)) (by (repeat apply bX); refine bp_ (cs := #[.int .i64 ((rd_T60 l0 x9_1).f0), .int .i64 ((rd_T60 l0 x9_1).f1), .int .i64 ((rd_T60 l0 x9_1).f2), .int .i64 ((rd_T60 l0 x9_1).f3), .int .i64 ((rd_T60 l0 x9_1).f4), .int .i64 ((rd_T60 l0 x9_1).f5), .int .i64 ((rd_T60 l0 x9_1).f6), .slice none 0 0]) ?_ 7 _ rfl; (repeat apply bX); refine bp_ (cs := #[.int .i64 ((rd_T60 l0 x9_1).f0), .int .i64 ((rd_T60 l0 x9_1).f1), .int .i64 ((rd_T60 l0 x9_1).f2), .int .i64 ((rd_T60 l0 x9_1).f3), .int .i64 ((rd_T60 l0 x9_1).f4), .int .i64 ((rd_T60 l0 x9_1).f5), .int .i64 0, .slice none 0 0]) ?_ 6 _ rfl; (repeat apply bX); refine bp_ (cs := #[.int .i64 ((rd_T60 l0 x9_1).f0), .int .i64 ((rd_T60 l0 x9_1).f1), .int .i64 ((rd_T60 l0 x9_1).f2), .int .i64 ((rd_T60 l0 x9_1).f3), .int .i64 ((rd_T60 l0 x9_1).f4), .int .i64 0, .int .i64 0, .slice none 0 0]) ?_ 5 _ rfl; (repeat apply bX); refine bp_ (cs := #[.int .i64 ((rd_T60 l0 x9_1).f0), .int .i64 ((rd_T60 l0 x9_1).f1), .int .i64 ((rd_T60 l0 x9_1).f2), .int .i64 ((rd_T60 l0 x9_1).f3), .int .i64 0, .int .i64 0, .int .i64 0, .slice none 0 0]) ?_ 4 _ rfl; (repeat apply bX); refine bp_ (cs := #[.int .i64 ((rd_T60 l0 x9_1).f0), .int .i64 ((rd_T60 l0 x9_1).f1), .int .i64 ((rd_T60 l0 x9_1).f2), .int .i64 0, .int .i64 0, .int .i64 0, .int .i64 0, .slice none 0 0]) ?_ 3 _ rfl; (repeat apply bX); refine bp_ (cs := #[.int .i64 ((rd_T60 l0 x9_1).f0), .int .i64 ((rd_T60 l0 x9_1).f1), .int .i64 0, .int .i64 0, .int .i64 0, .int .i64 0, .int .i64 0, .slice none 0 0]) ?_ 2 _ rfl; (repeat apply bX); refine bp_ (cs := #[.int .i64 ((rd_T60 l0 x9_1).f0), .int .i64 0, .int .i64 0, .int .i64 0, .int .i64 0, .int .i64 0, .int .i64 0, .slice none 0 0]) ?_ 1 _ rfl; (repeat apply bX); refine bp_ (cs := #[.int .i64 0, .int .i64 0, .int .i64 0, .int .i64 0, .int .i64 0, .int .i64 0, .int .i64 0, .slice none 0 0]) ?_ 0 _ rfl; (repeat apply bX); exact BK427.out) hb); have n3_ := A_.mk (bt_ (by repeat (first | (with_reducible first | exact HB.out | apply ba_ | apply bd_ | apply be_ | refine bs_ ?_ GE427.out) | exact HB.out)) hb); clear HO_3 BK427 HB; have HO_3 := n0_; have HO437 := n1_; have BK427 := n2_; have HB := n3_; clear n0_ n1_ n2_ n3_; (try clear hb); (try clear hb2); (try clear hk); (try clear hi); (try clear ho0); obtain ⟨Ao13, co13, eo13⟩ := Kd.R_slice HO437.out; subst eo13) | ((with_reducible refine gate_builtin (b := .append) (xs := #[.tmp 13, .tmp 16]) rfl ?_); at_builtin; refine Kd.S_append k60 (w0 := w) w.heap.size rfl (.tmp 13) (.tmp 16) 27 60 (.agg #[(.int .i64 0), (.int .i64 0), (.int .i64 0), (.int .i64 0), (.int .i64 0), (.int .i64 0), (.int .i64 0), (.slice none 0 0)]) 80 rfl Try.underlying27 info60 rfl (by decide) (by omega) u3 x3_1 (⟨t428, t429, t430, t431, t432, t433, t434, t435⟩ : S60) [.int .i64 t428, .int .i64 t429, .int .i64 t430, .int .i64 t431, .int .i64 t432, .int .i64 t433, .int .i64 t434, .slice Ao13 t435.length co13] (fun k_ => k_ ≠ gb427) (fun k_ => some k_ = (.slice Ao13 t435.length co13 : Value).ownBlock) rfl rfl ?aP (fun k_ hk_ => ((Kd.R_mono (ok' := fun k_ => ((fun k_ => k_ ≠ gb427)) k_ ∧ some k_ ≠ (u3 : Value).ownBlock) (Kd.R_types (Kd.R_apart' (HO437.out) (Kd.S_typed HO_3.out) (by decide)) BK427.out (by decide)) (fun k_ hk => ⟨hk.2, hk.1.2⟩))).1 k_ hk_.symm) ?aF ?aO ?aB ?aS ?aL ?_; (case aP => exact k60_mkM _ _ _ (⟨t428, t429, t430, t431, t432, t433, t434, t435⟩ : S60) (Kd.R_mono (Kd.R_tight rfl (Kd.R_mono (ok' := fun k_ => ((fun k_ => k_ ≠ gb427)) k_ ∧ some k_ ≠ (u3 : Value).ownBlock) (Kd.R_types (Kd.R_apart' (HO437.out) (Kd.S_typed HO_3.out) (by decide)) BK427.out (by decide)) (fun k_ hk => ⟨hk.2, hk.1.2⟩))) (fun _ h_ => h_))); (case aB => exact (by repeat (first | (with_reducible first | exact HB.out | apply ba_ | apply bd_ | apply be_ | refine bs_ ?_ GE427.out) | exact HB.out))); (case aF => exact (fun k_ hk => Kd.freshB (g := gb427) (o := .cells #[.int .i64 ((rd_T60 l0 x9_1).f0), .int .i64 ((rd_T60 l0 x9_1).f1), .int .i64 ((rd_T60 l0 x9_1).f2), .int .i64 ((rd_T60 l0 x9_1).f3), .int .i64 ((rd_T60 l0 x9_1).f4), .int .i64 ((rd_T60 l0 x9_1).f5), .int .i64 ((rd_T60 l0 x9_1).f6), .slice A426_7 ((rd_T60 l0 x9_1).f7).length c426_7] 60 (0, 0)) (bY BK427.out) k_ hk)); (case aO => exact (by (with_reducible repeat (first | apply Kd.S_alloc | apply Kd.S_drewN | apply Kd.S_drew)); exact Kd.S_mono HO_3.out (fun k_ hk => ⟨hk.1.2, fun e_ => hk.2 e_⟩))); (case aS => exact (bz_ (by repeat (first | (with_reducible first | exact HB.out | apply ba_ | apply bd_ | apply be_ | refine bs_ ?_ GE427.out) | exact HB.out)))); (case aL => have := LMc8.out; omega); intro v439 w12 ho hb hg hat; rw [← Ny438.out] at ho; have n0_ := A_.mk (blk_grown (g := gb427) (o := .cells #[.int .i64 ((rd_T60 l0 x9_1).f0), .int .i64 ((rd_T60 l0 x9_1).f1), .int .i64 ((rd_T60 l0 x9_1).f2), .int .i64 ((rd_T60 l0 x9_1).f3), .int .i64 ((rd_T60 l0 x9_1).f4), .int .i64 ((rd_T60 l0 x9_1).f5), .int .i64 ((rd_T60 l0 x9_1).f6), .slice A426_7 ((rd_T60 l0 x9_1).f7).length c426_7] 60 (0, 0)) (bY BK427.out) hg (Kd.S_away HO_3.out (fun _ hk => hk.1.2))); have n1_ := A_.mk (hb); have n2_ := A_.mk (ho); clear BK427 HB HO_3 HO437; have BK427 := n0_; have HB := n1_; have HO440 := n2_; clear n0_ n1_ n2_ ho hb hg hat))
   go_roundg k1
   case measure => have := HK1.out; omega
   case rel => exact ⟨(y438), (wrap64 (x9_1 + 1)), (by first | rfl | (simp; done) | (simp [*]; done)), H', ⟨by have := HK1.out; omega⟩, ⟨by (with_reducible repeat (first | apply Kd.S_alloc | apply Kd.S_drewN | apply Kd.S_drew)); exact Kd.S_mono HO440.out (fun _ hk => trivial)⟩, ⟨by repeat (first | (with_reducible first | exact HB.out | apply ba_ | apply bd_ | apply be_ | refine bs_ ?_ GE427.out) | exact HB.out)⟩⟩
end Go.Proofs.Ytbdehpmfemgooaa.PFnQueues
