-- Written by a program of this session (wip/xp): not trusted, Lean checks it.
import Derived.Test.YtbdehpmfemgooaaPFnBlockedx0
import Derived.Test.YtbdehpmfemgooaaPFnBlockedx4
import Derived.Test.YtbdehpmfemgooaaPFnBlockedx6
namespace Go.Proofs.Ytbdehpmfemgooaa.PFnBlocked
open Go.RowKit Go.Proofs.YtbdehpmfemgooaaW.PrintWords Go.Proofs.YtbdehpmfemgooaaW.PrintLast Go.Proofs.YtbdehpmfemgooaaW.PrintMore
attribute [local go_sem] max2_int min2_int max_two min_two max_three min_three max_four min_four   -- for this text's walks alone
set_option linter.unusedVariables false
set_option linter.unusedSimpArgs false

/-! ### impl_arePackets_1: function 84 -/
def impl_arePackets_1.f (k : Nat) (a0_0 : Int) (a0_1 : Int) (a0_2 : Int) (a0_3 : Int) (a0_4 : Int) (a0_5 : Int) (a0_6 : Int) (l0_7 : List Int) : Option (Bool) := (impl_IsPacket.f k a0_0 a0_1 a0_2 a0_3 a0_4 a0_5 a0_6 l0_7).bind fun t345 => (some (!t345))
set_option maxHeartbeats 8000000 in
set_option maxRecDepth 100000 in
theorem impl_arePackets_1.calls (k : Nat) (a0_0 : Int) (a0_1 : Int) (a0_2 : Int) (a0_3 : Int) (a0_4 : Int) (a0_5 : Int) (a0_6 : Int) (A0_7 : Option Addr) (c0_7 : Nat) (l0_7 : List Int) (r : Bool) (w : World) (hr0_7 : Kd.C (Kd.int .i64) w A0_7 l0_7.length l0_7) (hc0_7 : l0_7.length ≤ c0_7) (h : impl_arePackets_1.f k a0_0 a0_1 a0_2 a0_3 a0_4 a0_5 a0_6 l0_7 = some r) :
  Calls Try.prog 84 #[.agg #[.int .i64 a0_0, .int .i64 a0_1, .int .i64 a0_2, .int .i64 a0_3, .int .i64 a0_4, .int .i64 a0_5, .int .i64 a0_6, .slice A0_7 l0_7.length c0_7]] w fun e w' => e = .returned (.bool r) ∧ Below w.heap.size w w' := by
 have hu60 := Try.underlying60
 have HR0_7 := Aside0.mk hr0_7
 have HC0_7 := Aside0.mk hc0_7
 clear hr0_7 hc0_7
 have HB := Aside0.mk (Below.refl w.heap.size w)
 have H : ((impl_IsPacket.f k a0_0 a0_1 a0_2 a0_3 a0_4 a0_5 a0_6 l0_7).bind fun t345 => (some (!t345))) = some r := h
 clear h
 replace H := Option.bind_eq_some_iff.mp H
 obtain ⟨t345, A20, H⟩ := H
 have A2 := Aside0.mk A20
 clear A20
 obtain rfl := Option.some.inj H
 go_enter Try.func84, Try.ntmps84
 go_wp2_with (first | ((with_reducible refine gd_ (N := 1) rfl ?_); refine bx_ ?hg (N := 1) ?hd (cs := #[.int .i64 a0_0, .int .i64 a0_1, .int .i64 a0_2, .int .i64 a0_3, .int .i64 a0_4, .int .i64 a0_5, .int .i64 a0_6, .slice A0_7 l0_7.length c0_7]) (t := 60) ?hr ?_; (case hd => rfl); (case hg => rfl); (case hr => first | (go_simp; done) | (go_simp; rfl)); intro gb344 hg w3 hbox hb; have n0_ := Aside0.mk (bt_ (beY HB.out) hb); have n1_ := Aside0.mk (hbox); have n2_ := Aside0.mk ((by rw [hg]; exact (bz_ (beY HB.out)) : w.heap.size ≤ gb344)); have n3_ := Aside0.mk ((by rw [hg]; exact (bz_ (beY HB.out)) : w.heap.size ≤ gb344)); clear HB; have HB := n0_; have BK344 := n1_; have GW344 := n2_; have GE344 := n3_; clear n0_ n1_ n2_ n3_ hb hbox hg; have hcz4_0 : w3.cell? ⟨gb344, 0, none⟩ = some (.int .i64 a0_0) := (bc_ BK344.out 0).trans rfl; have hcz4_1 : w3.cell? ⟨gb344, 1, none⟩ = some (.int .i64 a0_1) := (bc_ BK344.out 1).trans rfl; have hcz4_2 : w3.cell? ⟨gb344, 2, none⟩ = some (.int .i64 a0_2) := (bc_ BK344.out 2).trans rfl; have hcz4_3 : w3.cell? ⟨gb344, 3, none⟩ = some (.int .i64 a0_3) := (bc_ BK344.out 3).trans rfl; have hcz4_4 : w3.cell? ⟨gb344, 4, none⟩ = some (.int .i64 a0_4) := (bc_ BK344.out 4).trans rfl; have hcz4_5 : w3.cell? ⟨gb344, 5, none⟩ = some (.int .i64 a0_5) := (bc_ BK344.out 5).trans rfl; have hcz4_6 : w3.cell? ⟨gb344, 6, none⟩ = some (.int .i64 a0_6) := (bc_ BK344.out 6).trans rfl; have hcz4_7 : w3.cell? ⟨gb344, 7, none⟩ = some (.slice A0_7 l0_7.length c0_7) := (bc_ BK344.out 7).trans rfl; have hfz4_0 := bf_ BK344.out 0; have hfz4_1 := bf_ BK344.out 1; have hfz4_2 := bf_ BK344.out 2; have hfz4_3 := bf_ BK344.out 3; have hfz4_4 := bf_ BK344.out 4; have hfz4_5 := bf_ BK344.out 5; have hfz4_6 := bf_ BK344.out 6; have hfz4_7 := bf_ BK344.out 7) | ((with_reducible refine gc_ (f := 65) rfl ?_); refine goesL_ (some 4) rfl rfl Try.func65 (by kernel_rfl) rfl #[.agg #[.int .i64 a0_0, .int .i64 a0_1, .int .i64 a0_2, .int .i64 a0_3, .int .i64 a0_4, .int .i64 a0_5, .int .i64 a0_6, .slice A0_7 l0_7.length c0_7]] rfl (by (try simp only [List.map_toArray, List.map_cons, List.map_nil]); first | done | rfl) ?_; (with_reducible refine (impl_IsPacket.calls k a0_0 a0_1 a0_2 a0_3 a0_4 a0_5 a0_6 _ _ l0_7 t345 _ ?side1 ?side2 A2.out).mono ?_); (case side1 => exact cY ((Kd.C_below HR0_7.out HB.out))); (case side2 => exact HC0_7.out); rintro e w5 ⟨rfl, hb⟩; refine ⟨_, rfl, ?_⟩; have n0_ := Aside0.mk (bb_ (bY BK344.out) hb); have n1_ := Aside0.mk (bt_ (by repeat (first | (with_reducible first | exact HB.out | apply ba_ | apply bd_ | apply be_ | refine bs_ ?_ GE344.out) | exact HB.out)) hb); clear BK344 HB; have BK344 := n0_; have HB := n1_; clear n0_ n1_; (try clear hb); (try clear hb2); (try clear hk); (try clear hi)))
 go_ret
 exact ⟨by first | rfl | (simp [errW_none, errW_some] <;> rfl) | (simp [*, errW_none, errW_some] <;> rfl), by repeat (first | (with_reducible first | exact HB.out | apply ba_ | apply bd_ | apply be_ | refine bs_ ?_ GE344.out) | exact HB.out)⟩
/-! ### slices_IndexFunc_impl_Packet_impl_Packet__impl_arePackets_1: function 92 -/
def slices_IndexFunc_impl_Packet_impl_Packet__impl_arePackets_1.l0 : Nat → List (S60) → Int → Int → Option (Int)
 | 0, _, _, _ => none
 | k + 1, x0, x7, x8 => if x8 < x7 then (if 0 ≤ x8 then (if x8 < (x0.length : Int) then ((impl_arePackets_1.f k ((rd_T60 x0 x8).f0) ((rd_T60 x0 x8).f1) ((rd_T60 x0 x8).f2) ((rd_T60 x0 x8).f3) ((rd_T60 x0 x8).f4) ((rd_T60 x0 x8).f5) ((rd_T60 x0 x8).f6) ((rd_T60 x0 x8).f7)).bind fun t347 => (if t347 = true then (some x8) else (slices_IndexFunc_impl_Packet_impl_Packet__impl_arePackets_1.l0 k x0 x7 (wrap64 (x8 + 1))))) else (none)) else (none)) else (some (-1))
def slices_IndexFunc_impl_Packet_impl_Packet__impl_arePackets_1.f (k : Nat) (l0 : List (S60))  : Option (Int) := slices_IndexFunc_impl_Packet_impl_Packet__impl_arePackets_1.l0 k l0 (l0.length : Int) 0
set_option maxHeartbeats 8000000 in
set_option maxRecDepth 100000 in
theorem slices_IndexFunc_impl_Packet_impl_Packet__impl_arePackets_1.calls (k : Nat) (A0 : Option Addr) (c0 : Nat) (l0 : List (S60))  (r : Int) (w : World) (hr0 : Kd.C k60 w A0 l0.length l0) (hc0 : l0.length ≤ c0) (h : slices_IndexFunc_impl_Packet_impl_Packet__impl_arePackets_1.f k l0 = some r) :
  Calls Try.prog 92 #[.slice A0 l0.length c0, .func (.func 84) #[] #[]] w fun e w' => e = .returned (.int .i64 r) ∧ Below w.heap.size w w' := by
 have hu60 := Try.underlying60
 have HR0 := Aside0.mk hr0
 have HC0 := Aside0.mk hc0
 clear hr0 hc0
 have HB := Aside0.mk (Below.refl w.heap.size w)
 have H : (slices_IndexFunc_impl_Packet_impl_Packet__impl_arePackets_1.l0 k l0 (l0.length : Int) 0) = some r := h
 clear h
 have H' := Aside0.mk H
 clear H
 go_enter Try.func92, Try.ntmps92
 go_wp2
 go_loopg [8] k (fun kq v8 w' => ∃ (x8_1 : Int), v8 = .int .i64 x8_1 ∧ Aside0 (slices_IndexFunc_impl_Packet_impl_Packet__impl_arePackets_1.l0 kq l0 (l0.length : Int) x8_1 = some r) ∧ Aside0 (kq ≤ k) ∧ Aside0 (Below w.heap.size w w'))
 case atStart => exact ⟨(0), (by first | rfl | (simp; done) | (simp [*]; done)), H', ⟨Nat.le_refl _⟩, ⟨beY HB.out⟩⟩
 case round =>
  clear H'
  obtain ⟨x8_1, rfl, HA, HK1, HB⟩ := hrel
  cases gk with
  | zero => exact absurd HA.out (by simp [slices_IndexFunc_impl_Packet_impl_Packet__impl_arePackets_1.l0])
  | succ k1 =>
   have H := HA.out
   clear HA
   simp only [slices_IndexFunc_impl_Packet_impl_Packet__impl_arePackets_1.l0] at H
   by_cases c3 : x8_1 < (l0.length : Int)
   rotate_left
   ·rw [if_neg c3] at H
    have c3b0 : decide (x8_1 < (l0.length : Int)) = false := decide_eq_false c3
    clear c3
    obtain rfl := Option.some.inj H
    go_wp2
    go_ret
    exact ⟨by first | rfl | (simp [errW_none, errW_some] <;> rfl) | (simp [*, errW_none, errW_some] <;> rfl), beY HB.out⟩
   rw [if_pos c3] at H
   have c3b0 : decide (x8_1 < (l0.length : Int)) = true := decide_eq_true c3
   clear c3
   by_cases c4 : 0 ≤ x8_1
   rotate_left
   ·rw [if_neg c4] at H
    exact absurd H (by simp)
   rw [if_pos c4] at H
   have c4b0 : decide (0 ≤ x8_1) = true := decide_eq_true c4
   clear c4
   by_cases c5 : x8_1 < (l0.length : Int)
   rotate_left
   ·rw [if_neg c5] at H
    exact absurd H (by simp)
   rw [if_pos c5] at H
   have c5b0 : decide (x8_1 < (l0.length : Int)) = true := decide_eq_true c5
   clear c5
   replace H := Option.bind_eq_some_iff.mp H
   obtain ⟨t347, A60, H⟩ := H
   have A6 := Aside0.mk A60
   clear A60
   by_cases c7 : t347 = true
   ·subst c7
    have H1 : (some x8_1) = some r := by rw [if_pos rfl] at H; exact H
    clear H
    have H := H1
    clear H1
    obtain rfl := Option.some.inj H
    have p346 : 0 ≤ (x8_1 : Int) := of_decide_eq_true (by first | (with_reducible assumption) | assumption)
    have q346 : x8_1 < (l0.length : Int) := of_decide_eq_true (by first | (with_reducible assumption) | assumption)
    obtain ⟨ad346, A346_7, c346_7, e346, hx346_0, hx346_1, hx346_2, hx346_3, hx346_4, hx346_5, hx346_6, hx346_7, hl346_7, hi346_7⟩ := at_T60 HR0.out x8_1 p346 q346
    cases e346
    replace hx346_0 := (HB.out.cell (World.block_lt_of_cell? w _ hx346_0)).trans hx346_0
    replace hx346_1 := (HB.out.cell (World.block_lt_of_cell? w _ hx346_1)).trans hx346_1
    replace hx346_2 := (HB.out.cell (World.block_lt_of_cell? w _ hx346_2)).trans hx346_2
    replace hx346_3 := (HB.out.cell (World.block_lt_of_cell? w _ hx346_3)).trans hx346_3
    replace hx346_4 := (HB.out.cell (World.block_lt_of_cell? w _ hx346_4)).trans hx346_4
    replace hx346_5 := (HB.out.cell (World.block_lt_of_cell? w _ hx346_5)).trans hx346_5
    replace hx346_6 := (HB.out.cell (World.block_lt_of_cell? w _ hx346_6)).trans hx346_6
    replace hx346_7 := (HB.out.cell (World.block_lt_of_cell? w _ hx346_7)).trans hx346_7
    have HR346_7 := Aside0.mk hi346_7
    have HC346_7 := Aside0.mk hl346_7
    clear hi346_7 hl346_7
    replace p346 := eq_true p346
    replace q346 := eq_true q346
    go_wp2_with (first | (go_at_call 84; (with_reducible refine (impl_arePackets_1.calls k1 ((rd_T60 l0 x8_1).f0) ((rd_T60 l0 x8_1).f1) ((rd_T60 l0 x8_1).f2) ((rd_T60 l0 x8_1).f3) ((rd_T60 l0 x8_1).f4) ((rd_T60 l0 x8_1).f5) ((rd_T60 l0 x8_1).f6) _ _ ((rd_T60 l0 x8_1).f7) true _ ?side1 ?side2 A6.out).mono ?_); (case side1 => exact cY ((Kd.C_below HR346_7.out HB.out))); (case side2 => exact HC346_7.out); rintro e w8 ⟨rfl, hb⟩; have n0_ := Aside0.mk (bt_ (beY HB.out) hb); clear HB; have HB := n0_; clear n0_; (try clear hb); (try clear hb2); (try clear hk); (try clear hi)))
    go_ret
    exact ⟨by first | rfl | (simp [errW_none, errW_some] <;> rfl) | (simp [*, errW_none, errW_some] <;> rfl), beY HB.out⟩
   replace c7 := Bool.eq_false_iff.mpr c7
   subst c7
   have H1 : (slices_IndexFunc_impl_Packet_impl_Packet__impl_arePackets_1.l0 k1 l0 (l0.length : Int) (wrap64 (x8_1 + 1))) = some r := by rw [if_neg (show ¬ (false = true) by decide)] at H; exact H
   clear H
   have H := H1
   clear H1
   have H' := Aside0.mk H
   clear H
   have p346 : 0 ≤ (x8_1 : Int) := of_decide_eq_true (by first | (with_reducible assumption) | assumption)
   have q346 : x8_1 < (l0.length : Int) := of_decide_eq_true (by first | (with_reducible assumption) | assumption)
   obtain ⟨ad346, A346_7, c346_7, e346, hx346_0, hx346_1, hx346_2, hx346_3, hx346_4, hx346_5, hx346_6, hx346_7, hl346_7, hi346_7⟩ := at_T60 HR0.out x8_1 p346 q346
   cases e346
   replace hx346_0 := (HB.out.cell (World.block_lt_of_cell? w _ hx346_0)).trans hx346_0
   replace hx346_1 := (HB.out.cell (World.block_lt_of_cell? w _ hx346_1)).trans hx346_1
   replace hx346_2 := (HB.out.cell (World.block_lt_of_cell? w _ hx346_2)).trans hx346_2
   replace hx346_3 := (HB.out.cell (World.block_lt_of_cell? w _ hx346_3)).trans hx346_3
   replace hx346_4 := (HB.out.cell (World.block_lt_of_cell? w _ hx346_4)).trans hx346_4
   replace hx346_5 := (HB.out.cell (World.block_lt_of_cell? w _ hx346_5)).trans hx346_5
   replace hx346_6 := (HB.out.cell (World.block_lt_of_cell? w _ hx346_6)).trans hx346_6
   replace hx346_7 := (HB.out.cell (World.block_lt_of_cell? w _ hx346_7)).trans hx346_7
   have HR346_7 := Aside0.mk hi346_7
   have HC346_7 := Aside0.mk hl346_7
   clear hi346_7 hl346_7
   replace p346 := eq_true p346
   replace q346 := eq_true q346
   go_wp2_with (first | (go_at_call 84; (with_reducible refine (impl_arePackets_1.calls k1 ((rd_T60 l0 x8_1).f0) ((rd_T60 l0 x8_1).f1) ((rd_T60 l0 x8_1).f2) ((rd_T60 l0 x8_1).f3) ((rd_T60 l0 x8_1).f4) ((rd_T60 l0 x8_1).f5) ((rd_T60 l0 x8_1).f6) _ _ ((rd_T60 l0 x8_1).f7) false _ ?side1 ?side2 A6.out).mono ?_); (case side1 => exact cY ((Kd.C_below HR346_7.out HB.out))); (case side2 => exact HC346_7.out); rintro e w9 ⟨rfl, hb⟩; have n0_ := Aside0.mk (bt_ (beY HB.out) hb); clear HB; have HB := n0_; clear n0_; (try clear hb); (try clear hb2); (try clear hk); (try clear hi)))
   go_roundg k1
   case measure => have := HK1.out; omega
   case rel => exact ⟨(wrap64 (x8_1 + 1)), (by first | rfl | (simp; done) | (simp [*]; done)), H', ⟨by have := HK1.out; omega⟩, ⟨beY HB.out⟩⟩
/-! ### slices_ContainsFunc_impl_Packet_impl_Packet__impl_arePackets_1: function 74 -/
def slices_ContainsFunc_impl_Packet_impl_Packet__impl_arePackets_1.f (k : Nat) (l0 : List (S60))  : Option (Bool) := (slices_IndexFunc_impl_Packet_impl_Packet__impl_arePackets_1.f k l0).bind fun t348 => (some (decide (t348 ≥ 0)))
set_option maxHeartbeats 8000000 in
set_option maxRecDepth 100000 in
theorem slices_ContainsFunc_impl_Packet_impl_Packet__impl_arePackets_1.calls (k : Nat) (A0 : Option Addr) (c0 : Nat) (l0 : List (S60))  (r : Bool) (w : World) (hr0 : Kd.C k60 w A0 l0.length l0) (hc0 : l0.length ≤ c0) (h : slices_ContainsFunc_impl_Packet_impl_Packet__impl_arePackets_1.f k l0 = some r) :
  Calls Try.prog 74 #[.slice A0 l0.length c0, .func (.func 84) #[] #[]] w fun e w' => e = .returned (.bool r) ∧ Below w.heap.size w w' := by
 have HR0 := Aside0.mk hr0
 have HC0 := Aside0.mk hc0
 clear hr0 hc0
 have HB := Aside0.mk (Below.refl w.heap.size w)
 have H : ((slices_IndexFunc_impl_Packet_impl_Packet__impl_arePackets_1.f k l0).bind fun t348 => (some (decide (t348 ≥ 0)))) = some r := h
 clear h
 replace H := Option.bind_eq_some_iff.mp H
 obtain ⟨t348, A30, H⟩ := H
 have A3 := Aside0.mk A30
 clear A30
 obtain rfl := Option.some.inj H
 go_enter Try.func74, Try.ntmps74
 go_wp2_with (first | ((with_reducible refine gc_ (f := 92) rfl ?_); refine goesL_ (some 7) rfl rfl Try.func92 (by kernel_rfl) rfl #[.slice A0 l0.length c0, .func (.func 84) #[] #[]] rfl (by (try simp only [List.map_toArray, List.map_cons, List.map_nil]); first | done | rfl) ?_; (with_reducible refine (slices_IndexFunc_impl_Packet_impl_Packet__impl_arePackets_1.calls k _ _ l0  t348 _ ?side1 ?side2 A3.out).mono ?_); (case side1 => exact cY (HR0.out)); (case side2 => exact HC0.out); rintro e w4 ⟨rfl, hb⟩; refine ⟨_, rfl, ?_⟩; have n0_ := Aside0.mk (bt_ (beY HB.out) hb); clear HB; have HB := n0_; clear n0_; (try clear hb); (try clear hb2); (try clear hk); (try clear hi)))
 go_ret
 exact ⟨by first | rfl | (simp [errW_none, errW_some] <;> rfl) | (simp [*, errW_none, errW_some] <;> rfl), beY HB.out⟩

/-! ### impl_arePackets: function 63 -/
def impl_arePackets.f (k : Nat) (l0 : List (S60)) : Option (Bool) := (slices_ContainsFunc_impl_Packet_impl_Packet__impl_arePackets_1.f k l0).bind fun t349 => (some (!t349))
set_option maxHeartbeats 8000000 in
set_option maxRecDepth 100000 in
theorem impl_arePackets.calls (k : Nat) (A0 : Option Addr) (c0 : Nat) (l0 : List (S60)) (r : Bool) (w : World) (hr0 : Kd.C k60 w A0 l0.length l0) (hc0 : l0.length ≤ c0) (h : impl_arePackets.f k l0 = some r) :
  Calls Try.prog 63 #[.slice A0 l0.length c0] w fun e w' => e = .returned (.bool r) ∧ Below w.heap.size w w' := by
 have HR0 := Aside0.mk hr0
 have HC0 := Aside0.mk hc0
 clear hr0 hc0
 have HB := Aside0.mk (Below.refl w.heap.size w)
 have H : ((slices_ContainsFunc_impl_Packet_impl_Packet__impl_arePackets_1.f k l0).bind fun t349 => (some (!t349))) = some r := h
 clear h
 replace H := Option.bind_eq_some_iff.mp H
 obtain ⟨t349, A20, H⟩ := H
 have A2 := Aside0.mk A20
 clear A20
 obtain rfl := Option.some.inj H
 go_enter Try.func63, Try.ntmps63
 go_wp2_with (first | ((with_reducible refine gc_ (f := 74) rfl ?_); refine goesL_ (some 4) rfl rfl Try.func74 (by kernel_rfl) rfl #[.slice A0 l0.length c0, .func (.func 84) #[] #[]] rfl (by (try simp only [List.map_toArray, List.map_cons, List.map_nil]); first | done | rfl) ?_; (with_reducible refine (slices_ContainsFunc_impl_Packet_impl_Packet__impl_arePackets_1.calls k _ _ l0  t349 _ ?side1 ?side2 A2.out).mono ?_); (case side1 => exact cY (HR0.out)); (case side2 => exact HC0.out); rintro e w3 ⟨rfl, hb⟩; refine ⟨_, rfl, ?_⟩; have n0_ := Aside0.mk (bt_ (beY HB.out) hb); clear HB; have HB := n0_; clear n0_; (try clear hb); (try clear hb2); (try clear hk); (try clear hi)))
 go_ret
 exact ⟨by first | rfl | (simp [errW_none, errW_some] <;> rfl) | (simp [*, errW_none, errW_some] <;> rfl), beY HB.out⟩

/-! ### impl_QueueOk: function 34 -/
def impl_QueueOk.f (k : Nat) (l0_0 : List (S60)) (l0_1 : List Int) (l0_2 : List Int) (l0_3 : List (S60)) : Option (Bool) := if (l0_0.length : Int) ≤ 12 then (if (l0_3.length : Int) ≤ 1000 then ((impl_arePackets.f k l0_0).bind fun t351 => (if t351 = true then ((impl_arePackets.f k l0_3).bind fun t352 => (if t352 = true then ((impl_CreditsOk.f k l0_1 l0_2).bind fun t353 => (some t353)) else (some false))) else (some false))) else (some false)) else (some false)
set_option maxHeartbeats 8000000 in
set_option maxRecDepth 100000 in
theorem impl_QueueOk.calls (k : Nat) (A0_0 : Option Addr) (c0_0 : Nat) (l0_0 : List (S60)) (A0_1 : Option Addr) (c0_1 : Nat) (l0_1 : List Int) (A0_2 : Option Addr) (c0_2 : Nat) (l0_2 : List Int) (A0_3 : Option Addr) (c0_3 : Nat) (l0_3 : List (S60)) (r : Bool) (w : World) (hr0_0 : Kd.C k60 w A0_0 l0_0.length l0_0) (hc0_0 : l0_0.length ≤ c0_0) (hr0_1 : Kd.C (Kd.int .i64) w A0_1 l0_1.length l0_1) (hc0_1 : l0_1.length ≤ c0_1) (hr0_2 : Kd.C (Kd.int .i64) w A0_2 l0_2.length l0_2) (hc0_2 : l0_2.length ≤ c0_2) (hr0_3 : Kd.C k60 w A0_3 l0_3.length l0_3) (hc0_3 : l0_3.length ≤ c0_3) (h : impl_QueueOk.f k l0_0 l0_1 l0_2 l0_3 = some r) :
  Calls Try.prog 34 #[.agg #[.slice A0_0 l0_0.length c0_0, .slice A0_1 l0_1.length c0_1, .slice A0_2 l0_2.length c0_2, .slice A0_3 l0_3.length c0_3]] w fun e w' => e = .returned (.bool r) ∧ Below w.heap.size w w' := by
 have hu53 := Try.underlying53
 have hu26 := Try.underlying26
 have HR0_0 := Aside0.mk hr0_0
 have HC0_0 := Aside0.mk hc0_0
 clear hr0_0 hc0_0
 have HR0_1 := Aside0.mk hr0_1
 have HC0_1 := Aside0.mk hc0_1
 clear hr0_1 hc0_1
 have HR0_2 := Aside0.mk hr0_2
 have HC0_2 := Aside0.mk hc0_2
 clear hr0_2 hc0_2
 have HR0_3 := Aside0.mk hr0_3
 have HC0_3 := Aside0.mk hc0_3
 clear hr0_3 hc0_3
 have HB := Aside0.mk (Below.refl w.heap.size w)
 have H : (if (l0_0.length : Int) ≤ 12 then (if (l0_3.length : Int) ≤ 1000 then ((impl_arePackets.f k l0_0).bind fun t351 => (if t351 = true then ((impl_arePackets.f k l0_3).bind fun t352 => (if t352 = true then ((impl_CreditsOk.f k l0_1 l0_2).bind fun t353 => (some t353)) else (some false))) else (some false))) else (some false)) else (some false)) = some r := h
 clear h
 by_cases c2 : (l0_0.length : Int) ≤ 12
 rotate_left
 ·rw [if_neg c2] at H
  have c2b0 : decide ((l0_0.length : Int) ≤ 12) = false := decide_eq_false c2
  have c2b1 : decide (l0_0.length ≤ 12) = false := decide_eq_false (by omega)
  clear c2
  obtain rfl := Option.some.inj H
  go_enter Try.func34, Try.ntmps34
  go_wp2_with (first | ((with_reducible refine gd_ (N := 1) rfl ?_); (try (refine gate_guard (by rfl) ?_; dsimp only)); refine bx_ ?hg (N := 1) ?hd (cs := #[.slice A0_0 l0_0.length c0_0, .slice A0_1 l0_1.length c0_1, .slice A0_2 l0_2.length c0_2, .slice A0_3 l0_3.length c0_3]) (t := 53) ?hr ?_; (case hd => rfl); (case hg => rfl); (case hr => first | (go_simp; done) | (go_simp; rfl)); intro gb350 hg w26 hbox hb; have n0_ := Aside0.mk (bt_ (beY HB.out) hb); have n1_ := Aside0.mk (hbox); have n2_ := Aside0.mk ((by rw [hg]; exact (bz_ (beY HB.out)) : w.heap.size ≤ gb350)); have n3_ := Aside0.mk ((by rw [hg]; exact (bz_ (beY HB.out)) : w.heap.size ≤ gb350)); clear HB; have HB := n0_; have BK350 := n1_; have GW350 := n2_; have GE350 := n3_; clear n0_ n1_ n2_ n3_ hb hbox hg; have hcz27_0 : w26.cell? ⟨gb350, 0, none⟩ = some (.slice A0_0 l0_0.length c0_0) := (bc_ BK350.out 0).trans rfl; have hcz27_1 : w26.cell? ⟨gb350, 1, none⟩ = some (.slice A0_1 l0_1.length c0_1) := (bc_ BK350.out 1).trans rfl; have hcz27_2 : w26.cell? ⟨gb350, 2, none⟩ = some (.slice A0_2 l0_2.length c0_2) := (bc_ BK350.out 2).trans rfl; have hcz27_3 : w26.cell? ⟨gb350, 3, none⟩ = some (.slice A0_3 l0_3.length c0_3) := (bc_ BK350.out 3).trans rfl; have hfz27_0 := bf_ BK350.out 0; have hfz27_1 := bf_ BK350.out 1; have hfz27_2 := bf_ BK350.out 2; have hfz27_3 := bf_ BK350.out 3))
  go_ret
  exact ⟨by first | rfl | (simp [errW_none, errW_some] <;> rfl) | (simp [*, errW_none, errW_some] <;> rfl), by repeat (first | (with_reducible first | exact HB.out | apply ba_ | apply bd_ | apply be_ | refine bs_ ?_ GE350.out) | exact HB.out)⟩
 rw [if_pos c2] at H
 have c2b0 : decide ((l0_0.length : Int) ≤ 12) = true := decide_eq_true c2
 have c2b1 : decide (l0_0.length ≤ 12) = true := decide_eq_true (by omega)
 clear c2
 by_cases c3 : (l0_3.length : Int) ≤ 1000
 rotate_left
 ·rw [if_neg c3] at H
  have c3b0 : decide ((l0_3.length : Int) ≤ 1000) = false := decide_eq_false c3
  have c3b1 : decide (l0_3.length ≤ 1000) = false := decide_eq_false (by omega)
  clear c3
  obtain rfl := Option.some.inj H
  go_enter Try.func34, Try.ntmps34
  go_wp2_with (first | ((with_reducible refine gd_ (N := 1) rfl ?_); (try (refine gate_guard (by rfl) ?_; dsimp only)); refine bx_ ?hg (N := 1) ?hd (cs := #[.slice A0_0 l0_0.length c0_0, .slice A0_1 l0_1.length c0_1, .slice A0_2 l0_2.length c0_2, .slice A0_3 l0_3.length c0_3]) (t := 53) ?hr ?_; (case hd => rfl); (case hg => rfl); (case hr => first | (go_simp; done) | (go_simp; rfl)); intro gb350 hg w24 hbox hb; have n0_ := Aside0.mk (bt_ (beY HB.out) hb); have n1_ := Aside0.mk (hbox); have n2_ := Aside0.mk ((by rw [hg]; exact (bz_ (beY HB.out)) : w.heap.size ≤ gb350)); have n3_ := Aside0.mk ((by rw [hg]; exact (bz_ (beY HB.out)) : w.heap.size ≤ gb350)); clear HB; have HB := n0_; have BK350 := n1_; have GW350 := n2_; have GE350 := n3_; clear n0_ n1_ n2_ n3_ hb hbox hg; have hcz25_0 : w24.cell? ⟨gb350, 0, none⟩ = some (.slice A0_0 l0_0.length c0_0) := (bc_ BK350.out 0).trans rfl; have hcz25_1 : w24.cell? ⟨gb350, 1, none⟩ = some (.slice A0_1 l0_1.length c0_1) := (bc_ BK350.out 1).trans rfl; have hcz25_2 : w24.cell? ⟨gb350, 2, none⟩ = some (.slice A0_2 l0_2.length c0_2) := (bc_ BK350.out 2).trans rfl; have hcz25_3 : w24.cell? ⟨gb350, 3, none⟩ = some (.slice A0_3 l0_3.length c0_3) := (bc_ BK350.out 3).trans rfl; have hfz25_0 := bf_ BK350.out 0; have hfz25_1 := bf_ BK350.out 1; have hfz25_2 := bf_ BK350.out 2; have hfz25_3 := bf_ BK350.out 3))
  go_ret
  exact ⟨by first | rfl | (simp [errW_none, errW_some] <;> rfl) | (simp [*, errW_none, errW_some] <;> rfl), by repeat (first | (with_reducible first | exact HB.out | apply ba_ | apply bd_ | apply be_ | refine bs_ ?_ GE350.out) | exact HB.out)⟩
 rw [if_pos c3] at H
 have c3b0 : decide ((l0_3.length : Int) ≤ 1000) = true := decide_eq_true c3
 have c3b1 : decide (l0_3.length ≤ 1000) = true := decide_eq_true (by omega)
 clear c3
 replace H := Option.bind_eq_some_iff.mp H
 obtain ⟨t351, A40, H⟩ := H
 have A4 := Aside0.mk A40
 clear A40
 by_cases c5 : t351 = true
 rotate_left
 ·replace c5 := Bool.eq_false_iff.mpr c5
  subst c5
  have H1 : (some false) = some r := by rw [if_neg (show ¬ (false = true) by decide)] at H; exact H
  clear H
  have H := H1
  clear H1
  obtain rfl := Option.some.inj H
  go_enter Try.func34, Try.ntmps34
  go_wp2_with (first | ((with_reducible refine gd_ (N := 1) rfl ?_); (try (refine gate_guard (by rfl) ?_; dsimp only)); refine bx_ ?hg (N := 1) ?hd (cs := #[.slice A0_0 l0_0.length c0_0, .slice A0_1 l0_1.length c0_1, .slice A0_2 l0_2.length c0_2, .slice A0_3 l0_3.length c0_3]) (t := 53) ?hr ?_; (case hd => rfl); (case hg => rfl); (case hr => first | (go_simp; done) | (go_simp; rfl)); intro gb350 hg w21 hbox hb; have n0_ := Aside0.mk (bt_ (beY HB.out) hb); have n1_ := Aside0.mk (hbox); have n2_ := Aside0.mk ((by rw [hg]; exact (bz_ (beY HB.out)) : w.heap.size ≤ gb350)); have n3_ := Aside0.mk ((by rw [hg]; exact (bz_ (beY HB.out)) : w.heap.size ≤ gb350)); clear HB; have HB := n0_; have BK350 := n1_; have GW350 := n2_; have GE350 := n3_; clear n0_ n1_ n2_ n3_ hb hbox hg; have hcz22_0 : w21.cell? ⟨gb350, 0, none⟩ = some (.slice A0_0 l0_0.length c0_0) := (bc_ BK350.out 0).trans rfl; have hcz22_1 : w21.cell? ⟨gb350, 1, none⟩ = some (.slice A0_1 l0_1.length c0_1) := (bc_ BK350.out 1).trans rfl; have hcz22_2 : w21.cell? ⟨gb350, 2, none⟩ = some (.slice A0_2 l0_2.length c0_2) := (bc_ BK350.out 2).trans rfl; have hcz22_3 : w21.cell? ⟨gb350, 3, none⟩ = some (.slice A0_3 l0_3.length c0_3) := (bc_ BK350.out 3).trans rfl; have hfz22_0 := bf_ BK350.out 0; have hfz22_1 := bf_ BK350.out 1; have hfz22_2 := bf_ BK350.out 2; have hfz22_3 := bf_ BK350.out 3) | (go_at_call 63; (with_reducible refine (impl_arePackets.calls k _ _ l0_0 false _ ?side1 ?side2 A4.out).mono ?_); (case side1 => exact cY ((Kd.C_below HR0_0.out HB.out))); (case side2 => exact HC0_0.out); rintro e w23 ⟨rfl, hb⟩; have n0_ := Aside0.mk (bb_ (bY BK350.out) hb); have n1_ := Aside0.mk (bt_ (by repeat (first | (with_reducible first | exact HB.out | apply ba_ | apply bd_ | apply be_ | refine bs_ ?_ GE350.out) | exact HB.out)) hb); clear BK350 HB; have BK350 := n0_; have HB := n1_; clear n0_ n1_; (try clear hb); (try clear hb2); (try clear hk); (try clear hi)))
  go_ret
  exact ⟨by first | rfl | (simp [errW_none, errW_some] <;> rfl) | (simp [*, errW_none, errW_some] <;> rfl), by repeat (first | (with_reducible first | exact HB.out | apply ba_ | apply bd_ | apply be_ | refine bs_ ?_ GE350.out) | exact HB.out)⟩
 subst c5
 have H1 : ((impl_arePackets.f k l0_3).bind fun t352 => (if t352 = true then ((impl_CreditsOk.f k l0_1 l0_2).bind fun t353 => (some t353)) else (some false))) = some r := by rw [if_pos rfl] at H; exact H
 clear H
 have H := H1
 clear H1
 replace H := Option.bind_eq_some_iff.mp H
 obtain ⟨t352, A60, H⟩ := H
 have A6 := Aside0.mk A60
 clear A60
 by_cases c7 : t352 = true
 rotate_left
 ·replace c7 := Bool.eq_false_iff.mpr c7
  subst c7
  have H1 : (some false) = some r := by rw [if_neg (show ¬ (false = true) by decide)] at H; exact H
  clear H
  have H := H1
  clear H1
  obtain rfl := Option.some.inj H
  go_enter Try.func34, Try.ntmps34
  go_wp2_with (first | ((with_reducible refine gd_ (N := 1) rfl ?_); (try (refine gate_guard (by rfl) ?_; dsimp only)); refine bx_ ?hg (N := 1) ?hd (cs := #[.slice A0_0 l0_0.length c0_0, .slice A0_1 l0_1.length c0_1, .slice A0_2 l0_2.length c0_2, .slice A0_3 l0_3.length c0_3]) (t := 53) ?hr ?_; (case hd => rfl); (case hg => rfl); (case hr => first | (go_simp; done) | (go_simp; rfl)); intro gb350 hg w16 hbox hb; have n0_ := Aside0.mk (bt_ (beY HB.out) hb); have n1_ := Aside0.mk (hbox); have n2_ := Aside0.mk ((by rw [hg]; exact (bz_ (beY HB.out)) : w.heap.size ≤ gb350)); have n3_ := Aside0.mk ((by rw [hg]; exact (bz_ (beY HB.out)) : w.heap.size ≤ gb350)); clear HB; have HB := n0_; have BK350 := n1_; have GW350 := n2_; have GE350 := n3_; clear n0_ n1_ n2_ n3_ hb hbox hg; have hcz17_0 : w16.cell? ⟨gb350, 0, none⟩ = some (.slice A0_0 l0_0.length c0_0) := (bc_ BK350.out 0).trans rfl; have hcz17_1 : w16.cell? ⟨gb350, 1, none⟩ = some (.slice A0_1 l0_1.length c0_1) := (bc_ BK350.out 1).trans rfl; have hcz17_2 : w16.cell? ⟨gb350, 2, none⟩ = some (.slice A0_2 l0_2.length c0_2) := (bc_ BK350.out 2).trans rfl; have hcz17_3 : w16.cell? ⟨gb350, 3, none⟩ = some (.slice A0_3 l0_3.length c0_3) := (bc_ BK350.out 3).trans rfl; have hfz17_0 := bf_ BK350.out 0; have hfz17_1 := bf_ BK350.out 1; have hfz17_2 := bf_ BK350.out 2; have hfz17_3 := bf_ BK350.out 3) | (go_at_call 63; (with_reducible refine (impl_arePackets.calls k _ _ l0_0 true _ ?side1 ?side2 A4.out).mono ?_); (case side1 => exact cY ((Kd.C_below HR0_0.out HB.out))); (case side2 => exact HC0_0.out); rintro e w18 ⟨rfl, hb⟩; have n0_ := Aside0.mk (bb_ (bY BK350.out) hb); have n1_ := Aside0.mk (bt_ (by repeat (first | (with_reducible first | exact HB.out | apply ba_ | apply bd_ | apply be_ | refine bs_ ?_ GE350.out) | exact HB.out)) hb); clear BK350 HB; have BK350 := n0_; have HB := n1_; clear n0_ n1_; (try clear hb); (try clear hb2); (try clear hk); (try clear hi); have hcz19_0 : w18.cell? ⟨gb350, 0, none⟩ = some (.slice A0_0 l0_0.length c0_0) := (bc_ BK350.out 0).trans rfl; have hcz19_1 : w18.cell? ⟨gb350, 1, none⟩ = some (.slice A0_1 l0_1.length c0_1) := (bc_ BK350.out 1).trans rfl; have hcz19_2 : w18.cell? ⟨gb350, 2, none⟩ = some (.slice A0_2 l0_2.length c0_2) := (bc_ BK350.out 2).trans rfl; have hcz19_3 : w18.cell? ⟨gb350, 3, none⟩ = some (.slice A0_3 l0_3.length c0_3) := (bc_ BK350.out 3).trans rfl; have hfz19_0 := bf_ BK350.out 0; have hfz19_1 := bf_ BK350.out 1; have hfz19_2 := bf_ BK350.out 2; have hfz19_3 := bf_ BK350.out 3) | (go_at_call 63; (with_reducible refine (impl_arePackets.calls k _ _ l0_3 false _ ?side1 ?side2 A6.out).mono ?_); (case side1 => exact cY ((Kd.C_below HR0_3.out HB.out))); (case side2 => exact HC0_3.out); rintro e w20 ⟨rfl, hb⟩; have n0_ := Aside0.mk (bb_ (bY BK350.out) hb); have n1_ := Aside0.mk (bt_ (by repeat (first | (with_reducible first | exact HB.out | apply ba_ | apply bd_ | apply be_ | refine bs_ ?_ GE350.out) | exact HB.out)) hb); clear BK350 HB; have BK350 := n0_; have HB := n1_; clear n0_ n1_; (try clear hb); (try clear hb2); (try clear hk); (try clear hi)))
  go_ret
  exact ⟨by first | rfl | (simp [errW_none, errW_some] <;> rfl) | (simp [*, errW_none, errW_some] <;> rfl), by repeat (first | (with_reducible first | exact HB.out | apply ba_ | apply bd_ | apply be_ | refine bs_ ?_ GE350.out) | exact HB.out)⟩
 subst c7
 have H1 : ((impl_CreditsOk.f k l0_1 l0_2).bind fun t353 => (some t353)) = some r := by rw [if_pos rfl] at H; exact H
 clear H
 have H := H1
 clear H1
 replace H := Option.bind_eq_some_iff.mp H
 obtain ⟨t353, A80, H⟩ := H
 have A8 := Aside0.mk A80
 clear A80
 obtain rfl := Option.some.inj H
 go_enter Try.func34, Try.ntmps34
 go_wp2_with (first | ((with_reducible refine gd_ (N := 1) rfl ?_); (try (refine gate_guard (by rfl) ?_; dsimp only)); refine bx_ ?hg (N := 1) ?hd (cs := #[.slice A0_0 l0_0.length c0_0, .slice A0_1 l0_1.length c0_1, .slice A0_2 l0_2.length c0_2, .slice A0_3 l0_3.length c0_3]) (t := 53) ?hr ?_; (case hd => rfl); (case hg => rfl); (case hr => first | (go_simp; done) | (go_simp; rfl)); intro gb350 hg w9 hbox hb; have n0_ := Aside0.mk (bt_ (beY HB.out) hb); have n1_ := Aside0.mk (hbox); have n2_ := Aside0.mk ((by rw [hg]; exact (bz_ (beY HB.out)) : w.heap.size ≤ gb350)); have n3_ := Aside0.mk ((by rw [hg]; exact (bz_ (beY HB.out)) : w.heap.size ≤ gb350)); clear HB; have HB := n0_; have BK350 := n1_; have GW350 := n2_; have GE350 := n3_; clear n0_ n1_ n2_ n3_ hb hbox hg; have hcz10_0 : w9.cell? ⟨gb350, 0, none⟩ = some (.slice A0_0 l0_0.length c0_0) := (bc_ BK350.out 0).trans rfl; have hcz10_1 : w9.cell? ⟨gb350, 1, none⟩ = some (.slice A0_1 l0_1.length c0_1) := (bc_ BK350.out 1).trans rfl; have hcz10_2 : w9.cell? ⟨gb350, 2, none⟩ = some (.slice A0_2 l0_2.length c0_2) := (bc_ BK350.out 2).trans rfl; have hcz10_3 : w9.cell? ⟨gb350, 3, none⟩ = some (.slice A0_3 l0_3.length c0_3) := (bc_ BK350.out 3).trans rfl; have hfz10_0 := bf_ BK350.out 0; have hfz10_1 := bf_ BK350.out 1; have hfz10_2 := bf_ BK350.out 2; have hfz10_3 := bf_ BK350.out 3) | (go_at_call 63; (with_reducible refine (impl_arePackets.calls k _ _ l0_0 true _ ?side1 ?side2 A4.out).mono ?_); (case side1 => exact cY ((Kd.C_below HR0_0.out HB.out))); (case side2 => exact HC0_0.out); rintro e w11 ⟨rfl, hb⟩; have n0_ := Aside0.mk (bb_ (bY BK350.out) hb); have n1_ := Aside0.mk (bt_ (by repeat (first | (with_reducible first | exact HB.out | apply ba_ | apply bd_ | apply be_ | refine bs_ ?_ GE350.out) | exact HB.out)) hb); clear BK350 HB; have BK350 := n0_; have HB := n1_; clear n0_ n1_; (try clear hb); (try clear hb2); (try clear hk); (try clear hi); have hcz12_0 : w11.cell? ⟨gb350, 0, none⟩ = some (.slice A0_0 l0_0.length c0_0) := (bc_ BK350.out 0).trans rfl; have hcz12_1 : w11.cell? ⟨gb350, 1, none⟩ = some (.slice A0_1 l0_1.length c0_1) := (bc_ BK350.out 1).trans rfl; have hcz12_2 : w11.cell? ⟨gb350, 2, none⟩ = some (.slice A0_2 l0_2.length c0_2) := (bc_ BK350.out 2).trans rfl; have hcz12_3 : w11.cell? ⟨gb350, 3, none⟩ = some (.slice A0_3 l0_3.length c0_3) := (bc_ BK350.out 3).trans rfl; have hfz12_0 := bf_ BK350.out 0; have hfz12_1 := bf_ BK350.out 1; have hfz12_2 := bf_ BK350.out 2; have hfz12_3 := bf_ BK350.out 3) | (go_at_call 63; (with_reducible refine (impl_arePackets.calls k _ _ l0_3 true _ ?side1 ?side2 A6.out).mono ?_); (case side1 => exact cY ((Kd.C_below HR0_3.out HB.out))); (case side2 => exact HC0_3.out); rintro e w13 ⟨rfl, hb⟩; have n0_ := Aside0.mk (bb_ (bY BK350.out) hb); have n1_ := Aside0.mk (bt_ (by repeat (first | (with_reducible first | exact HB.out | apply ba_ | apply bd_ | apply be_ | refine bs_ ?_ GE350.out) | exact HB.out)) hb); clear BK350 HB; have BK350 := n0_; have HB := n1_; clear n0_ n1_; (try clear hb); (try clear hb2); (try clear hk); (try clear hi); have hcz14_0 : w13.cell? ⟨gb350, 0, none⟩ = some (.slice A0_0 l0_0.length c0_0) := (bc_ BK350.out 0).trans rfl; have hcz14_1 : w13.cell? ⟨gb350, 1, none⟩ = some (.slice A0_1 l0_1.length c0_1) := (bc_ BK350.out 1).trans rfl; have hcz14_2 : w13.cell? ⟨gb350, 2, none⟩ = some (.slice A0_2 l0_2.length c0_2) := (bc_ BK350.out 2).trans rfl; have hcz14_3 : w13.cell? ⟨gb350, 3, none⟩ = some (.slice A0_3 l0_3.length c0_3) := (bc_ BK350.out 3).trans rfl; have hfz14_0 := bf_ BK350.out 0; have hfz14_1 := bf_ BK350.out 1; have hfz14_2 := bf_ BK350.out 2; have hfz14_3 := bf_ BK350.out 3) | (go_at_call 43; (with_reducible refine (impl_CreditsOk.calls k _ _ l0_1 _ _ l0_2 t353 _ ?side1 ?side2 ?side3 ?side4 A8.out).mono ?_); (case side1 => exact cY ((Kd.C_below HR0_1.out HB.out))); (case side2 => exact HC0_1.out); (case side3 => exact cY ((Kd.C_below HR0_2.out HB.out))); (case side4 => exact HC0_2.out); rintro e w15 ⟨rfl, hb⟩; have n0_ := Aside0.mk (bb_ (bY BK350.out) hb); have n1_ := Aside0.mk (bt_ (by repeat (first | (with_reducible first | exact HB.out | apply ba_ | apply bd_ | apply be_ | refine bs_ ?_ GE350.out) | exact HB.out)) hb); clear BK350 HB; have BK350 := n0_; have HB := n1_; clear n0_ n1_; (try clear hb); (try clear hb2); (try clear hk); (try clear hi)))
 go_ret
 exact ⟨by first | rfl | (simp [errW_none, errW_some] <;> rfl) | (simp [*, errW_none, errW_some] <;> rfl), by repeat (first | (with_reducible first | exact HB.out | apply ba_ | apply bd_ | apply be_ | refine bs_ ?_ GE350.out) | exact HB.out)⟩
/-! ### impl_classOf: function 96 -/
def impl_classOf.j0 : Nat → Int → Bool → Option (Int)
 | 0, _, _ => none
 | k + 1, x3, x4 => if x4 = true then (some 0) else (if x3 = 6 then (some 2) else (some 1))
def impl_classOf.f (k : Nat) (a0 : Int) : Option (Int) := if a0 = 1 then (impl_classOf.j0 k a0 (a0 == 1)) else (impl_classOf.j0 k a0 (a0 == 2))
set_option maxHeartbeats 8000000 in
set_option maxRecDepth 100000 in
theorem impl_classOf.calls (k : Nat) (a0 : Int) (r : Int) (w : World) (h : impl_classOf.f k a0 = some r) :
  Calls Try.prog 96 #[.int .i64 a0] w fun e w' => e = .returned (.int .i64 r) ∧ Drawn0 w w' := by
 have H : (if a0 = 1 then (impl_classOf.j0 k a0 (a0 == 1)) else (impl_classOf.j0 k a0 (a0 == 2))) = some r := h
 clear h
 have HC2 := Aside0.mk H
 clear H
 go_enter Try.func96, Try.ntmps96
 go_upto_if 4 with (fail)
 go_cut [4] (fun v4 wc => ∃ (kq : Nat) (x4_1 : Bool), v4 = .bool x4_1 ∧ Aside0 (impl_classOf.j0 kq a0 x4_1 = some r) ∧ Aside0 (kq ≤ k) ∧ Drawn0 w wc)
 case first =>
  have H := HC2.out
  clear HC2
  by_cases c3 : a0 = 1
  ·rw [if_pos c3] at H
   have c3b0 : (a0 == 1) = true := beq_iff_eq.mpr c3
   have c3b1 : (a0 != 1) = false := bne_eq_false_iff_eq.mpr c3
   clear c3
   (first | rw [c3b0] | (simp only [i64_w, i32_w]; rw [c3b0]) | skip)
   have H' := Aside0.mk H
   clear H
   go_wp2
   go_meet
   case rel => exact ⟨_, ((a0 == 1)), (by first | rfl | (simp; done) | (simp [*]; done)), H', ⟨by first | omega | exact Nat.le_refl _⟩, by repeat (first | exact Drawn0.refl _ | apply Drawn0.step)⟩
  ·rw [if_neg c3] at H
   have c3b0 : (a0 == 1) = false := beq_eq_false_iff_ne.mpr c3
   have c3b1 : (a0 != 1) = true := bne_iff_ne.mpr c3
   (first | rw [c3b0] | (simp only [i64_w, i32_w]; rw [c3b0]) | skip)
   have H' := Aside0.mk H
   clear H
   go_wp2
   go_meet
   case rel => exact ⟨_, ((a0 == 2)), (by first | rfl | (simp; done) | (simp [*]; done)), H', ⟨by first | omega | exact Nat.le_refl _⟩, by repeat (first | exact Drawn0.refl _ | apply Drawn0.step)⟩
 case rest =>
  clear HC2
  obtain ⟨kq, x4_1, rfl, HA, HJ1, ⟨mc1, rfl⟩⟩ := hcut
  cases kq with
  | zero => exact absurd HA.out (by simp [impl_classOf.j0])
  | succ kj1 =>
   have H := HA.out
   clear HA
   simp only [impl_classOf.j0] at H
   by_cases c4 : x4_1 = true
   ·subst c4
    have H1 : (some 0) = some r := by rw [if_pos rfl] at H; exact H
    clear H
    have H := H1
    clear H1
    obtain rfl := Option.some.inj H
    go_wp2
    go_ret
    exact ⟨by first | rfl | (simp; done) | (simp [*]; done), by repeat (first | exact Drawn0.refl _ | apply Drawn0.step)⟩
   ·replace c4 := Bool.eq_false_iff.mpr c4
    subst c4
    have H1 : (if a0 = 6 then (some 2) else (some 1)) = some r := by rw [if_neg (show ¬ (false = true) by decide)] at H; exact H
    clear H
    have H := H1
    clear H1
    by_cases c5 : a0 = 6
    ·rw [if_pos c5] at H
     have c5b0 : (a0 == 6) = true := beq_iff_eq.mpr c5
     have c5b1 : (a0 != 6) = false := bne_eq_false_iff_eq.mpr c5
     clear c5
     obtain rfl := Option.some.inj H
     go_wp2
     go_ret
     exact ⟨by first | rfl | (simp; done) | (simp [*]; done), by repeat (first | exact Drawn0.refl _ | apply Drawn0.step)⟩
    ·rw [if_neg c5] at H
     have c5b0 : (a0 == 6) = false := beq_eq_false_iff_ne.mpr c5
     have c5b1 : (a0 != 6) = true := bne_iff_ne.mpr c5
     obtain rfl := Option.some.inj H
     go_wp2
     go_ret
     exact ⟨by first | rfl | (simp; done) | (simp [*]; done), by repeat (first | exact Drawn0.refl _ | apply Drawn0.step)⟩

/-! ### impl_ClassOf: function 79 -/
def impl_ClassOf.f (k : Nat) (a0_0 : Int) (a0_1 : Int) (a0_2 : Int) (a0_3 : Int) (a0_4 : Int) (a0_5 : Int) (a0_6 : Int) (l0_7 : List Int) : Option (Int) := (impl_IsPacket.f k a0_0 a0_1 a0_2 a0_3 a0_4 a0_5 a0_6 l0_7).bind fun t355 => (if t355 = true then ((impl_classOf.f k a0_0).bind fun t356 => (some t356)) else (some (-1)))
set_option maxHeartbeats 8000000 in
set_option maxRecDepth 100000 in
theorem impl_ClassOf.calls (k : Nat) (a0_0 : Int) (a0_1 : Int) (a0_2 : Int) (a0_3 : Int) (a0_4 : Int) (a0_5 : Int) (a0_6 : Int) (A0_7 : Option Addr) (c0_7 : Nat) (l0_7 : List Int) (r : Int) (w : World) (hr0_7 : Kd.C (Kd.int .i64) w A0_7 l0_7.length l0_7) (hc0_7 : l0_7.length ≤ c0_7) (h : impl_ClassOf.f k a0_0 a0_1 a0_2 a0_3 a0_4 a0_5 a0_6 l0_7 = some r) :
  Calls Try.prog 79 #[.agg #[.int .i64 a0_0, .int .i64 a0_1, .int .i64 a0_2, .int .i64 a0_3, .int .i64 a0_4, .int .i64 a0_5, .int .i64 a0_6, .slice A0_7 l0_7.length c0_7]] w fun e w' => e = .returned (.int .i64 r) ∧ Below w.heap.size w w' := by
 have hu60 := Try.underlying60
 have HR0_7 := Aside0.mk hr0_7
 have HC0_7 := Aside0.mk hc0_7
 clear hr0_7 hc0_7
 have HB := Aside0.mk (Below.refl w.heap.size w)
 have H : ((impl_IsPacket.f k a0_0 a0_1 a0_2 a0_3 a0_4 a0_5 a0_6 l0_7).bind fun t355 => (if t355 = true then ((impl_classOf.f k a0_0).bind fun t356 => (some t356)) else (some (-1)))) = some r := h
 clear h
 replace H := Option.bind_eq_some_iff.mp H
 obtain ⟨t355, A20, H⟩ := H
 have A2 := Aside0.mk A20
 clear A20
 by_cases c3 : t355 = true
 rotate_left
 ·replace c3 := Bool.eq_false_iff.mpr c3
  subst c3
  have H1 : (some (-1)) = some r := by rw [if_neg (show ¬ (false = true) by decide)] at H; exact H
  clear H
  have H := H1
  clear H1
  obtain rfl := Option.some.inj H
  go_enter Try.func79, Try.ntmps79
  go_wp2_with (first | ((with_reducible refine gd_ (N := 1) rfl ?_); refine bx_ ?hg (N := 1) ?hd (cs := #[.int .i64 a0_0, .int .i64 a0_1, .int .i64 a0_2, .int .i64 a0_3, .int .i64 a0_4, .int .i64 a0_5, .int .i64 a0_6, .slice A0_7 l0_7.length c0_7]) (t := 60) ?hr ?_; (case hd => rfl); (case hg => rfl); (case hr => first | (go_simp; done) | (go_simp; rfl)); intro gb354 hg w9 hbox hb; have n0_ := Aside0.mk (bt_ (beY HB.out) hb); have n1_ := Aside0.mk (hbox); have n2_ := Aside0.mk ((by rw [hg]; exact (bz_ (beY HB.out)) : w.heap.size ≤ gb354)); have n3_ := Aside0.mk ((by rw [hg]; exact (bz_ (beY HB.out)) : w.heap.size ≤ gb354)); clear HB; have HB := n0_; have BK354 := n1_; have GW354 := n2_; have GE354 := n3_; clear n0_ n1_ n2_ n3_ hb hbox hg; have hcz10_0 : w9.cell? ⟨gb354, 0, none⟩ = some (.int .i64 a0_0) := (bc_ BK354.out 0).trans rfl; have hcz10_1 : w9.cell? ⟨gb354, 1, none⟩ = some (.int .i64 a0_1) := (bc_ BK354.out 1).trans rfl; have hcz10_2 : w9.cell? ⟨gb354, 2, none⟩ = some (.int .i64 a0_2) := (bc_ BK354.out 2).trans rfl; have hcz10_3 : w9.cell? ⟨gb354, 3, none⟩ = some (.int .i64 a0_3) := (bc_ BK354.out 3).trans rfl; have hcz10_4 : w9.cell? ⟨gb354, 4, none⟩ = some (.int .i64 a0_4) := (bc_ BK354.out 4).trans rfl; have hcz10_5 : w9.cell? ⟨gb354, 5, none⟩ = some (.int .i64 a0_5) := (bc_ BK354.out 5).trans rfl; have hcz10_6 : w9.cell? ⟨gb354, 6, none⟩ = some (.int .i64 a0_6) := (bc_ BK354.out 6).trans rfl; have hcz10_7 : w9.cell? ⟨gb354, 7, none⟩ = some (.slice A0_7 l0_7.length c0_7) := (bc_ BK354.out 7).trans rfl; have hfz10_0 := bf_ BK354.out 0; have hfz10_1 := bf_ BK354.out 1; have hfz10_2 := bf_ BK354.out 2; have hfz10_3 := bf_ BK354.out 3; have hfz10_4 := bf_ BK354.out 4; have hfz10_5 := bf_ BK354.out 5; have hfz10_6 := bf_ BK354.out 6; have hfz10_7 := bf_ BK354.out 7) | ((with_reducible refine gc_ (f := 65) rfl ?_); refine goesL_ (some 4) rfl rfl Try.func65 (by kernel_rfl) rfl #[.agg #[.int .i64 a0_0, .int .i64 a0_1, .int .i64 a0_2, .int .i64 a0_3, .int .i64 a0_4, .int .i64 a0_5, .int .i64 a0_6, .slice A0_7 l0_7.length c0_7]] rfl (by (try simp only [List.map_toArray, List.map_cons, List.map_nil]); first | done | rfl) ?_; (with_reducible refine (impl_IsPacket.calls k a0_0 a0_1 a0_2 a0_3 a0_4 a0_5 a0_6 _ _ l0_7 false _ ?side1 ?side2 A2.out).mono ?_); (case side1 => exact cY ((Kd.C_below HR0_7.out HB.out))); (case side2 => exact HC0_7.out); rintro e w11 ⟨rfl, hb⟩; refine ⟨_, rfl, ?_⟩; have n0_ := Aside0.mk (bb_ (bY BK354.out) hb); have n1_ := Aside0.mk (bt_ (by repeat (first | (with_reducible first | exact HB.out | apply ba_ | apply bd_ | apply be_ | refine bs_ ?_ GE354.out) | exact HB.out)) hb); clear BK354 HB; have BK354 := n0_; have HB := n1_; clear n0_ n1_; (try clear hb); (try clear hb2); (try clear hk); (try clear hi)))
  go_ret
  exact ⟨by first | rfl | (simp [errW_none, errW_some] <;> rfl) | (simp [*, errW_none, errW_some] <;> rfl), by repeat (first | (with_reducible first | exact HB.out | apply ba_ | apply bd_ | apply be_ | refine bs_ ?_ GE354.out) | exact HB.out)⟩
 subst c3
 have H1 : ((impl_classOf.f k a0_0).bind fun t356 => (some t356)) = some r := by rw [if_pos rfl] at H; exact H
 clear H
 have H := H1
 clear H1
 replace H := Option.bind_eq_some_iff.mp H
 obtain ⟨t356, A40, H⟩ := H
 have A4 := Aside0.mk A40
 clear A40
 obtain rfl := Option.some.inj H
 go_enter Try.func79, Try.ntmps79
 go_wp2_with (first | ((with_reducible refine gd_ (N := 1) rfl ?_); refine bx_ ?hg (N := 1) ?hd (cs := #[.int .i64 a0_0, .int .i64 a0_1, .int .i64 a0_2, .int .i64 a0_3, .int .i64 a0_4, .int .i64 a0_5, .int .i64 a0_6, .slice A0_7 l0_7.length c0_7]) (t := 60) ?hr ?_; (case hd => rfl); (case hg => rfl); (case hr => first | (go_simp; done) | (go_simp; rfl)); intro gb354 hg w5 hbox hb; have n0_ := Aside0.mk (bt_ (beY HB.out) hb); have n1_ := Aside0.mk (hbox); have n2_ := Aside0.mk ((by rw [hg]; exact (bz_ (beY HB.out)) : w.heap.size ≤ gb354)); have n3_ := Aside0.mk ((by rw [hg]; exact (bz_ (beY HB.out)) : w.heap.size ≤ gb354)); clear HB; have HB := n0_; have BK354 := n1_; have GW354 := n2_; have GE354 := n3_; clear n0_ n1_ n2_ n3_ hb hbox hg; have hcz6_0 : w5.cell? ⟨gb354, 0, none⟩ = some (.int .i64 a0_0) := (bc_ BK354.out 0).trans rfl; have hcz6_1 : w5.cell? ⟨gb354, 1, none⟩ = some (.int .i64 a0_1) := (bc_ BK354.out 1).trans rfl; have hcz6_2 : w5.cell? ⟨gb354, 2, none⟩ = some (.int .i64 a0_2) := (bc_ BK354.out 2).trans rfl; have hcz6_3 : w5.cell? ⟨gb354, 3, none⟩ = some (.int .i64 a0_3) := (bc_ BK354.out 3).trans rfl; have hcz6_4 : w5.cell? ⟨gb354, 4, none⟩ = some (.int .i64 a0_4) := (bc_ BK354.out 4).trans rfl; have hcz6_5 : w5.cell? ⟨gb354, 5, none⟩ = some (.int .i64 a0_5) := (bc_ BK354.out 5).trans rfl; have hcz6_6 : w5.cell? ⟨gb354, 6, none⟩ = some (.int .i64 a0_6) := (bc_ BK354.out 6).trans rfl; have hcz6_7 : w5.cell? ⟨gb354, 7, none⟩ = some (.slice A0_7 l0_7.length c0_7) := (bc_ BK354.out 7).trans rfl; have hfz6_0 := bf_ BK354.out 0; have hfz6_1 := bf_ BK354.out 1; have hfz6_2 := bf_ BK354.out 2; have hfz6_3 := bf_ BK354.out 3; have hfz6_4 := bf_ BK354.out 4; have hfz6_5 := bf_ BK354.out 5; have hfz6_6 := bf_ BK354.out 6; have hfz6_7 := bf_ BK354.out 7) | ((with_reducible refine gc_ (f := 65) rfl ?_); refine goesL_ (some 4) rfl rfl Try.func65 (by kernel_rfl) rfl #[.agg #[.int .i64 a0_0, .int .i64 a0_1, .int .i64 a0_2, .int .i64 a0_3, .int .i64 a0_4, .int .i64 a0_5, .int .i64 a0_6, .slice A0_7 l0_7.length c0_7]] rfl (by (try simp only [List.map_toArray, List.map_cons, List.map_nil]); first | done | rfl) ?_; (with_reducible refine (impl_IsPacket.calls k a0_0 a0_1 a0_2 a0_3 a0_4 a0_5 a0_6 _ _ l0_7 true _ ?side1 ?side2 A2.out).mono ?_); (case side1 => exact cY ((Kd.C_below HR0_7.out HB.out))); (case side2 => exact HC0_7.out); rintro e w7 ⟨rfl, hb⟩; refine ⟨_, rfl, ?_⟩; have n0_ := Aside0.mk (bb_ (bY BK354.out) hb); have n1_ := Aside0.mk (bt_ (by repeat (first | (with_reducible first | exact HB.out | apply ba_ | apply bd_ | apply be_ | refine bs_ ?_ GE354.out) | exact HB.out)) hb); clear BK354 HB; have BK354 := n0_; have HB := n1_; clear n0_ n1_; (try clear hb); (try clear hb2); (try clear hk); (try clear hi); have hcz8_0 : w7.cell? ⟨gb354, 0, none⟩ = some (.int .i64 a0_0) := (bc_ BK354.out 0).trans rfl; have hcz8_1 : w7.cell? ⟨gb354, 1, none⟩ = some (.int .i64 a0_1) := (bc_ BK354.out 1).trans rfl; have hcz8_2 : w7.cell? ⟨gb354, 2, none⟩ = some (.int .i64 a0_2) := (bc_ BK354.out 2).trans rfl; have hcz8_3 : w7.cell? ⟨gb354, 3, none⟩ = some (.int .i64 a0_3) := (bc_ BK354.out 3).trans rfl; have hcz8_4 : w7.cell? ⟨gb354, 4, none⟩ = some (.int .i64 a0_4) := (bc_ BK354.out 4).trans rfl; have hcz8_5 : w7.cell? ⟨gb354, 5, none⟩ = some (.int .i64 a0_5) := (bc_ BK354.out 5).trans rfl; have hcz8_6 : w7.cell? ⟨gb354, 6, none⟩ = some (.int .i64 a0_6) := (bc_ BK354.out 6).trans rfl; have hcz8_7 : w7.cell? ⟨gb354, 7, none⟩ = some (.slice A0_7 l0_7.length c0_7) := (bc_ BK354.out 7).trans rfl; have hfz8_0 := bf_ BK354.out 0; have hfz8_1 := bf_ BK354.out 1; have hfz8_2 := bf_ BK354.out 2; have hfz8_3 := bf_ BK354.out 3; have hfz8_4 := bf_ BK354.out 4; have hfz8_5 := bf_ BK354.out 5; have hfz8_6 := bf_ BK354.out 6; have hfz8_7 := bf_ BK354.out 7) | ((with_reducible refine gc_ (f := 96) rfl ?_); refine goesL_ (some 8) rfl rfl Try.func96 (by kernel_rfl) rfl #[.int .i64 a0_0] rfl (by (try simp only [List.map_toArray, List.map_cons, List.map_nil]); first | done | rfl) ?_; (with_reducible refine (impl_classOf.calls k a0_0 t356 _ A4.out).mono ?_); rintro e w' ⟨rfl, ⟨nd, rfl⟩⟩; refine ⟨_, rfl, ?_⟩))
 go_ret
 exact ⟨by first | rfl | (simp [errW_none, errW_some] <;> rfl) | (simp [*, errW_none, errW_some] <;> rfl), by repeat (first | (with_reducible first | exact HB.out | apply ba_ | apply bd_ | apply be_ | refine bs_ ?_ GE354.out) | exact HB.out)⟩
end Go.Proofs.Ytbdehpmfemgooaa.PFnBlocked
