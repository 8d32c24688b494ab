-- Written by a program of this session (wip/xp): not trusted, Lean checks it.
import Derived.Test.YtlombfmebinjbaaPFnExactChannelOkx0
import Derived.Test.YtlombfmebinjbaaPFnExactChannelOkx1
import Derived.Test.YtlombfmebinjbaaPFnExactChannelOkx2
namespace Go.Proofs.Ytlombfmebinjbaa.PFnExactChannelOk
open Go.RowKit Go.Proofs.YtlombfmebinjbaaW.PrintWords Go.Proofs.YtlombfmebinjbaaW.PrintLast Go.Proofs.YtlombfmebinjbaaW.PrintMore
attribute [local go_sem] max2_int min2_int max_two min_two max_three min_three max_four min_four   -- for this text's walks alone
set_option linter.unusedVariables false
set_option linter.unusedSimpArgs false

/-! ### spec_IsPacket: function 74 -/
def spec_IsPacket.j0 : Nat → Bool → Int → Int → Int → Int → Int → Int → Int → List Int → Option (Bool)
 | 0, _, _, _, _, _, _, _, _, _ => none
 | k + 1, x12, x137000, x137001, x137002, x137003, x137004, x137005, x137006, x137007 => if x12 = true then (some false) else (if x137000 = 1 then ((spec_l01In.f (x137007.length : Int) 1 8).bind fun t139 => (if t139 = true then ((spec_l01In.f x137003 0 (wrap64 (65536 - (x137007.length : Int)))).bind fun t140 => (if t140 = true then (if x137006 = 0 then ((spec_l04Zero.f x137000 x137001 x137002 x137003 x137004 x137005 x137006 x137007 false false false).bind fun t141 => (some t141)) else (some false)) else (some false))) else (some false))) else (if x137000 = 2 then ((spec_l01In.f (x137007.length : Int) 1 8).bind fun t142 => (if t142 = true then (if x137003 = 0 then (if x137006 = 0 then ((spec_l04Zero.f x137000 x137001 x137002 x137003 x137004 x137005 x137006 x137007 false false false).bind fun t143 => (some t143)) else (some false)) else (some false)) else (some false))) else (if x137000 = 3 then (if (x137007.length : Int) = 0 then ((spec_l01In.f x137004 1 64).bind fun t144 => (if t144 = true then ((spec_l01In.f x137003 0 (wrap64 (65536 - x137004))).bind fun t145 => (if t145 = true then ((spec_l01In.f x137005 0 7).bind fun t146 => (if t146 = true then (if x137006 = 0 then ((spec_l04Zero.f x137000 x137001 x137002 x137003 x137004 x137005 x137006 x137007 false true true).bind fun t147 => (some t147)) else (some false)) else (some false))) else (some false))) else (some false))) else (some false)) else (if x137000 = 4 then (if (x137007.length : Int) = 0 then ((spec_l01In.f x137003 0 63).bind fun t148 => (if t148 = true then ((spec_IsId.f x137002).bind fun t149 => (if t149 = true then ((spec_l01In.f x137005 0 7).bind fun t150 => (if t150 = true then (if x137006 = 0 then ((spec_l04Zero.f x137000 x137001 x137002 x137003 x137004 x137005 x137006 x137007 true false true).bind fun t151 => (some t151)) else (some false)) else (some false))) else (some false))) else (some false))) else (some false)) else (if x137000 = 5 then (if (x137007.length : Int) = 1 then ((spec_l01In.f x137003 0 63).bind fun t152 => (if t152 = true then ((spec_IsId.f x137002).bind fun t153 => (if t153 = true then ((spec_l01In.f x137005 0 7).bind fun t154 => (if t154 = true then (if x137006 = 0 then ((spec_l04Zero.f x137000 x137001 x137002 x137003 x137004 x137005 x137006 x137007 true false true).bind fun t155 => (some t155)) else (some false)) else (some false))) else (some false))) else (some false))) else (some false)) else (if x137000 = 6 then (if x137003 = 0 then ((spec_IsId.f x137002).bind fun t156 => (if t156 = true then ((spec_l01In.f x137005 0 7).bind fun t157 => (if t157 = true then ((spec_l01In.f x137006 0 2).bind fun t158 => (if t158 = true then ((spec_l01In.f x137004 0 64).bind fun t159 => (if t159 = true then (if (x137007.length : Int) = 0 then (some true) else (if x137006 = 0 then (some (decide ((x137007.length : Int) ≤ (mn 8 x137004)))) else (some false))) else (some false))) else (some false))) else (some false))) else (some false))) else (some false)) else (some false)))))))
def spec_IsPacket.f (k : Nat) (a0_0 : Int) (a0_1 : Int) (a0_2 : Int) (a0_3 : Int) (a0_4 : Int) (a0_5 : Int) (a0_6 : Int) (l0_7 : List Int) : Option (Bool) := (spec_IsId.f a0_1).bind fun t137 => (if t137 = true then ((spec_l04Words.f k l0_7).bind fun t138 => (spec_IsPacket.j0 k (!t138) a0_0 a0_1 a0_2 a0_3 a0_4 a0_5 a0_6 l0_7)) else (spec_IsPacket.j0 k true a0_0 a0_1 a0_2 a0_3 a0_4 a0_5 a0_6 l0_7))
set_option maxHeartbeats 8000000 in
set_option maxRecDepth 100000 in
theorem spec_IsPacket.calls (k : Nat) (a0_0 : Int) (a0_1 : Int) (a0_2 : Int) (a0_3 : Int) (a0_4 : Int) (a0_5 : Int) (a0_6 : Int) (A0_7 : Option Addr) (c0_7 : Nat) (l0_7 : List Int) (r : Bool) (w : World) (hr0_7 : Kd.C (Kd.int .i64) w A0_7 l0_7.length l0_7) (hc0_7 : l0_7.length ≤ c0_7) (h : spec_IsPacket.f k a0_0 a0_1 a0_2 a0_3 a0_4 a0_5 a0_6 l0_7 = some r) :
  Calls Try.prog 74 #[.agg #[.int .i64 a0_0, .int .i64 a0_1, .int .i64 a0_2, .int .i64 a0_3, .int .i64 a0_4, .int .i64 a0_5, .int .i64 a0_6, .slice A0_7 l0_7.length c0_7]] w fun e w' => e = .returned (.bool r) ∧ Below w.heap.size w w' := by
 have hu38 := Try.underlying38
 have HR0_7 := Aside0.mk hr0_7
 have HC0_7 := Aside0.mk hc0_7
 clear hr0_7 hc0_7
 have HB := Aside0.mk (Below.refl w.heap.size w)
 have H : ((spec_IsId.f a0_1).bind fun t137 => (if t137 = true then ((spec_l04Words.f k l0_7).bind fun t138 => (spec_IsPacket.j0 k (!t138) a0_0 a0_1 a0_2 a0_3 a0_4 a0_5 a0_6 l0_7)) else (spec_IsPacket.j0 k true a0_0 a0_1 a0_2 a0_3 a0_4 a0_5 a0_6 l0_7))) = some r := h
 clear h
 have HC2 := Aside0.mk H
 clear H
 go_enter Try.func74, Try.ntmps74
 go_upto_region 1 with (first | ((with_reducible refine gate_dst (N := 1) rfl ?_); (try (refine gate_guard (by rfl) ?_; dsimp only)); refine box_event ?hg (N := 1) ?hd (cs := #[.int .i64 a0_0, .int .i64 a0_1, .int .i64 a0_2, .int .i64 a0_3, .int .i64 a0_4, .int .i64 a0_5, .int .i64 a0_6, .slice A0_7 l0_7.length c0_7]) (t := 38) ?hr ?_; (case hd => rfl); (case hg => rfl); (case hr => first | (go_simp; done) | (go_simp; rfl)); intro gb136 hg w3 hbox hb; have n0_ := Aside0.mk (below_step (beY HB.out) hb); have n1_ := Aside0.mk (hbox); have n2_ := Aside0.mk ((by rw [hg]; exact (below_size (beY HB.out)) : w.heap.size ≤ gb136)); have n3_ := Aside0.mk ((by rw [hg]; exact (below_size (beY HB.out)) : w.heap.size ≤ gb136)); clear HB; have HB := n0_; have BK136 := n1_; have GW136 := n2_; have GE136 := n3_; clear n0_ n1_ n2_ n3_; clear hb hbox hg))
 (try simp only [Act.put, List.setIfInBounds_toArray, List.set_cons_zero, List.set_cons_succ])
 go_cut [12] (fun v12 wc => ∃ (kq : Nat) (x12_1 : Bool), v12 = .bool x12_1 ∧ Aside0 (spec_IsPacket.j0 kq x12_1 a0_0 a0_1 a0_2 a0_3 a0_4 a0_5 a0_6 l0_7 = some r) ∧ Aside0 (kq ≤ k) ∧ Aside0 (wc.heap[gb136]? = some (.cells #[.int .i64 a0_0, .int .i64 a0_1, .int .i64 a0_2, .int .i64 a0_3, .int .i64 a0_4, .int .i64 a0_5, .int .i64 a0_6, (.slice A0_7 l0_7.length c0_7)] 38 (0, 0))) ∧ Aside0 (Below w.heap.size w wc))
 case first =>
  have H := HC2.out
  clear HC2
  replace H := Option.bind_eq_some_iff.mp H
  obtain ⟨t137, A40, H⟩ := H
  have A4 := Aside0.mk A40
  clear A40
  by_cases c5 : t137 = true
  rotate_left
  ·replace c5 := Bool.eq_false_iff.mpr c5
   subst c5
   have H1 : (spec_IsPacket.j0 k true a0_0 a0_1 a0_2 a0_3 a0_4 a0_5 a0_6 l0_7) = some r := by rw [if_neg (show ¬ (false = true) by decide)] at H; exact H
   clear H
   have H := H1
   clear H1
   have H' := Aside0.mk H
   clear H
   obtain ⟨hcz8_0, hcz8_1, hcz8_2, hcz8_3, hcz8_4, hcz8_5, hcz8_6, hcz8_7, hfz8_0, hfz8_1, hfz8_2, hfz8_3, hfz8_4, hfz8_5, hfz8_6, hfz8_7⟩ := b8 BK136.out
   go_wp2_with (first | ((with_reducible refine gate_callee (f := 91) rfl ?_); refine goesL_ (some 5) rfl rfl Try.func91 (by kernel_rfl) rfl #[.int .i64 a0_1] rfl (by (try simp only [List.map_toArray, List.map_cons, List.map_nil]); first | done | rfl) ?_; (with_reducible refine (spec_IsId.calls a0_1 false _ A4.out).mono ?_); rintro e w' ⟨rfl, ⟨nd, rfl⟩⟩; refine ⟨_, rfl, ?_⟩))
   go_meet
   case rel => exact ⟨_, (true), (by first | rfl | (simp; done) | (simp [*]; done)), H', ⟨by first | omega | exact Nat.le_refl _⟩, ⟨by (repeat apply bX); exact BK136.out⟩, ⟨by repeat (first | (with_reducible first | exact HB.out | apply below_alloc | apply pw_below_drewN | apply below_drew1 | refine below_set ?_ GE136.out) | exact HB.out)⟩⟩
  subst c5
  have H1 : ((spec_l04Words.f k l0_7).bind fun t138 => (spec_IsPacket.j0 k (!t138) a0_0 a0_1 a0_2 a0_3 a0_4 a0_5 a0_6 l0_7)) = some r := by rw [if_pos rfl] at H; exact H
  clear H
  have H := H1
  clear H1
  replace H := Option.bind_eq_some_iff.mp H
  obtain ⟨t138, A60, H⟩ := H
  have A6 := Aside0.mk A60
  clear A60
  have H' := Aside0.mk H
  clear H
  obtain ⟨hcz7_0, hcz7_1, hcz7_2, hcz7_3, hcz7_4, hcz7_5, hcz7_6, hcz7_7, hfz7_0, hfz7_1, hfz7_2, hfz7_3, hfz7_4, hfz7_5, hfz7_6, hfz7_7⟩ := b8 BK136.out
  go_wp2_with (first | ((with_reducible refine gate_callee (f := 91) rfl ?_); refine goesL_ (some 5) rfl rfl Try.func91 (by kernel_rfl) rfl #[.int .i64 a0_1] rfl (by (try simp only [List.map_toArray, List.map_cons, List.map_nil]); first | done | rfl) ?_; (with_reducible refine (spec_IsId.calls a0_1 true _ A4.out).mono ?_); rintro e w' ⟨rfl, ⟨nd, rfl⟩⟩; refine ⟨_, rfl, ?_⟩) | (go_at_call 92; (with_reducible refine (spec_l04Words.calls k _ _ l0_7 t138 _ ?side1 ?side2 A6.out).mono ?_); (case side1 => repeat (first | exact (Kd.C_below HR0_7.out (by repeat (first | (with_reducible first | exact HB.out | apply below_alloc | apply pw_below_drewN | apply below_drew1 | refine below_set ?_ GE136.out) | exact HB.out))) | (with_reducible refine Kd.C_alloc ?_ _) | (with_reducible refine Kd.C_drewN ?_ _) | (with_reducible refine Kd.C_drew ?_))); (case side2 => exact HC0_7.out); rintro e w' ⟨rfl, ⟨nd, rfl⟩⟩))
  go_meet
  case rel => exact ⟨_, (!t138), (by first | rfl | (simp; done) | (simp [*]; done)), H', ⟨by first | omega | exact Nat.le_refl _⟩, ⟨by (repeat apply bX); exact BK136.out⟩, ⟨by repeat (first | (with_reducible first | exact HB.out | apply below_alloc | apply pw_below_drewN | apply below_drew1 | refine below_set ?_ GE136.out) | exact HB.out)⟩⟩
 case rest =>
  clear HC2
  obtain ⟨kq, x12_1, rfl, HA, HJ1, BK136, HB⟩ := hcut
  cases kq with
  | zero => exact absurd HA.out (by simp [spec_IsPacket.j0])
  | succ kj1 =>
   have H := HA.out
   clear HA
   simp only [spec_IsPacket.j0] at H
   by_cases c9 : x12_1 = true
   ·subst c9
    have H1 : (some false) = some r := by rw [if_pos rfl] at H; exact H
    clear H
    have H := H1
    clear H1
    obtain rfl := Option.some.inj H
    go_wp2
    go_ret
    exact ⟨by first | rfl | (simp [errW_none, errW_some] <;> rfl) | (simp [*, errW_none, errW_some] <;> rfl), by repeat (first | (with_reducible first | exact HB.out | apply below_alloc | apply pw_below_drewN | apply below_drew1 | refine below_set ?_ GE136.out) | exact HB.out)⟩
   replace c9 := Bool.eq_false_iff.mpr c9
   subst c9
   have H1 : (if a0_0 = 1 then ((spec_l01In.f (l0_7.length : Int) 1 8).bind fun t139 => (if t139 = true then ((spec_l01In.f a0_3 0 (wrap64 (65536 - (l0_7.length : Int)))).bind fun t140 => (if t140 = true then (if a0_6 = 0 then ((spec_l04Zero.f a0_0 a0_1 a0_2 a0_3 a0_4 a0_5 a0_6 l0_7 false false false).bind fun t141 => (some t141)) else (some false)) else (some false))) else (some false))) else (if a0_0 = 2 then ((spec_l01In.f (l0_7.length : Int) 1 8).bind fun t142 => (if t142 = true then (if a0_3 = 0 then (if a0_6 = 0 then ((spec_l04Zero.f a0_0 a0_1 a0_2 a0_3 a0_4 a0_5 a0_6 l0_7 false false false).bind fun t143 => (some t143)) else (some false)) else (some false)) else (some false))) else (if a0_0 = 3 then (if (l0_7.length : Int) = 0 then ((spec_l01In.f a0_4 1 64).bind fun t144 => (if t144 = true then ((spec_l01In.f a0_3 0 (wrap64 (65536 - a0_4))).bind fun t145 => (if t145 = true then ((spec_l01In.f a0_5 0 7).bind fun t146 => (if t146 = true then (if a0_6 = 0 then ((spec_l04Zero.f a0_0 a0_1 a0_2 a0_3 a0_4 a0_5 a0_6 l0_7 false true true).bind fun t147 => (some t147)) else (some false)) else (some false))) else (some false))) else (some false))) else (some false)) else (if a0_0 = 4 then (if (l0_7.length : Int) = 0 then ((spec_l01In.f a0_3 0 63).bind fun t148 => (if t148 = true then ((spec_IsId.f a0_2).bind fun t149 => (if t149 = true then ((spec_l01In.f a0_5 0 7).bind fun t150 => (if t150 = true then (if a0_6 = 0 then ((spec_l04Zero.f a0_0 a0_1 a0_2 a0_3 a0_4 a0_5 a0_6 l0_7 true false true).bind fun t151 => (some t151)) else (some false)) else (some false))) else (some false))) else (some false))) else (some false)) else (if a0_0 = 5 then (if (l0_7.length : Int) = 1 then ((spec_l01In.f a0_3 0 63).bind fun t152 => (if t152 = true then ((spec_IsId.f a0_2).bind fun t153 => (if t153 = true then ((spec_l01In.f a0_5 0 7).bind fun t154 => (if t154 = true then (if a0_6 = 0 then ((spec_l04Zero.f a0_0 a0_1 a0_2 a0_3 a0_4 a0_5 a0_6 l0_7 true false true).bind fun t155 => (some t155)) else (some false)) else (some false))) else (some false))) else (some false))) else (some false)) else (if a0_0 = 6 then (if a0_3 = 0 then ((spec_IsId.f a0_2).bind fun t156 => (if t156 = true then ((spec_l01In.f a0_5 0 7).bind fun t157 => (if t157 = true then ((spec_l01In.f a0_6 0 2).bind fun t158 => (if t158 = true then ((spec_l01In.f a0_4 0 64).bind fun t159 => (if t159 = true then (if (l0_7.length : Int) = 0 then (some true) else (if a0_6 = 0 then (some (decide ((l0_7.length : Int) ≤ (mn 8 a0_4)))) else (some false))) else (some false))) else (some false))) else (some false))) else (some false))) else (some false)) else (some false))))))) = some r := by rw [if_neg (show ¬ (false = true) by decide)] at H; exact H
   clear H
   have H := H1
   clear H1
   by_cases c10 : a0_0 = 1
   ·rw [if_pos c10] at H
    have c10b0 : (a0_0 == 1) = true := beq_iff_eq.mpr c10
    have c10b1 : (a0_0 != 1) = false := bne_eq_false_iff_eq.mpr c10
    clear c10
    replace H := Option.bind_eq_some_iff.mp H
    obtain ⟨t139, A110, H⟩ := H
    have A11 := Aside0.mk A110
    clear A110
    by_cases c12 : t139 = true
    rotate_left
    ·replace c12 := Bool.eq_false_iff.mpr c12
     subst c12
     have H1 : (some false) = some r := by rw [if_neg (show ¬ (false = true) by decide)] at H; exact H
     clear H
     have H := H1
     clear H1
     obtain rfl := Option.some.inj H
     obtain ⟨hcz21_0, hcz21_1, hcz21_2, hcz21_3, hcz21_4, hcz21_5, hcz21_6, hcz21_7, hfz21_0, hfz21_1, hfz21_2, hfz21_3, hfz21_4, hfz21_5, hfz21_6, hfz21_7⟩ := b8 BK136.out
     go_wp2_with (first | ((with_reducible refine gate_callee (f := 49) rfl ?_); refine goesL_ (some 20) rfl rfl Try.func49 (by kernel_rfl) rfl #[.int .i64 (l0_7.length : Int), .int .i64 1, .int .i64 8] rfl (by (try simp only [List.map_toArray, List.map_cons, List.map_nil]); first | done | rfl) ?_; (with_reducible refine (spec_l01In.calls (l0_7.length : Int) 1 8 false _ A11.out).mono ?_); rintro e w' ⟨rfl, ⟨nd, rfl⟩⟩; refine ⟨_, rfl, ?_⟩))
     go_ret
     exact ⟨by first | rfl | (simp [errW_none, errW_some] <;> rfl) | (simp [*, errW_none, errW_some] <;> rfl), by repeat (first | (with_reducible first | exact HB.out | apply below_alloc | apply pw_below_drewN | apply below_drew1 | refine below_set ?_ GE136.out) | exact HB.out)⟩
    subst c12
    have H1 : ((spec_l01In.f a0_3 0 (wrap64 (65536 - (l0_7.length : Int)))).bind fun t140 => (if t140 = true then (if a0_6 = 0 then ((spec_l04Zero.f a0_0 a0_1 a0_2 a0_3 a0_4 a0_5 a0_6 l0_7 false false false).bind fun t141 => (some t141)) else (some false)) else (some false))) = some r := by rw [if_pos rfl] at H; exact H
    clear H
    have H := H1
    clear H1
    replace H := Option.bind_eq_some_iff.mp H
    obtain ⟨t140, A130, H⟩ := H
    have A13 := Aside0.mk A130
    clear A130
    by_cases c14 : t140 = true
    rotate_left
    ·replace c14 := Bool.eq_false_iff.mpr c14
     subst c14
     have H1 : (some false) = some r := by rw [if_neg (show ¬ (false = true) by decide)] at H; exact H
     clear H
     have H := H1
     clear H1
     obtain rfl := Option.some.inj H
     obtain ⟨hcz20_0, hcz20_1, hcz20_2, hcz20_3, hcz20_4, hcz20_5, hcz20_6, hcz20_7, hfz20_0, hfz20_1, hfz20_2, hfz20_3, hfz20_4, hfz20_5, hfz20_6, hfz20_7⟩ := b8 BK136.out
     go_wp2_with (first | ((with_reducible refine gate_callee (f := 49) rfl ?_); refine goesL_ (some 20) rfl rfl Try.func49 (by kernel_rfl) rfl #[.int .i64 (l0_7.length : Int), .int .i64 1, .int .i64 8] rfl (by (try simp only [List.map_toArray, List.map_cons, List.map_nil]); first | done | rfl) ?_; (with_reducible refine (spec_l01In.calls (l0_7.length : Int) 1 8 true _ A11.out).mono ?_); rintro e w' ⟨rfl, ⟨nd, rfl⟩⟩; refine ⟨_, rfl, ?_⟩) | (go_at_call 49; (with_reducible refine (spec_l01In.calls a0_3 0 (wrap64 (65536 - (l0_7.length : Int))) false _ A13.out).mono ?_); rintro e w' ⟨rfl, ⟨nd, rfl⟩⟩))
     go_ret
     exact ⟨by first | rfl | (simp [errW_none, errW_some] <;> rfl) | (simp [*, errW_none, errW_some] <;> rfl), by repeat (first | (with_reducible first | exact HB.out | apply below_alloc | apply pw_below_drewN | apply below_drew1 | refine below_set ?_ GE136.out) | exact HB.out)⟩
    subst c14
    have H1 : (if a0_6 = 0 then ((spec_l04Zero.f a0_0 a0_1 a0_2 a0_3 a0_4 a0_5 a0_6 l0_7 false false false).bind fun t141 => (some t141)) else (some false)) = some r := by rw [if_pos rfl] at H; exact H
    clear H
    have H := H1
    clear H1
    by_cases c15 : a0_6 = 0
    rotate_left
    ·rw [if_neg c15] at H
     have c15b0 : (a0_6 == 0) = false := beq_eq_false_iff_ne.mpr c15
     have c15b1 : (a0_6 != 0) = true := bne_iff_ne.mpr c15
     obtain rfl := Option.some.inj H
     obtain ⟨hcz19_0, hcz19_1, hcz19_2, hcz19_3, hcz19_4, hcz19_5, hcz19_6, hcz19_7, hfz19_0, hfz19_1, hfz19_2, hfz19_3, hfz19_4, hfz19_5, hfz19_6, hfz19_7⟩ := b8 BK136.out
     go_wp2_with (first | ((with_reducible refine gate_callee (f := 49) rfl ?_); refine goesL_ (some 20) rfl rfl Try.func49 (by kernel_rfl) rfl #[.int .i64 (l0_7.length : Int), .int .i64 1, .int .i64 8] rfl (by (try simp only [List.map_toArray, List.map_cons, List.map_nil]); first | done | rfl) ?_; (with_reducible refine (spec_l01In.calls (l0_7.length : Int) 1 8 true _ A11.out).mono ?_); rintro e w' ⟨rfl, ⟨nd, rfl⟩⟩; refine ⟨_, rfl, ?_⟩) | (go_at_call 49; (with_reducible refine (spec_l01In.calls a0_3 0 (wrap64 (65536 - (l0_7.length : Int))) true _ A13.out).mono ?_); rintro e w' ⟨rfl, ⟨nd, rfl⟩⟩))
     go_ret
     exact ⟨by first | rfl | (simp [errW_none, errW_some] <;> rfl) | (simp [*, errW_none, errW_some] <;> rfl), by repeat (first | (with_reducible first | exact HB.out | apply below_alloc | apply pw_below_drewN | apply below_drew1 | refine below_set ?_ GE136.out) | exact HB.out)⟩
    rw [if_pos c15] at H
    have c15b0 : (a0_6 == 0) = true := beq_iff_eq.mpr c15
    have c15b1 : (a0_6 != 0) = false := bne_eq_false_iff_eq.mpr c15
    clear c15
    replace H := Option.bind_eq_some_iff.mp H
    obtain ⟨t141, A160, H⟩ := H
    have A16 := Aside0.mk A160
    clear A160
    obtain rfl := Option.some.inj H
    obtain ⟨hcz17_0, hcz17_1, hcz17_2, hcz17_3, hcz17_4, hcz17_5, hcz17_6, hcz17_7, hfz17_0, hfz17_1, hfz17_2, hfz17_3, hfz17_4, hfz17_5, hfz17_6, hfz17_7⟩ := b8 BK136.out
    go_wp2_with (first | ((with_reducible refine gate_callee (f := 49) rfl ?_); refine goesL_ (some 20) rfl rfl Try.func49 (by kernel_rfl) rfl #[.int .i64 (l0_7.length : Int), .int .i64 1, .int .i64 8] rfl (by (try simp only [List.map_toArray, List.map_cons, List.map_nil]); first | done | rfl) ?_; (with_reducible refine (spec_l01In.calls (l0_7.length : Int) 1 8 true _ A11.out).mono ?_); rintro e w' ⟨rfl, ⟨nd, rfl⟩⟩; refine ⟨_, rfl, ?_⟩) | (go_at_call 49; (with_reducible refine (spec_l01In.calls a0_3 0 (wrap64 (65536 - (l0_7.length : Int))) true _ A13.out).mono ?_); rintro e w' ⟨rfl, ⟨nd, rfl⟩⟩) | (go_at_call 93; (with_reducible refine (spec_l04Zero.calls a0_0 a0_1 a0_2 a0_3 a0_4 a0_5 a0_6 _ _ l0_7 false false false t141 _ ?side1 ?side2 A16.out).mono ?_); (case side1 => repeat (first | exact (Kd.C_below HR0_7.out (by repeat (first | (with_reducible first | exact HB.out | apply below_alloc | apply pw_below_drewN | apply below_drew1 | refine below_set ?_ GE136.out) | exact HB.out))) | (with_reducible refine Kd.C_alloc ?_ _) | (with_reducible refine Kd.C_drewN ?_ _) | (with_reducible refine Kd.C_drew ?_))); (case side2 => exact HC0_7.out); rintro e w18 ⟨rfl, hb⟩; have n0_ := Aside0.mk (blk_below (bY BK136.out) hb); have n1_ := Aside0.mk (below_step (by repeat (first | (with_reducible first | exact HB.out | apply below_alloc | apply pw_below_drewN | apply below_drew1 | refine below_set ?_ GE136.out) | exact HB.out)) hb); clear BK136; clear HB; have BK136 := n0_; have HB := n1_; clear n0_ n1_; (try clear hb); (try clear hb2); (try clear hk); (try clear hi)))
    go_ret
    exact ⟨by first | rfl | (simp [errW_none, errW_some] <;> rfl) | (simp [*, errW_none, errW_some] <;> rfl), by repeat (first | (with_reducible first | exact HB.out | apply below_alloc | apply pw_below_drewN | apply below_drew1 | refine below_set ?_ GE136.out) | exact HB.out)⟩
   rw [if_neg c10] at H
   have c10b0 : (a0_0 == 1) = false := beq_eq_false_iff_ne.mpr c10
   have c10b1 : (a0_0 != 1) = true := bne_iff_ne.mpr c10
   by_cases c22 : a0_0 = 2
   ·rw [if_pos c22] at H
    have c22b0 : (a0_0 == 2) = true := beq_iff_eq.mpr c22
    have c22b1 : (a0_0 != 2) = false := bne_eq_false_iff_eq.mpr c22
    clear c22
    replace H := Option.bind_eq_some_iff.mp H
    obtain ⟨t142, A230, H⟩ := H
    have A23 := Aside0.mk A230
    clear A230
    by_cases c24 : t142 = true
    rotate_left
    ·replace c24 := Bool.eq_false_iff.mpr c24
     subst c24
     have H1 : (some false) = some r := by rw [if_neg (show ¬ (false = true) by decide)] at H; exact H
     clear H
     have H := H1
     clear H1
     obtain rfl := Option.some.inj H
     obtain ⟨hcz32_0, hcz32_1, hcz32_2, hcz32_3, hcz32_4, hcz32_5, hcz32_6, hcz32_7, hfz32_0, hfz32_1, hfz32_2, hfz32_3, hfz32_4, hfz32_5, hfz32_6, hfz32_7⟩ := b8 BK136.out
     go_wp2_with (first | ((with_reducible refine gate_callee (f := 49) rfl ?_); refine goesL_ (some 44) rfl rfl Try.func49 (by kernel_rfl) rfl #[.int .i64 (l0_7.length : Int), .int .i64 1, .int .i64 8] rfl (by (try simp only [List.map_toArray, List.map_cons, List.map_nil]); first | done | rfl) ?_; (with_reducible refine (spec_l01In.calls (l0_7.length : Int) 1 8 false _ A23.out).mono ?_); rintro e w' ⟨rfl, ⟨nd, rfl⟩⟩; refine ⟨_, rfl, ?_⟩))
     go_ret
     exact ⟨by first | rfl | (simp [errW_none, errW_some] <;> rfl) | (simp [*, errW_none, errW_some] <;> rfl), by repeat (first | (with_reducible first | exact HB.out | apply below_alloc | apply pw_below_drewN | apply below_drew1 | refine below_set ?_ GE136.out) | exact HB.out)⟩
    subst c24
    have H1 : (if a0_3 = 0 then (if a0_6 = 0 then ((spec_l04Zero.f a0_0 a0_1 a0_2 a0_3 a0_4 a0_5 a0_6 l0_7 false false false).bind fun t143 => (some t143)) else (some false)) else (some false)) = some r := by rw [if_pos rfl] at H; exact H
    clear H
    have H := H1
    clear H1
    by_cases c25 : a0_3 = 0
    rotate_left
    ·rw [if_neg c25] at H
     have c25b0 : (a0_3 == 0) = false := beq_eq_false_iff_ne.mpr c25
     have c25b1 : (a0_3 != 0) = true := bne_iff_ne.mpr c25
     obtain rfl := Option.some.inj H
     obtain ⟨hcz31_0, hcz31_1, hcz31_2, hcz31_3, hcz31_4, hcz31_5, hcz31_6, hcz31_7, hfz31_0, hfz31_1, hfz31_2, hfz31_3, hfz31_4, hfz31_5, hfz31_6, hfz31_7⟩ := b8 BK136.out
     go_wp2_with (first | ((with_reducible refine gate_callee (f := 49) rfl ?_); refine goesL_ (some 44) rfl rfl Try.func49 (by kernel_rfl) rfl #[.int .i64 (l0_7.length : Int), .int .i64 1, .int .i64 8] rfl (by (try simp only [List.map_toArray, List.map_cons, List.map_nil]); first | done | rfl) ?_; (with_reducible refine (spec_l01In.calls (l0_7.length : Int) 1 8 true _ A23.out).mono ?_); rintro e w' ⟨rfl, ⟨nd, rfl⟩⟩; refine ⟨_, rfl, ?_⟩))
     go_ret
     exact ⟨by first | rfl | (simp [errW_none, errW_some] <;> rfl) | (simp [*, errW_none, errW_some] <;> rfl), by repeat (first | (with_reducible first | exact HB.out | apply below_alloc | apply pw_below_drewN | apply below_drew1 | refine below_set ?_ GE136.out) | exact HB.out)⟩
    rw [if_pos c25] at H
    have c25b0 : (a0_3 == 0) = true := beq_iff_eq.mpr c25
    have c25b1 : (a0_3 != 0) = false := bne_eq_false_iff_eq.mpr c25
    clear c25
    by_cases c26 : a0_6 = 0
    rotate_left
    ·rw [if_neg c26] at H
     have c26b0 : (a0_6 == 0) = false := beq_eq_false_iff_ne.mpr c26
     have c26b1 : (a0_6 != 0) = true := bne_iff_ne.mpr c26
     obtain rfl := Option.some.inj H
     obtain ⟨hcz30_0, hcz30_1, hcz30_2, hcz30_3, hcz30_4, hcz30_5, hcz30_6, hcz30_7, hfz30_0, hfz30_1, hfz30_2, hfz30_3, hfz30_4, hfz30_5, hfz30_6, hfz30_7⟩ := b8 BK136.out
     go_wp2_with (first | ((with_reducible refine gate_callee (f := 49) rfl ?_); refine goesL_ (some 44) rfl rfl Try.func49 (by kernel_rfl) rfl #[.int .i64 (l0_7.length : Int), .int .i64 1, .int .i64 8] rfl (by (try simp only [List.map_toArray, List.map_cons, List.map_nil]); first | done | rfl) ?_; (with_reducible refine (spec_l01In.calls (l0_7.length : Int) 1 8 true _ A23.out).mono ?_); rintro e w' ⟨rfl, ⟨nd, rfl⟩⟩; refine ⟨_, rfl, ?_⟩))
     go_ret
     exact ⟨by first | rfl | (simp [errW_none, errW_some] <;> rfl) | (simp [*, errW_none, errW_some] <;> rfl), by repeat (first | (with_reducible first | exact HB.out | apply below_alloc | apply pw_below_drewN | apply below_drew1 | refine below_set ?_ GE136.out) | exact HB.out)⟩
    rw [if_pos c26] at H
    have c26b0 : (a0_6 == 0) = true := beq_iff_eq.mpr c26
    have c26b1 : (a0_6 != 0) = false := bne_eq_false_iff_eq.mpr c26
    clear c26
    replace H := Option.bind_eq_some_iff.mp H
    obtain ⟨t143, A270, H⟩ := H
    have A27 := Aside0.mk A270
    clear A270
    obtain rfl := Option.some.inj H
    obtain ⟨hcz28_0, hcz28_1, hcz28_2, hcz28_3, hcz28_4, hcz28_5, hcz28_6, hcz28_7, hfz28_0, hfz28_1, hfz28_2, hfz28_3, hfz28_4, hfz28_5, hfz28_6, hfz28_7⟩ := b8 BK136.out
    go_wp2_with (first | ((with_reducible refine gate_callee (f := 49) rfl ?_); refine goesL_ (some 44) rfl rfl Try.func49 (by kernel_rfl) rfl #[.int .i64 (l0_7.length : Int), .int .i64 1, .int .i64 8] rfl (by (try simp only [List.map_toArray, List.map_cons, List.map_nil]); first | done | rfl) ?_; (with_reducible refine (spec_l01In.calls (l0_7.length : Int) 1 8 true _ A23.out).mono ?_); rintro e w' ⟨rfl, ⟨nd, rfl⟩⟩; refine ⟨_, rfl, ?_⟩) | (go_at_call 93; (with_reducible refine (spec_l04Zero.calls a0_0 a0_1 a0_2 a0_3 a0_4 a0_5 a0_6 _ _ l0_7 false false false t143 _ ?side1 ?side2 A27.out).mono ?_); (case side1 => repeat (first | exact (Kd.C_below HR0_7.out (by repeat (first | (with_reducible first | exact HB.out | apply below_alloc | apply pw_below_drewN | apply below_drew1 | refine below_set ?_ GE136.out) | exact HB.out))) | (with_reducible refine Kd.C_alloc ?_ _) | (with_reducible refine Kd.C_drewN ?_ _) | (with_reducible refine Kd.C_drew ?_))); (case side2 => exact HC0_7.out); rintro e w29 ⟨rfl, hb⟩; have n0_ := Aside0.mk (blk_below (bY BK136.out) hb); have n1_ := Aside0.mk (below_step (by repeat (first | (with_reducible first | exact HB.out | apply below_alloc | apply pw_below_drewN | apply below_drew1 | refine below_set ?_ GE136.out) | exact HB.out)) hb); clear BK136; clear HB; have BK136 := n0_; have HB := n1_; clear n0_ n1_; (try clear hb); (try clear hb2); (try clear hk); (try clear hi)))
    go_ret
    exact ⟨by first | rfl | (simp [errW_none, errW_some] <;> rfl) | (simp [*, errW_none, errW_some] <;> rfl), by repeat (first | (with_reducible first | exact HB.out | apply below_alloc | apply pw_below_drewN | apply below_drew1 | refine below_set ?_ GE136.out) | exact HB.out)⟩
   rw [if_neg c22] at H
   have c22b0 : (a0_0 == 2) = false := beq_eq_false_iff_ne.mpr c22
   have c22b1 : (a0_0 != 2) = true := bne_iff_ne.mpr c22
   by_cases c33 : a0_0 = 3
   ·rw [if_pos c33] at H
    have c33b0 : (a0_0 == 3) = true := beq_iff_eq.mpr c33
    have c33b1 : (a0_0 != 3) = false := bne_eq_false_iff_eq.mpr c33
    clear c33
    by_cases c34 : (l0_7.length : Int) = 0
    rotate_left
    ·rw [if_neg c34] at H
     have c34b0 : ((l0_7.length : Int) == 0) = false := beq_eq_false_iff_ne.mpr c34
     have c34b1 : ((l0_7.length : Int) != 0) = true := bne_iff_ne.mpr c34
     have c34b2 : ¬ (l0_7 = []) := fun h_ => c34 (by rw [h_]; rfl)
     obtain rfl := Option.some.inj H
     obtain ⟨hcz49_0, hcz49_1, hcz49_2, hcz49_3, hcz49_4, hcz49_5, hcz49_6, hcz49_7, hfz49_0, hfz49_1, hfz49_2, hfz49_3, hfz49_4, hfz49_5, hfz49_6, hfz49_7⟩ := b8 BK136.out
     go_wp2
     go_ret
     exact ⟨by first | rfl | (simp [errW_none, errW_some] <;> rfl) | (simp [*, errW_none, errW_some] <;> rfl), by repeat (first | (with_reducible first | exact HB.out | apply below_alloc | apply pw_below_drewN | apply below_drew1 | refine below_set ?_ GE136.out) | exact HB.out)⟩
    rw [if_pos c34] at H
    have c34b0 : ((l0_7.length : Int) == 0) = true := beq_iff_eq.mpr c34
    have c34b1 : ((l0_7.length : Int) != 0) = false := bne_eq_false_iff_eq.mpr c34
    clear c34
    replace H := Option.bind_eq_some_iff.mp H
    obtain ⟨t144, A350, H⟩ := H
    have A35 := Aside0.mk A350
    clear A350
    by_cases c36 : t144 = true
    rotate_left
    ·replace c36 := Bool.eq_false_iff.mpr c36
     subst c36
     have H1 : (some false) = some r := by rw [if_neg (show ¬ (false = true) by decide)] at H; exact H
     clear H
     have H := H1
     clear H1
     obtain rfl := Option.some.inj H
     obtain ⟨hcz48_0, hcz48_1, hcz48_2, hcz48_3, hcz48_4, hcz48_5, hcz48_6, hcz48_7, hfz48_0, hfz48_1, hfz48_2, hfz48_3, hfz48_4, hfz48_5, hfz48_6, hfz48_7⟩ := b8 BK136.out
     go_wp2_with (first | (go_at_call 49; (with_reducible refine (spec_l01In.calls a0_4 1 64 false _ A35.out).mono ?_); rintro e w' ⟨rfl, ⟨nd, rfl⟩⟩))
     go_ret
     exact ⟨by first | rfl | (simp [errW_none, errW_some] <;> rfl) | (simp [*, errW_none, errW_some] <;> rfl), by repeat (first | (with_reducible first | exact HB.out | apply below_alloc | apply pw_below_drewN | apply below_drew1 | refine below_set ?_ GE136.out) | exact HB.out)⟩
    subst c36
    have H1 : ((spec_l01In.f a0_3 0 (wrap64 (65536 - a0_4))).bind fun t145 => (if t145 = true then ((spec_l01In.f a0_5 0 7).bind fun t146 => (if t146 = true then (if a0_6 = 0 then ((spec_l04Zero.f a0_0 a0_1 a0_2 a0_3 a0_4 a0_5 a0_6 l0_7 false true true).bind fun t147 => (some t147)) else (some false)) else (some false))) else (some false))) = some r := by rw [if_pos rfl] at H; exact H
    clear H
    have H := H1
    clear H1
    replace H := Option.bind_eq_some_iff.mp H
    obtain ⟨t145, A370, H⟩ := H
    have A37 := Aside0.mk A370
    clear A370
    by_cases c38 : t145 = true
    rotate_left
    ·replace c38 := Bool.eq_false_iff.mpr c38
     subst c38
     have H1 : (some false) = some r := by rw [if_neg (show ¬ (false = true) by decide)] at H; exact H
     clear H
     have H := H1
     clear H1
     obtain rfl := Option.some.inj H
     obtain ⟨hcz47_0, hcz47_1, hcz47_2, hcz47_3, hcz47_4, hcz47_5, hcz47_6, hcz47_7, hfz47_0, hfz47_1, hfz47_2, hfz47_3, hfz47_4, hfz47_5, hfz47_6, hfz47_7⟩ := b8 BK136.out
     go_wp2_with (first | (go_at_call 49; (with_reducible refine (spec_l01In.calls a0_4 1 64 true _ A35.out).mono ?_); rintro e w' ⟨rfl, ⟨nd, rfl⟩⟩) | (go_at_call 49; (with_reducible refine (spec_l01In.calls a0_3 0 (wrap64 (65536 - a0_4)) false _ A37.out).mono ?_); rintro e w' ⟨rfl, ⟨nd, rfl⟩⟩))
     go_ret
     exact ⟨by first | rfl | (simp [errW_none, errW_some] <;> rfl) | (simp [*, errW_none, errW_some] <;> rfl), by repeat (first | (with_reducible first | exact HB.out | apply below_alloc | apply pw_below_drewN | apply below_drew1 | refine below_set ?_ GE136.out) | exact HB.out)⟩
    subst c38
    have H1 : ((spec_l01In.f a0_5 0 7).bind fun t146 => (if t146 = true then (if a0_6 = 0 then ((spec_l04Zero.f a0_0 a0_1 a0_2 a0_3 a0_4 a0_5 a0_6 l0_7 false true true).bind fun t147 => (some t147)) else (some false)) else (some false))) = some r := by rw [if_pos rfl] at H; exact H
    clear H
    have H := H1
    clear H1
    replace H := Option.bind_eq_some_iff.mp H
    obtain ⟨t146, A390, H⟩ := H
    have A39 := Aside0.mk A390
    clear A390
    by_cases c40 : t146 = true
    rotate_left
    ·replace c40 := Bool.eq_false_iff.mpr c40
     subst c40
     have H1 : (some false) = some r := by rw [if_neg (show ¬ (false = true) by decide)] at H; exact H
     clear H
     have H := H1
     clear H1
     obtain rfl := Option.some.inj H
     obtain ⟨hcz46_0, hcz46_1, hcz46_2, hcz46_3, hcz46_4, hcz46_5, hcz46_6, hcz46_7, hfz46_0, hfz46_1, hfz46_2, hfz46_3, hfz46_4, hfz46_5, hfz46_6, hfz46_7⟩ := b8 BK136.out
     go_wp2_with (first | (go_at_call 49; (with_reducible refine (spec_l01In.calls a0_4 1 64 true _ A35.out).mono ?_); rintro e w' ⟨rfl, ⟨nd, rfl⟩⟩) | (go_at_call 49; (with_reducible refine (spec_l01In.calls a0_3 0 (wrap64 (65536 - a0_4)) true _ A37.out).mono ?_); rintro e w' ⟨rfl, ⟨nd, rfl⟩⟩) | (go_at_call 49; (with_reducible refine (spec_l01In.calls a0_5 0 7 false _ A39.out).mono ?_); rintro e w' ⟨rfl, ⟨nd, rfl⟩⟩))
     go_ret
     exact ⟨by first | rfl | (simp [errW_none, errW_some] <;> rfl) | (simp [*, errW_none, errW_some] <;> rfl), by repeat (first | (with_reducible first | exact HB.out | apply below_alloc | apply pw_below_drewN | apply below_drew1 | refine below_set ?_ GE136.out) | exact HB.out)⟩
    subst c40
    have H1 : (if a0_6 = 0 then ((spec_l04Zero.f a0_0 a0_1 a0_2 a0_3 a0_4 a0_5 a0_6 l0_7 false true true).bind fun t147 => (some t147)) else (some false)) = some r := by rw [if_pos rfl] at H; exact H
    clear H
    have H := H1
    clear H1
    by_cases c41 : a0_6 = 0
    rotate_left
    ·rw [if_neg c41] at H
     have c41b0 : (a0_6 == 0) = false := beq_eq_false_iff_ne.mpr c41
     have c41b1 : (a0_6 != 0) = true := bne_iff_ne.mpr c41
     obtain rfl := Option.some.inj H
     obtain ⟨hcz45_0, hcz45_1, hcz45_2, hcz45_3, hcz45_4, hcz45_5, hcz45_6, hcz45_7, hfz45_0, hfz45_1, hfz45_2, hfz45_3, hfz45_4, hfz45_5, hfz45_6, hfz45_7⟩ := b8 BK136.out
     go_wp2_with (first | (go_at_call 49; (with_reducible refine (spec_l01In.calls a0_4 1 64 true _ A35.out).mono ?_); rintro e w' ⟨rfl, ⟨nd, rfl⟩⟩) | (go_at_call 49; (with_reducible refine (spec_l01In.calls a0_3 0 (wrap64 (65536 - a0_4)) true _ A37.out).mono ?_); rintro e w' ⟨rfl, ⟨nd, rfl⟩⟩) | (go_at_call 49; (with_reducible refine (spec_l01In.calls a0_5 0 7 true _ A39.out).mono ?_); rintro e w' ⟨rfl, ⟨nd, rfl⟩⟩))
     go_ret
     exact ⟨by first | rfl | (simp [errW_none, errW_some] <;> rfl) | (simp [*, errW_none, errW_some] <;> rfl), by repeat (first | (with_reducible first | exact HB.out | apply below_alloc | apply pw_below_drewN | apply below_drew1 | refine below_set ?_ GE136.out) | exact HB.out)⟩
    rw [if_pos c41] at H
    have c41b0 : (a0_6 == 0) = true := beq_iff_eq.mpr c41
    have c41b1 : (a0_6 != 0) = false := bne_eq_false_iff_eq.mpr c41
    clear c41
    replace H := Option.bind_eq_some_iff.mp H
    obtain ⟨t147, A420, H⟩ := H
    have A42 := Aside0.mk A420
    clear A420
    obtain rfl := Option.some.inj H
    obtain ⟨hcz43_0, hcz43_1, hcz43_2, hcz43_3, hcz43_4, hcz43_5, hcz43_6, hcz43_7, hfz43_0, hfz43_1, hfz43_2, hfz43_3, hfz43_4, hfz43_5, hfz43_6, hfz43_7⟩ := b8 BK136.out
    go_wp2_with (first | (go_at_call 49; (with_reducible refine (spec_l01In.calls a0_4 1 64 true _ A35.out).mono ?_); rintro e w' ⟨rfl, ⟨nd, rfl⟩⟩) | (go_at_call 49; (with_reducible refine (spec_l01In.calls a0_3 0 (wrap64 (65536 - a0_4)) true _ A37.out).mono ?_); rintro e w' ⟨rfl, ⟨nd, rfl⟩⟩) | (go_at_call 49; (with_reducible refine (spec_l01In.calls a0_5 0 7 true _ A39.out).mono ?_); rintro e w' ⟨rfl, ⟨nd, rfl⟩⟩) | (go_at_call 93; (with_reducible refine (spec_l04Zero.calls a0_0 a0_1 a0_2 a0_3 a0_4 a0_5 a0_6 _ _ l0_7 false true true t147 _ ?side1 ?side2 A42.out).mono ?_); (case side1 => repeat (first | exact (Kd.C_below HR0_7.out (by repeat (first | (with_reducible first | exact HB.out | apply below_alloc | apply pw_below_drewN | apply below_drew1 | refine below_set ?_ GE136.out) | exact HB.out))) | (with_reducible refine Kd.C_alloc ?_ _) | (with_reducible refine Kd.C_drewN ?_ _) | (with_reducible refine Kd.C_drew ?_))); (case side2 => exact HC0_7.out); rintro e w44 ⟨rfl, hb⟩; have n0_ := Aside0.mk (blk_below (bY BK136.out) hb); have n1_ := Aside0.mk (below_step (by repeat (first | (with_reducible first | exact HB.out | apply below_alloc | apply pw_below_drewN | apply below_drew1 | refine below_set ?_ GE136.out) | exact HB.out)) hb); clear BK136; clear HB; have BK136 := n0_; have HB := n1_; clear n0_ n1_; (try clear hb); (try clear hb2); (try clear hk); (try clear hi)))
    go_ret
    exact ⟨by first | rfl | (simp [errW_none, errW_some] <;> rfl) | (simp [*, errW_none, errW_some] <;> rfl), by repeat (first | (with_reducible first | exact HB.out | apply below_alloc | apply pw_below_drewN | apply below_drew1 | refine below_set ?_ GE136.out) | exact HB.out)⟩
   rw [if_neg c33] at H
   have c33b0 : (a0_0 == 3) = false := beq_eq_false_iff_ne.mpr c33
   have c33b1 : (a0_0 != 3) = true := bne_iff_ne.mpr c33
   by_cases c50 : a0_0 = 4
   ·rw [if_pos c50] at H
    have c50b0 : (a0_0 == 4) = true := beq_iff_eq.mpr c50
    have c50b1 : (a0_0 != 4) = false := bne_eq_false_iff_eq.mpr c50
    clear c50
    by_cases c51 : (l0_7.length : Int) = 0
    rotate_left
    ·rw [if_neg c51] at H
     have c51b0 : ((l0_7.length : Int) == 0) = false := beq_eq_false_iff_ne.mpr c51
     have c51b1 : ((l0_7.length : Int) != 0) = true := bne_iff_ne.mpr c51
     have c51b2 : ¬ (l0_7 = []) := fun h_ => c51 (by rw [h_]; rfl)
     obtain rfl := Option.some.inj H
     obtain ⟨hcz66_0, hcz66_1, hcz66_2, hcz66_3, hcz66_4, hcz66_5, hcz66_6, hcz66_7, hfz66_0, hfz66_1, hfz66_2, hfz66_3, hfz66_4, hfz66_5, hfz66_6, hfz66_7⟩ := b8 BK136.out
     go_wp2
     go_ret
     exact ⟨by first | rfl | (simp [errW_none, errW_some] <;> rfl) | (simp [*, errW_none, errW_some] <;> rfl), by repeat (first | (with_reducible first | exact HB.out | apply below_alloc | apply pw_below_drewN | apply below_drew1 | refine below_set ?_ GE136.out) | exact HB.out)⟩
    rw [if_pos c51] at H
    have c51b0 : ((l0_7.length : Int) == 0) = true := beq_iff_eq.mpr c51
    have c51b1 : ((l0_7.length : Int) != 0) = false := bne_eq_false_iff_eq.mpr c51
    clear c51
    replace H := Option.bind_eq_some_iff.mp H
    obtain ⟨t148, A520, H⟩ := H
    have A52 := Aside0.mk A520
    clear A520
    by_cases c53 : t148 = true
    rotate_left
    ·replace c53 := Bool.eq_false_iff.mpr c53
     subst c53
     have H1 : (some false) = some r := by rw [if_neg (show ¬ (false = true) by decide)] at H; exact H
     clear H
     have H := H1
     clear H1
     obtain rfl := Option.some.inj H
     obtain ⟨hcz65_0, hcz65_1, hcz65_2, hcz65_3, hcz65_4, hcz65_5, hcz65_6, hcz65_7, hfz65_0, hfz65_1, hfz65_2, hfz65_3, hfz65_4, hfz65_5, hfz65_6, hfz65_7⟩ := b8 BK136.out
     go_wp2_with (first | (go_at_call 49; (with_reducible refine (spec_l01In.calls a0_3 0 63 false _ A52.out).mono ?_); rintro e w' ⟨rfl, ⟨nd, rfl⟩⟩))
     go_ret
     exact ⟨by first | rfl | (simp [errW_none, errW_some] <;> rfl) | (simp [*, errW_none, errW_some] <;> rfl), by repeat (first | (with_reducible first | exact HB.out | apply below_alloc | apply pw_below_drewN | apply below_drew1 | refine below_set ?_ GE136.out) | exact HB.out)⟩
    subst c53
    have H1 : ((spec_IsId.f a0_2).bind fun t149 => (if t149 = true then ((spec_l01In.f a0_5 0 7).bind fun t150 => (if t150 = true then (if a0_6 = 0 then ((spec_l04Zero.f a0_0 a0_1 a0_2 a0_3 a0_4 a0_5 a0_6 l0_7 true false true).bind fun t151 => (some t151)) else (some false)) else (some false))) else (some false))) = some r := by rw [if_pos rfl] at H; exact H
    clear H
    have H := H1
    clear H1
    replace H := Option.bind_eq_some_iff.mp H
    obtain ⟨t149, A540, H⟩ := H
    have A54 := Aside0.mk A540
    clear A540
    by_cases c55 : t149 = true
    rotate_left
    ·replace c55 := Bool.eq_false_iff.mpr c55
     subst c55
     have H1 : (some false) = some r := by rw [if_neg (show ¬ (false = true) by decide)] at H; exact H
     clear H
     have H := H1
     clear H1
     obtain rfl := Option.some.inj H
     obtain ⟨hcz64_0, hcz64_1, hcz64_2, hcz64_3, hcz64_4, hcz64_5, hcz64_6, hcz64_7, hfz64_0, hfz64_1, hfz64_2, hfz64_3, hfz64_4, hfz64_5, hfz64_6, hfz64_7⟩ := b8 BK136.out
     go_wp2_with (first | (go_at_call 49; (with_reducible refine (spec_l01In.calls a0_3 0 63 true _ A52.out).mono ?_); rintro e w' ⟨rfl, ⟨nd, rfl⟩⟩) | (go_at_call 91; (with_reducible refine (spec_IsId.calls a0_2 false _ A54.out).mono ?_); rintro e w' ⟨rfl, ⟨nd, rfl⟩⟩))
     go_ret
     exact ⟨by first | rfl | (simp [errW_none, errW_some] <;> rfl) | (simp [*, errW_none, errW_some] <;> rfl), by repeat (first | (with_reducible first | exact HB.out | apply below_alloc | apply pw_below_drewN | apply below_drew1 | refine below_set ?_ GE136.out) | exact HB.out)⟩
    subst c55
    have H1 : ((spec_l01In.f a0_5 0 7).bind fun t150 => (if t150 = true then (if a0_6 = 0 then ((spec_l04Zero.f a0_0 a0_1 a0_2 a0_3 a0_4 a0_5 a0_6 l0_7 true false true).bind fun t151 => (some t151)) else (some false)) else (some false))) = some r := by rw [if_pos rfl] at H; exact H
    clear H
    have H := H1
    clear H1
    replace H := Option.bind_eq_some_iff.mp H
    obtain ⟨t150, A560, H⟩ := H
    have A56 := Aside0.mk A560
    clear A560
    by_cases c57 : t150 = true
    rotate_left
    ·replace c57 := Bool.eq_false_iff.mpr c57
     subst c57
     have H1 : (some false) = some r := by rw [if_neg (show ¬ (false = true) by decide)] at H; exact H
     clear H
     have H := H1
     clear H1
     obtain rfl := Option.some.inj H
     obtain ⟨hcz63_0, hcz63_1, hcz63_2, hcz63_3, hcz63_4, hcz63_5, hcz63_6, hcz63_7, hfz63_0, hfz63_1, hfz63_2, hfz63_3, hfz63_4, hfz63_5, hfz63_6, hfz63_7⟩ := b8 BK136.out
     go_wp2_with (first | (go_at_call 49; (with_reducible refine (spec_l01In.calls a0_3 0 63 true _ A52.out).mono ?_); rintro e w' ⟨rfl, ⟨nd, rfl⟩⟩) | (go_at_call 91; (with_reducible refine (spec_IsId.calls a0_2 true _ A54.out).mono ?_); rintro e w' ⟨rfl, ⟨nd, rfl⟩⟩) | (go_at_call 49; (with_reducible refine (spec_l01In.calls a0_5 0 7 false _ A56.out).mono ?_); rintro e w' ⟨rfl, ⟨nd, rfl⟩⟩))
     go_ret
     exact ⟨by first | rfl | (simp [errW_none, errW_some] <;> rfl) | (simp [*, errW_none, errW_some] <;> rfl), by repeat (first | (with_reducible first | exact HB.out | apply below_alloc | apply pw_below_drewN | apply below_drew1 | refine below_set ?_ GE136.out) | exact HB.out)⟩
    subst c57
    have H1 : (if a0_6 = 0 then ((spec_l04Zero.f a0_0 a0_1 a0_2 a0_3 a0_4 a0_5 a0_6 l0_7 true false true).bind fun t151 => (some t151)) else (some false)) = some r := by rw [if_pos rfl] at H; exact H
    clear H
    have H := H1
    clear H1
    by_cases c58 : a0_6 = 0
    rotate_left
    ·rw [if_neg c58] at H
     have c58b0 : (a0_6 == 0) = false := beq_eq_false_iff_ne.mpr c58
     have c58b1 : (a0_6 != 0) = true := bne_iff_ne.mpr c58
     obtain rfl := Option.some.inj H
     obtain ⟨hcz62_0, hcz62_1, hcz62_2, hcz62_3, hcz62_4, hcz62_5, hcz62_6, hcz62_7, hfz62_0, hfz62_1, hfz62_2, hfz62_3, hfz62_4, hfz62_5, hfz62_6, hfz62_7⟩ := b8 BK136.out
     go_wp2_with (first | (go_at_call 49; (with_reducible refine (spec_l01In.calls a0_3 0 63 true _ A52.out).mono ?_); rintro e w' ⟨rfl, ⟨nd, rfl⟩⟩) | (go_at_call 91; (with_reducible refine (spec_IsId.calls a0_2 true _ A54.out).mono ?_); rintro e w' ⟨rfl, ⟨nd, rfl⟩⟩) | (go_at_call 49; (with_reducible refine (spec_l01In.calls a0_5 0 7 true _ A56.out).mono ?_); rintro e w' ⟨rfl, ⟨nd, rfl⟩⟩))
     go_ret
     exact ⟨by first | rfl | (simp [errW_none, errW_some] <;> rfl) | (simp [*, errW_none, errW_some] <;> rfl), by repeat (first | (with_reducible first | exact HB.out | apply below_alloc | apply pw_below_drewN | apply below_drew1 | refine below_set ?_ GE136.out) | exact HB.out)⟩
    rw [if_pos c58] at H
    have c58b0 : (a0_6 == 0) = true := beq_iff_eq.mpr c58
    have c58b1 : (a0_6 != 0) = false := bne_eq_false_iff_eq.mpr c58
    clear c58
    replace H := Option.bind_eq_some_iff.mp H
    obtain ⟨t151, A590, H⟩ := H
    have A59 := Aside0.mk A590
    clear A590
    obtain rfl := Option.some.inj H
    obtain ⟨hcz60_0, hcz60_1, hcz60_2, hcz60_3, hcz60_4, hcz60_5, hcz60_6, hcz60_7, hfz60_0, hfz60_1, hfz60_2, hfz60_3, hfz60_4, hfz60_5, hfz60_6, hfz60_7⟩ := b8 BK136.out
    go_wp2_with (first | (go_at_call 49; (with_reducible refine (spec_l01In.calls a0_3 0 63 true _ A52.out).mono ?_); rintro e w' ⟨rfl, ⟨nd, rfl⟩⟩) | (go_at_call 91; (with_reducible refine (spec_IsId.calls a0_2 true _ A54.out).mono ?_); rintro e w' ⟨rfl, ⟨nd, rfl⟩⟩) | (go_at_call 49; (with_reducible refine (spec_l01In.calls a0_5 0 7 true _ A56.out).mono ?_); rintro e w' ⟨rfl, ⟨nd, rfl⟩⟩) | (go_at_call 93; (with_reducible refine (spec_l04Zero.calls a0_0 a0_1 a0_2 a0_3 a0_4 a0_5 a0_6 _ _ l0_7 true false true t151 _ ?side1 ?side2 A59.out).mono ?_); (case side1 => repeat (first | exact (Kd.C_below HR0_7.out (by repeat (first | (with_reducible first | exact HB.out | apply below_alloc | apply pw_below_drewN | apply below_drew1 | refine below_set ?_ GE136.out) | exact HB.out))) | (with_reducible refine Kd.C_alloc ?_ _) | (with_reducible refine Kd.C_drewN ?_ _) | (with_reducible refine Kd.C_drew ?_))); (case side2 => exact HC0_7.out); rintro e w61 ⟨rfl, hb⟩; have n0_ := Aside0.mk (blk_below (bY BK136.out) hb); have n1_ := Aside0.mk (below_step (by repeat (first | (with_reducible first | exact HB.out | apply below_alloc | apply pw_below_drewN | apply below_drew1 | refine below_set ?_ GE136.out) | exact HB.out)) hb); clear BK136; clear HB; have BK136 := n0_; have HB := n1_; clear n0_ n1_; (try clear hb); (try clear hb2); (try clear hk); (try clear hi)))
    go_ret
    exact ⟨by first | rfl | (simp [errW_none, errW_some] <;> rfl) | (simp [*, errW_none, errW_some] <;> rfl), by repeat (first | (with_reducible first | exact HB.out | apply below_alloc | apply pw_below_drewN | apply below_drew1 | refine below_set ?_ GE136.out) | exact HB.out)⟩
   rw [if_neg c50] at H
   have c50b0 : (a0_0 == 4) = false := beq_eq_false_iff_ne.mpr c50
   have c50b1 : (a0_0 != 4) = true := bne_iff_ne.mpr c50
   by_cases c67 : a0_0 = 5
   ·rw [if_pos c67] at H
    have c67b0 : (a0_0 == 5) = true := beq_iff_eq.mpr c67
    have c67b1 : (a0_0 != 5) = false := bne_eq_false_iff_eq.mpr c67
    clear c67
    by_cases c68 : (l0_7.length : Int) = 1
    rotate_left
    ·rw [if_neg c68] at H
     have c68b0 : ((l0_7.length : Int) == 1) = false := beq_eq_false_iff_ne.mpr c68
     have c68b1 : ((l0_7.length : Int) != 1) = true := bne_iff_ne.mpr c68
     obtain rfl := Option.some.inj H
     obtain ⟨hcz83_0, hcz83_1, hcz83_2, hcz83_3, hcz83_4, hcz83_5, hcz83_6, hcz83_7, hfz83_0, hfz83_1, hfz83_2, hfz83_3, hfz83_4, hfz83_5, hfz83_6, hfz83_7⟩ := b8 BK136.out
     go_wp2
     go_ret
     exact ⟨by first | rfl | (simp [errW_none, errW_some] <;> rfl) | (simp [*, errW_none, errW_some] <;> rfl), by repeat (first | (with_reducible first | exact HB.out | apply below_alloc | apply pw_below_drewN | apply below_drew1 | refine below_set ?_ GE136.out) | exact HB.out)⟩
    rw [if_pos c68] at H
    have c68b0 : ((l0_7.length : Int) == 1) = true := beq_iff_eq.mpr c68
    have c68b1 : ((l0_7.length : Int) != 1) = false := bne_eq_false_iff_eq.mpr c68
    clear c68
    replace H := Option.bind_eq_some_iff.mp H
    obtain ⟨t152, A690, H⟩ := H
    have A69 := Aside0.mk A690
    clear A690
    by_cases c70 : t152 = true
    rotate_left
    ·replace c70 := Bool.eq_false_iff.mpr c70
     subst c70
     have H1 : (some false) = some r := by rw [if_neg (show ¬ (false = true) by decide)] at H; exact H
     clear H
     have H := H1
     clear H1
     obtain rfl := Option.some.inj H
     obtain ⟨hcz82_0, hcz82_1, hcz82_2, hcz82_3, hcz82_4, hcz82_5, hcz82_6, hcz82_7, hfz82_0, hfz82_1, hfz82_2, hfz82_3, hfz82_4, hfz82_5, hfz82_6, hfz82_7⟩ := b8 BK136.out
     go_wp2_with (first | (go_at_call 49; (with_reducible refine (spec_l01In.calls a0_3 0 63 false _ A69.out).mono ?_); rintro e w' ⟨rfl, ⟨nd, rfl⟩⟩))
     go_ret
     exact ⟨by first | rfl | (simp [errW_none, errW_some] <;> rfl) | (simp [*, errW_none, errW_some] <;> rfl), by repeat (first | (with_reducible first | exact HB.out | apply below_alloc | apply pw_below_drewN | apply below_drew1 | refine below_set ?_ GE136.out) | exact HB.out)⟩
    subst c70
    have H1 : ((spec_IsId.f a0_2).bind fun t153 => (if t153 = true then ((spec_l01In.f a0_5 0 7).bind fun t154 => (if t154 = true then (if a0_6 = 0 then ((spec_l04Zero.f a0_0 a0_1 a0_2 a0_3 a0_4 a0_5 a0_6 l0_7 true false true).bind fun t155 => (some t155)) else (some false)) else (some false))) else (some false))) = some r := by rw [if_pos rfl] at H; exact H
    clear H
    have H := H1
    clear H1
    replace H := Option.bind_eq_some_iff.mp H
    obtain ⟨t153, A710, H⟩ := H
    have A71 := Aside0.mk A710
    clear A710
    by_cases c72 : t153 = true
    rotate_left
    ·replace c72 := Bool.eq_false_iff.mpr c72
     subst c72
     have H1 : (some false) = some r := by rw [if_neg (show ¬ (false = true) by decide)] at H; exact H
     clear H
     have H := H1
     clear H1
     obtain rfl := Option.some.inj H
     obtain ⟨hcz81_0, hcz81_1, hcz81_2, hcz81_3, hcz81_4, hcz81_5, hcz81_6, hcz81_7, hfz81_0, hfz81_1, hfz81_2, hfz81_3, hfz81_4, hfz81_5, hfz81_6, hfz81_7⟩ := b8 BK136.out
     go_wp2_with (first | (go_at_call 49; (with_reducible refine (spec_l01In.calls a0_3 0 63 true _ A69.out).mono ?_); rintro e w' ⟨rfl, ⟨nd, rfl⟩⟩) | (go_at_call 91; (with_reducible refine (spec_IsId.calls a0_2 false _ A71.out).mono ?_); rintro e w' ⟨rfl, ⟨nd, rfl⟩⟩))
     go_ret
     exact ⟨by first | rfl | (simp [errW_none, errW_some] <;> rfl) | (simp [*, errW_none, errW_some] <;> rfl), by repeat (first | (with_reducible first | exact HB.out | apply below_alloc | apply pw_below_drewN | apply below_drew1 | refine below_set ?_ GE136.out) | exact HB.out)⟩
    subst c72
    have H1 : ((spec_l01In.f a0_5 0 7).bind fun t154 => (if t154 = true then (if a0_6 = 0 then ((spec_l04Zero.f a0_0 a0_1 a0_2 a0_3 a0_4 a0_5 a0_6 l0_7 true false true).bind fun t155 => (some t155)) else (some false)) else (some false))) = some r := by rw [if_pos rfl] at H; exact H
    clear H
    have H := H1
    clear H1
    replace H := Option.bind_eq_some_iff.mp H
    obtain ⟨t154, A730, H⟩ := H
    have A73 := Aside0.mk A730
    clear A730
    by_cases c74 : t154 = true
    rotate_left
    ·replace c74 := Bool.eq_false_iff.mpr c74
     subst c74
     have H1 : (some false) = some r := by rw [if_neg (show ¬ (false = true) by decide)] at H; exact H
     clear H
     have H := H1
     clear H1
     obtain rfl := Option.some.inj H
     obtain ⟨hcz80_0, hcz80_1, hcz80_2, hcz80_3, hcz80_4, hcz80_5, hcz80_6, hcz80_7, hfz80_0, hfz80_1, hfz80_2, hfz80_3, hfz80_4, hfz80_5, hfz80_6, hfz80_7⟩ := b8 BK136.out
     go_wp2_with (first | (go_at_call 49; (with_reducible refine (spec_l01In.calls a0_3 0 63 true _ A69.out).mono ?_); rintro e w' ⟨rfl, ⟨nd, rfl⟩⟩) | (go_at_call 91; (with_reducible refine (spec_IsId.calls a0_2 true _ A71.out).mono ?_); rintro e w' ⟨rfl, ⟨nd, rfl⟩⟩) | (go_at_call 49; (with_reducible refine (spec_l01In.calls a0_5 0 7 false _ A73.out).mono ?_); rintro e w' ⟨rfl, ⟨nd, rfl⟩⟩))
     go_ret
     exact ⟨by first | rfl | (simp [errW_none, errW_some] <;> rfl) | (simp [*, errW_none, errW_some] <;> rfl), by repeat (first | (with_reducible first | exact HB.out | apply below_alloc | apply pw_below_drewN | apply below_drew1 | refine below_set ?_ GE136.out) | exact HB.out)⟩
    subst c74
    have H1 : (if a0_6 = 0 then ((spec_l04Zero.f a0_0 a0_1 a0_2 a0_3 a0_4 a0_5 a0_6 l0_7 true false true).bind fun t155 => (some t155)) else (some false)) = some r := by rw [if_pos rfl] at H; exact H
    clear H
    have H := H1
    clear H1
    by_cases c75 : a0_6 = 0
    rotate_left
    ·rw [if_neg c75] at H
     have c75b0 : (a0_6 == 0) = false := beq_eq_false_iff_ne.mpr c75
     have c75b1 : (a0_6 != 0) = true := bne_iff_ne.mpr c75
     obtain rfl := Option.some.inj H
     obtain ⟨hcz79_0, hcz79_1, hcz79_2, hcz79_3, hcz79_4, hcz79_5, hcz79_6, hcz79_7, hfz79_0, hfz79_1, hfz79_2, hfz79_3, hfz79_4, hfz79_5, hfz79_6, hfz79_7⟩ := b8 BK136.out
     go_wp2_with (first | (go_at_call 49; (with_reducible refine (spec_l01In.calls a0_3 0 63 true _ A69.out).mono ?_); rintro e w' ⟨rfl, ⟨nd, rfl⟩⟩) | (go_at_call 91; (with_reducible refine (spec_IsId.calls a0_2 true _ A71.out).mono ?_); rintro e w' ⟨rfl, ⟨nd, rfl⟩⟩) | (go_at_call 49; (with_reducible refine (spec_l01In.calls a0_5 0 7 true _ A73.out).mono ?_); rintro e w' ⟨rfl, ⟨nd, rfl⟩⟩))
     go_ret
     exact ⟨by first | rfl | (simp [errW_none, errW_some] <;> rfl) | (simp [*, errW_none, errW_some] <;> rfl), by repeat (first | (with_reducible first | exact HB.out | apply below_alloc | apply pw_below_drewN | apply below_drew1 | refine below_set ?_ GE136.out) | exact HB.out)⟩
    rw [if_pos c75] at H
    have c75b0 : (a0_6 == 0) = true := beq_iff_eq.mpr c75
    have c75b1 : (a0_6 != 0) = false := bne_eq_false_iff_eq.mpr c75
    clear c75
    replace H := Option.bind_eq_some_iff.mp H
    obtain ⟨t155, A760, H⟩ := H
    have A76 := Aside0.mk A760
    clear A760
    obtain rfl := Option.some.inj H
    obtain ⟨hcz77_0, hcz77_1, hcz77_2, hcz77_3, hcz77_4, hcz77_5, hcz77_6, hcz77_7, hfz77_0, hfz77_1, hfz77_2, hfz77_3, hfz77_4, hfz77_5, hfz77_6, hfz77_7⟩ := b8 BK136.out
    go_wp2_with (first | (go_at_call 49; (with_reducible refine (spec_l01In.calls a0_3 0 63 true _ A69.out).mono ?_); rintro e w' ⟨rfl, ⟨nd, rfl⟩⟩) | (go_at_call 91; (with_reducible refine (spec_IsId.calls a0_2 true _ A71.out).mono ?_); rintro e w' ⟨rfl, ⟨nd, rfl⟩⟩) | (go_at_call 49; (with_reducible refine (spec_l01In.calls a0_5 0 7 true _ A73.out).mono ?_); rintro e w' ⟨rfl, ⟨nd, rfl⟩⟩) | (go_at_call 93; (with_reducible refine (spec_l04Zero.calls a0_0 a0_1 a0_2 a0_3 a0_4 a0_5 a0_6 _ _ l0_7 true false true t155 _ ?side1 ?side2 A76.out).mono ?_); (case side1 => repeat (first | exact (Kd.C_below HR0_7.out (by repeat (first | (with_reducible first | exact HB.out | apply below_alloc | apply pw_below_drewN | apply below_drew1 | refine below_set ?_ GE136.out) | exact HB.out))) | (with_reducible refine Kd.C_alloc ?_ _) | (with_reducible refine Kd.C_drewN ?_ _) | (with_reducible refine Kd.C_drew ?_))); (case side2 => exact HC0_7.out); rintro e w78 ⟨rfl, hb⟩; have n0_ := Aside0.mk (blk_below (bY BK136.out) hb); have n1_ := Aside0.mk (below_step (by repeat (first | (with_reducible first | exact HB.out | apply below_alloc | apply pw_below_drewN | apply below_drew1 | refine below_set ?_ GE136.out) | exact HB.out)) hb); clear BK136; clear HB; have BK136 := n0_; have HB := n1_; clear n0_ n1_; (try clear hb); (try clear hb2); (try clear hk); (try clear hi)))
    go_ret
    exact ⟨by first | rfl | (simp [errW_none, errW_some] <;> rfl) | (simp [*, errW_none, errW_some] <;> rfl), by repeat (first | (with_reducible first | exact HB.out | apply below_alloc | apply pw_below_drewN | apply below_drew1 | refine below_set ?_ GE136.out) | exact HB.out)⟩
   rw [if_neg c67] at H
   have c67b0 : (a0_0 == 5) = false := beq_eq_false_iff_ne.mpr c67
   have c67b1 : (a0_0 != 5) = true := bne_iff_ne.mpr c67
   by_cases c84 : a0_0 = 6
   rotate_left
   ·rw [if_neg c84] at H
    have c84b0 : (a0_0 == 6) = false := beq_eq_false_iff_ne.mpr c84
    have c84b1 : (a0_0 != 6) = true := bne_iff_ne.mpr c84
    obtain rfl := Option.some.inj H
    obtain ⟨hcz105_0, hcz105_1, hcz105_2, hcz105_3, hcz105_4, hcz105_5, hcz105_6, hcz105_7, hfz105_0, hfz105_1, hfz105_2, hfz105_3, hfz105_4, hfz105_5, hfz105_6, hfz105_7⟩ := b8 BK136.out
    go_wp2
    go_ret
    exact ⟨by first | rfl | (simp [errW_none, errW_some] <;> rfl) | (simp [*, errW_none, errW_some] <;> rfl), by repeat (first | (with_reducible first | exact HB.out | apply below_alloc | apply pw_below_drewN | apply below_drew1 | refine below_set ?_ GE136.out) | exact HB.out)⟩
   rw [if_pos c84] at H
   have c84b0 : (a0_0 == 6) = true := beq_iff_eq.mpr c84
   have c84b1 : (a0_0 != 6) = false := bne_eq_false_iff_eq.mpr c84
   clear c84
   by_cases c85 : a0_3 = 0
   rotate_left
   ·rw [if_neg c85] at H
    have c85b0 : (a0_3 == 0) = false := beq_eq_false_iff_ne.mpr c85
    have c85b1 : (a0_3 != 0) = true := bne_iff_ne.mpr c85
    obtain rfl := Option.some.inj H
    obtain ⟨hcz104_0, hcz104_1, hcz104_2, hcz104_3, hcz104_4, hcz104_5, hcz104_6, hcz104_7, hfz104_0, hfz104_1, hfz104_2, hfz104_3, hfz104_4, hfz104_5, hfz104_6, hfz104_7⟩ := b8 BK136.out
    go_wp2
    go_ret
    exact ⟨by first | rfl | (simp [errW_none, errW_some] <;> rfl) | (simp [*, errW_none, errW_some] <;> rfl), by repeat (first | (with_reducible first | exact HB.out | apply below_alloc | apply pw_below_drewN | apply below_drew1 | refine below_set ?_ GE136.out) | exact HB.out)⟩
   rw [if_pos c85] at H
   have c85b0 : (a0_3 == 0) = true := beq_iff_eq.mpr c85
   have c85b1 : (a0_3 != 0) = false := bne_eq_false_iff_eq.mpr c85
   clear c85
   replace H := Option.bind_eq_some_iff.mp H
   obtain ⟨t156, A860, H⟩ := H
   have A86 := Aside0.mk A860
   clear A860
   by_cases c87 : t156 = true
   rotate_left
   ·replace c87 := Bool.eq_false_iff.mpr c87
    subst c87
    have H1 : (some false) = some r := by rw [if_neg (show ¬ (false = true) by decide)] at H; exact H
    clear H
    have H := H1
    clear H1
    obtain rfl := Option.some.inj H
    obtain ⟨hcz103_0, hcz103_1, hcz103_2, hcz103_3, hcz103_4, hcz103_5, hcz103_6, hcz103_7, hfz103_0, hfz103_1, hfz103_2, hfz103_3, hfz103_4, hfz103_5, hfz103_6, hfz103_7⟩ := b8 BK136.out
    go_wp2_with (first | (go_at_call 91; (with_reducible refine (spec_IsId.calls a0_2 false _ A86.out).mono ?_); rintro e w' ⟨rfl, ⟨nd, rfl⟩⟩))
    go_ret
    exact ⟨by first | rfl | (simp [errW_none, errW_some] <;> rfl) | (simp [*, errW_none, errW_some] <;> rfl), by repeat (first | (with_reducible first | exact HB.out | apply below_alloc | apply pw_below_drewN | apply below_drew1 | refine below_set ?_ GE136.out) | exact HB.out)⟩
   subst c87
   have H1 : ((spec_l01In.f a0_5 0 7).bind fun t157 => (if t157 = true then ((spec_l01In.f a0_6 0 2).bind fun t158 => (if t158 = true then ((spec_l01In.f a0_4 0 64).bind fun t159 => (if t159 = true then (if (l0_7.length : Int) = 0 then (some true) else (if a0_6 = 0 then (some (decide ((l0_7.length : Int) ≤ (mn 8 a0_4)))) else (some false))) else (some false))) else (some false))) else (some false))) = some r := by rw [if_pos rfl] at H; exact H
   clear H
   have H := H1
   clear H1
   replace H := Option.bind_eq_some_iff.mp H
   obtain ⟨t157, A880, H⟩ := H
   have A88 := Aside0.mk A880
   clear A880
   by_cases c89 : t157 = true
   rotate_left
   ·replace c89 := Bool.eq_false_iff.mpr c89
    subst c89
    have H1 : (some false) = some r := by rw [if_neg (show ¬ (false = true) by decide)] at H; exact H
    clear H
    have H := H1
    clear H1
    obtain rfl := Option.some.inj H
    obtain ⟨hcz102_0, hcz102_1, hcz102_2, hcz102_3, hcz102_4, hcz102_5, hcz102_6, hcz102_7, hfz102_0, hfz102_1, hfz102_2, hfz102_3, hfz102_4, hfz102_5, hfz102_6, hfz102_7⟩ := b8 BK136.out
    go_wp2_with (first | (go_at_call 91; (with_reducible refine (spec_IsId.calls a0_2 true _ A86.out).mono ?_); rintro e w' ⟨rfl, ⟨nd, rfl⟩⟩) | (go_at_call 49; (with_reducible refine (spec_l01In.calls a0_5 0 7 false _ A88.out).mono ?_); rintro e w' ⟨rfl, ⟨nd, rfl⟩⟩))
    go_ret
    exact ⟨by first | rfl | (simp [errW_none, errW_some] <;> rfl) | (simp [*, errW_none, errW_some] <;> rfl), by repeat (first | (with_reducible first | exact HB.out | apply below_alloc | apply pw_below_drewN | apply below_drew1 | refine below_set ?_ GE136.out) | exact HB.out)⟩
   subst c89
   have H1 : ((spec_l01In.f a0_6 0 2).bind fun t158 => (if t158 = true then ((spec_l01In.f a0_4 0 64).bind fun t159 => (if t159 = true then (if (l0_7.length : Int) = 0 then (some true) else (if a0_6 = 0 then (some (decide ((l0_7.length : Int) ≤ (mn 8 a0_4)))) else (some false))) else (some false))) else (some false))) = some r := by rw [if_pos rfl] at H; exact H
   clear H
   have H := H1
   clear H1
   replace H := Option.bind_eq_some_iff.mp H
   obtain ⟨t158, A900, H⟩ := H
   have A90 := Aside0.mk A900
   clear A900
   by_cases c91 : t158 = true
   rotate_left
   ·replace c91 := Bool.eq_false_iff.mpr c91
    subst c91
    have H1 : (some false) = some r := by rw [if_neg (show ¬ (false = true) by decide)] at H; exact H
    clear H
    have H := H1
    clear H1
    obtain rfl := Option.some.inj H
    obtain ⟨hcz101_0, hcz101_1, hcz101_2, hcz101_3, hcz101_4, hcz101_5, hcz101_6, hcz101_7, hfz101_0, hfz101_1, hfz101_2, hfz101_3, hfz101_4, hfz101_5, hfz101_6, hfz101_7⟩ := b8 BK136.out
    go_wp2_with (first | (go_at_call 91; (with_reducible refine (spec_IsId.calls a0_2 true _ A86.out).mono ?_); rintro e w' ⟨rfl, ⟨nd, rfl⟩⟩) | (go_at_call 49; (with_reducible refine (spec_l01In.calls a0_5 0 7 true _ A88.out).mono ?_); rintro e w' ⟨rfl, ⟨nd, rfl⟩⟩) | (go_at_call 49; (with_reducible refine (spec_l01In.calls a0_6 0 2 false _ A90.out).mono ?_); rintro e w' ⟨rfl, ⟨nd, rfl⟩⟩))
    go_ret
    exact ⟨by first | rfl | (simp [errW_none, errW_some] <;> rfl) | (simp [*, errW_none, errW_some] <;> rfl), by repeat (first | (with_reducible first | exact HB.out | apply below_alloc | apply pw_below_drewN | apply below_drew1 | refine below_set ?_ GE136.out) | exact HB.out)⟩
   subst c91
   have H1 : ((spec_l01In.f a0_4 0 64).bind fun t159 => (if t159 = true then (if (l0_7.length : Int) = 0 then (some true) else (if a0_6 = 0 then (some (decide ((l0_7.length : Int) ≤ (mn 8 a0_4)))) else (some false))) else (some false))) = some r := by rw [if_pos rfl] at H; exact H
   clear H
   have H := H1
   clear H1
   replace H := Option.bind_eq_some_iff.mp H
   obtain ⟨t159, A920, H⟩ := H
   have A92 := Aside0.mk A920
   clear A920
   by_cases c93 : t159 = true
   rotate_left
   ·replace c93 := Bool.eq_false_iff.mpr c93
    subst c93
    have H1 : (some false) = some r := by rw [if_neg (show ¬ (false = true) by decide)] at H; exact H
    clear H
    have H := H1
    clear H1
    obtain rfl := Option.some.inj H
    obtain ⟨hcz100_0, hcz100_1, hcz100_2, hcz100_3, hcz100_4, hcz100_5, hcz100_6, hcz100_7, hfz100_0, hfz100_1, hfz100_2, hfz100_3, hfz100_4, hfz100_5, hfz100_6, hfz100_7⟩ := b8 BK136.out
    go_wp2_with (first | (go_at_call 91; (with_reducible refine (spec_IsId.calls a0_2 true _ A86.out).mono ?_); rintro e w' ⟨rfl, ⟨nd, rfl⟩⟩) | (go_at_call 49; (with_reducible refine (spec_l01In.calls a0_5 0 7 true _ A88.out).mono ?_); rintro e w' ⟨rfl, ⟨nd, rfl⟩⟩) | (go_at_call 49; (with_reducible refine (spec_l01In.calls a0_6 0 2 true _ A90.out).mono ?_); rintro e w' ⟨rfl, ⟨nd, rfl⟩⟩) | (go_at_call 49; (with_reducible refine (spec_l01In.calls a0_4 0 64 false _ A92.out).mono ?_); rintro e w' ⟨rfl, ⟨nd, rfl⟩⟩))
    go_ret
    exact ⟨by first | rfl | (simp [errW_none, errW_some] <;> rfl) | (simp [*, errW_none, errW_some] <;> rfl), by repeat (first | (with_reducible first | exact HB.out | apply below_alloc | apply pw_below_drewN | apply below_drew1 | refine below_set ?_ GE136.out) | exact HB.out)⟩
   subst c93
   have H1 : (if (l0_7.length : Int) = 0 then (some true) else (if a0_6 = 0 then (some (decide ((l0_7.length : Int) ≤ (mn 8 a0_4)))) else (some false))) = some r := by rw [if_pos rfl] at H; exact H
   clear H
   have H := H1
   clear H1
   by_cases c94 : (l0_7.length : Int) = 0
   ·rw [if_pos c94] at H
    have c94b0 : ((l0_7.length : Int) == 0) = true := beq_iff_eq.mpr c94
    have c94b1 : ((l0_7.length : Int) != 0) = false := bne_eq_false_iff_eq.mpr c94
    clear c94
    obtain rfl := Option.some.inj H
    obtain ⟨hcz95_0, hcz95_1, hcz95_2, hcz95_3, hcz95_4, hcz95_5, hcz95_6, hcz95_7, hfz95_0, hfz95_1, hfz95_2, hfz95_3, hfz95_4, hfz95_5, hfz95_6, hfz95_7⟩ := b8 BK136.out
    go_wp2_with (first | (go_at_call 91; (with_reducible refine (spec_IsId.calls a0_2 true _ A86.out).mono ?_); rintro e w' ⟨rfl, ⟨nd, rfl⟩⟩) | (go_at_call 49; (with_reducible refine (spec_l01In.calls a0_5 0 7 true _ A88.out).mono ?_); rintro e w' ⟨rfl, ⟨nd, rfl⟩⟩) | (go_at_call 49; (with_reducible refine (spec_l01In.calls a0_6 0 2 true _ A90.out).mono ?_); rintro e w' ⟨rfl, ⟨nd, rfl⟩⟩) | (go_at_call 49; (with_reducible refine (spec_l01In.calls a0_4 0 64 true _ A92.out).mono ?_); rintro e w' ⟨rfl, ⟨nd, rfl⟩⟩))
    go_ret
    exact ⟨by first | rfl | (simp [errW_none, errW_some] <;> rfl) | (simp [*, errW_none, errW_some] <;> rfl), by repeat (first | (with_reducible first | exact HB.out | apply below_alloc | apply pw_below_drewN | apply below_drew1 | refine below_set ?_ GE136.out) | exact HB.out)⟩
   rw [if_neg c94] at H
   have c94b0 : ((l0_7.length : Int) == 0) = false := beq_eq_false_iff_ne.mpr c94
   have c94b1 : ((l0_7.length : Int) != 0) = true := bne_iff_ne.mpr c94
   have c94b2 : ¬ (l0_7 = []) := fun h_ => c94 (by rw [h_]; rfl)
   by_cases c96 : a0_6 = 0
   rotate_left
   ·rw [if_neg c96] at H
    have c96b0 : (a0_6 == 0) = false := beq_eq_false_iff_ne.mpr c96
    have c96b1 : (a0_6 != 0) = true := bne_iff_ne.mpr c96
    obtain rfl := Option.some.inj H
    obtain ⟨hcz99_0, hcz99_1, hcz99_2, hcz99_3, hcz99_4, hcz99_5, hcz99_6, hcz99_7, hfz99_0, hfz99_1, hfz99_2, hfz99_3, hfz99_4, hfz99_5, hfz99_6, hfz99_7⟩ := b8 BK136.out
    go_wp2_with (first | (go_at_call 91; (with_reducible refine (spec_IsId.calls a0_2 true _ A86.out).mono ?_); rintro e w' ⟨rfl, ⟨nd, rfl⟩⟩) | (go_at_call 49; (with_reducible refine (spec_l01In.calls a0_5 0 7 true _ A88.out).mono ?_); rintro e w' ⟨rfl, ⟨nd, rfl⟩⟩) | (go_at_call 49; (with_reducible refine (spec_l01In.calls a0_6 0 2 true _ A90.out).mono ?_); rintro e w' ⟨rfl, ⟨nd, rfl⟩⟩) | (go_at_call 49; (with_reducible refine (spec_l01In.calls a0_4 0 64 true _ A92.out).mono ?_); rintro e w' ⟨rfl, ⟨nd, rfl⟩⟩))
    go_ret
    exact ⟨by first | rfl | (simp [errW_none, errW_some] <;> rfl) | (simp [*, errW_none, errW_some] <;> rfl), by repeat (first | (with_reducible first | exact HB.out | apply below_alloc | apply pw_below_drewN | apply below_drew1 | refine below_set ?_ GE136.out) | exact HB.out)⟩
   rw [if_pos c96] at H
   have c96b0 : (a0_6 == 0) = true := beq_iff_eq.mpr c96
   have c96b1 : (a0_6 != 0) = false := bne_eq_false_iff_eq.mpr c96
   clear c96
   obtain ⟨ji97, hji97⟩ : ∃ j_ : Int, (mn 8 a0_4) = j_ := ⟨_, rfl⟩
   replace H : (some (decide ((l0_7.length : Int) ≤ (ji97)))) = some r := by first | (rw [hji97] at H; exact H) | (simp only [hji97] at H ⊢; exact H)
   (try rw [hji97] at A86)
   (try rw [hji97] at A88)
   (try rw [hji97] at A90)
   (try rw [hji97] at A92)
   have hji97_ : (if a0_4 < 8 then a0_4 else 8) = ji97 := hji97
   obtain rfl := Option.some.inj H
   obtain ⟨hcz98_0, hcz98_1, hcz98_2, hcz98_3, hcz98_4, hcz98_5, hcz98_6, hcz98_7, hfz98_0, hfz98_1, hfz98_2, hfz98_3, hfz98_4, hfz98_5, hfz98_6, hfz98_7⟩ := b8 BK136.out
   go_wp2_with (first | (go_at_call 91; (with_reducible refine (spec_IsId.calls a0_2 true _ A86.out).mono ?_); rintro e w' ⟨rfl, ⟨nd, rfl⟩⟩) | (go_at_call 49; (with_reducible refine (spec_l01In.calls a0_5 0 7 true _ A88.out).mono ?_); rintro e w' ⟨rfl, ⟨nd, rfl⟩⟩) | (go_at_call 49; (with_reducible refine (spec_l01In.calls a0_6 0 2 true _ A90.out).mono ?_); rintro e w' ⟨rfl, ⟨nd, rfl⟩⟩) | (go_at_call 49; (with_reducible refine (spec_l01In.calls a0_4 0 64 true _ A92.out).mono ?_); rintro e w' ⟨rfl, ⟨nd, rfl⟩⟩))
   go_ret
   exact ⟨by first | rfl | (simp [errW_none, errW_some] <;> rfl) | (simp only [← hji97]; first | rfl | (simp [errW_none, errW_some] <;> rfl)) | (simp [*, errW_none, errW_some] <;> rfl), by repeat (first | (with_reducible first | exact HB.out | apply below_alloc | apply pw_below_drewN | apply below_drew1 | refine below_set ?_ GE136.out) | exact HB.out)⟩
end Go.Proofs.Ytlombfmebinjbaa.PFnExactChannelOk
