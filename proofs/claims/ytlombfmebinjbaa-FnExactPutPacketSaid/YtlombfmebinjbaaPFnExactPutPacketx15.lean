-- Written by a program of this session (wip/xp): not trusted, Lean checks it.
import Derived.Test.YtlombfmebinjbaaPFnExactPutPacketx0
import Derived.Test.YtlombfmebinjbaaPFnExactPutPacketx14
namespace Go.Proofs.Ytlombfmebinjbaa.PFnExactPutPacket
open Go.RowKit Go.Proofs.YtlombfmebinjbaaW.PrintWords Go.Proofs.YtlombfmebinjbaaW.PrintLast Go.Proofs.YtlombfmebinjbaaW.PrintMore
attribute [local go_sem] max2_int min2_int max_two min_two max_three min_three max_four min_four   -- for this text's walks alone
set_option linter.unusedVariables false
set_option linter.unusedSimpArgs false

/-! ### impl_Packet_addressOk: function 80 -/
def impl_Packet_addressOk.j0 : Nat → Int → Bool → Int → Int → Int → Int → Int → Int → Int → List Int → Option (Bool)
 | 0, _, _, _, _, _, _, _, _, _, _ => none
 | k + 1, x4, x5, x265000, x265001, x265002, x265003, x265004, x265005, x265006, x265007 => if x5 = true then ((impl_within.f x265003 0 65535).bind fun t265 => (if t265 = true then ((impl_Packet_words.f x265000 x265001 x265002 x265003 x265004 x265005 x265006 x265007).bind fun t266 => (some (decide (t266 ≤ (wrap64 (65536 - x265003)))))) else (some false))) else (if x4 = 4 then ((impl_within.f x265003 0 63).bind fun t267 => (some t267)) else (if x4 = 5 then ((impl_within.f x265003 0 63).bind fun t268 => (some t268)) else (some (x265003 == 0))))
def impl_Packet_addressOk.f (k : Nat) (a0_0 : Int) (a0_1 : Int) (a0_2 : Int) (a0_3 : Int) (a0_4 : Int) (a0_5 : Int) (a0_6 : Int) (l0_7 : List Int) : Option (Bool) := if a0_0 = 1 then (impl_Packet_addressOk.j0 k a0_0 (a0_0 == 1) a0_0 a0_1 a0_2 a0_3 a0_4 a0_5 a0_6 l0_7) else (impl_Packet_addressOk.j0 k a0_0 (a0_0 == 3) a0_0 a0_1 a0_2 a0_3 a0_4 a0_5 a0_6 l0_7)
def impl_Packet_addressOk.T4 : Bool × List (List Nat × List Nat) := (true, [([], []), ([0], [0]), ([1], [1]), ([2, 2], [2]), ([3], [3]), ([4, 3, 3], [3, 4]), ([3], [3]), ([6, 3], [3, 6]), ([7, 3], [3, 7]), ([5, 8, 3], [3, 5, 8]), ([3, 9], [3, 9]), ([10, 5, 0, 1, 2, 3, 4, 5, 6, 7, 8, 9, 10], [10])])
def impl_Packet_addressOk.B4 : List Nat := [0, 1, 3, 7, 15, 31, 15, 79, 207, 511, 1023, 2047]
theorem impl_Packet_addressOk.tab4 : rtab .any (opsOf Try.f80 4) = impl_Packet_addressOk.T4 := by kernel_rfl
theorem impl_Packet_addressOk.bits4 : waitsOk impl_Packet_addressOk.T4.2 impl_Packet_addressOk.B4 = true := by kernel_rfl
set_option maxHeartbeats 8000000 in
set_option maxRecDepth 100000 in
theorem impl_Packet_addressOk.calls (k : Nat) (a0_0 : Int) (a0_1 : Int) (a0_2 : Int) (a0_3 : Int) (a0_4 : Int) (a0_5 : Int) (a0_6 : Int) (A0_7 : Option Addr) (c0_7 : Nat) (l0_7 : List Int) (r : Bool) (w : World) (hr0_7 : Kd.C (Kd.int .i64) w A0_7 l0_7.length l0_7) (hc0_7 : l0_7.length ≤ c0_7) (h : impl_Packet_addressOk.f k a0_0 a0_1 a0_2 a0_3 a0_4 a0_5 a0_6 l0_7 = some r) :
  Calls Try.prog 80 #[.agg #[.int .i64 a0_0, .int .i64 a0_1, .int .i64 a0_2, .int .i64 a0_3, .int .i64 a0_4, .int .i64 a0_5, .int .i64 a0_6, .slice A0_7 l0_7.length c0_7]] w fun e w' => e = .returned (.bool r) ∧ Below w.heap.size w w' := by
 have hu38 := Try.underlying38
 have HR0_7 := A_.mk hr0_7
 have HC0_7 := A_.mk hc0_7
 clear hr0_7 hc0_7
 have HB := A_.mk (Below.refl w.heap.size w)
 have H : (if a0_0 = 1 then (impl_Packet_addressOk.j0 k a0_0 (a0_0 == 1) a0_0 a0_1 a0_2 a0_3 a0_4 a0_5 a0_6 l0_7) else (impl_Packet_addressOk.j0 k a0_0 (a0_0 == 3) a0_0 a0_1 a0_2 a0_3 a0_4 a0_5 a0_6 l0_7)) = some r := h
 clear h
 have HC2 := A_.mk H
 clear H
 go_enter Try.func80, Try.ntmps80
 go_upto_if 5 with (first | ((with_reducible refine gd_ (N := 1) rfl ?_); refine by_ 1 (cs := #[.int .i64 a0_0, .int .i64 a0_1, .int .i64 a0_2, .int .i64 a0_3, .int .i64 a0_4, .int .i64 a0_5, .int .i64 a0_6, .slice A0_7 l0_7.length c0_7]) (t := 38) ?_; intro gb264 hg w3 hbox hb; have n0_ := A_.mk (bt_ (beY HB.out) hb); have n1_ := A_.mk (hbox); have n2_ := A_.mk ((by rw [hg]; exact (bz_ (beY HB.out)) : w.heap.size ≤ gb264)); have n3_ := A_.mk ((by rw [hg]; exact (bz_ (beY HB.out)) : w.heap.size ≤ gb264)); clear HB; have HB := n0_; have BK264 := n1_; have GW264 := n2_; have GE264 := n3_; clear n0_ n1_ n2_ n3_ hb hbox hg; have hcz4_0 : w3.cell? ⟨gb264, 0, none⟩ = some (.int .i64 a0_0) := (bc_ BK264.out 0).trans rfl; have hcz4_1 : w3.cell? ⟨gb264, 1, none⟩ = some (.int .i64 a0_1) := (bc_ BK264.out 1).trans rfl; have hcz4_2 : w3.cell? ⟨gb264, 2, none⟩ = some (.int .i64 a0_2) := (bc_ BK264.out 2).trans rfl; have hcz4_3 : w3.cell? ⟨gb264, 3, none⟩ = some (.int .i64 a0_3) := (bc_ BK264.out 3).trans rfl; have hcz4_4 : w3.cell? ⟨gb264, 4, none⟩ = some (.int .i64 a0_4) := (bc_ BK264.out 4).trans rfl; have hcz4_5 : w3.cell? ⟨gb264, 5, none⟩ = some (.int .i64 a0_5) := (bc_ BK264.out 5).trans rfl; have hcz4_6 : w3.cell? ⟨gb264, 6, none⟩ = some (.int .i64 a0_6) := (bc_ BK264.out 6).trans rfl; have hcz4_7 : w3.cell? ⟨gb264, 7, none⟩ = some (.slice A0_7 l0_7.length c0_7) := (bc_ BK264.out 7).trans rfl; have hfz4_0 := bf_ BK264.out 0; have hfz4_1 := bf_ BK264.out 1; have hfz4_2 := bf_ BK264.out 2; have hfz4_3 := bf_ BK264.out 3; have hfz4_4 := bf_ BK264.out 4; have hfz4_5 := bf_ BK264.out 5; have hfz4_6 := bf_ BK264.out 6; have hfz4_7 := bf_ BK264.out 7))
 (try simp only [Act.put, List.setIfInBounds_toArray, List.set_cons_zero, List.set_cons_succ])
 go_cut [5] (fun v5 wc => ∃ (kq : Nat) (x5_1 : Bool), v5 = .bool x5_1 ∧ A_ (impl_Packet_addressOk.j0 kq a0_0 x5_1 a0_0 a0_1 a0_2 a0_3 a0_4 a0_5 a0_6 l0_7 = some r) ∧ A_ (kq ≤ k) ∧ A_ (wc.heap[gb264]? = some (.cells #[.int .i64 a0_0, .int .i64 a0_1, .int .i64 a0_2, .int .i64 a0_3, .int .i64 a0_4, .int .i64 a0_5, .int .i64 a0_6, (.slice A0_7 l0_7.length c0_7)] 38 (0, 0))) ∧ A_ (Below w.heap.size w wc))
 case first =>
  have H := HC2.out
  clear HC2
  by_cases c5 : a0_0 = 1
  rotate_left
  ·rw [if_neg c5] at H
   have c5b0 : (a0_0 == 1) = false := beq_eq_false_iff_ne.mpr c5
   have c5b1 : (a0_0 != 1) = true := bne_iff_ne.mpr c5
   (first | rw [c5b0] | (simp only [i64_w, i32_w]; rw [c5b0]) | skip)
   have H' := A_.mk H
   clear H
   go_wp2
   go_meet
   case rel => exact ⟨_, ((a0_0 == 3)), (by first | rfl | (simp; done) | (simp [*]; done)), H', ⟨by first | omega | exact Nat.le_refl _⟩, ⟨by (repeat apply bX); exact BK264.out⟩, ⟨by repeat (first | (with_reducible first | exact HB.out | apply ba_ | apply bd_ | apply be_ | refine bs_ ?_ GE264.out) | exact HB.out)⟩⟩
  rw [if_pos c5] at H
  have c5b0 : (a0_0 == 1) = true := beq_iff_eq.mpr c5
  have c5b1 : (a0_0 != 1) = false := bne_eq_false_iff_eq.mpr c5
  clear c5
  (first | rw [c5b0] | (simp only [i64_w, i32_w]; rw [c5b0]) | skip)
  have H' := A_.mk H
  clear H
  go_wp2
  go_meet
  case rel => exact ⟨_, ((a0_0 == 1)), (by first | rfl | (simp; done) | (simp [*]; done)), H', ⟨by first | omega | exact Nat.le_refl _⟩, ⟨by (repeat apply bX); exact BK264.out⟩, ⟨by repeat (first | (with_reducible first | exact HB.out | apply ba_ | apply bd_ | apply be_ | refine bs_ ?_ GE264.out) | exact HB.out)⟩⟩
 case rest =>
  clear HC2
  obtain ⟨kq, x5_1, rfl, HA, HJ1, BK264, HB⟩ := hcut
  cases kq with
  | zero => exact absurd HA.out (by simp [impl_Packet_addressOk.j0])
  | succ kj1 =>
   have H := HA.out
   clear HA
   simp only [impl_Packet_addressOk.j0] at H
   by_cases c6 : x5_1 = true
   rotate_left
   ·replace c6 := Bool.eq_false_iff.mpr c6
    subst c6
    have H1 : (if a0_0 = 4 then ((impl_within.f a0_3 0 63).bind fun t267 => (some t267)) else (if a0_0 = 5 then ((impl_within.f a0_3 0 63).bind fun t268 => (some t268)) else (some (a0_3 == 0)))) = some r := by rw [if_neg (show ¬ (false = true) by decide)] at H; exact H
    clear H
    have H := H1
    clear H1
    by_cases c13 : a0_0 = 4
    ·rw [if_pos c13] at H
     have c13b0 : (a0_0 == 4) = true := beq_iff_eq.mpr c13
     have c13b1 : (a0_0 != 4) = false := bne_eq_false_iff_eq.mpr c13
     clear c13
     replace H := ob_ H
     obtain ⟨t267, A140, H⟩ := H
     have A14 := A_.mk A140
     clear A140
     obtain rfl := Option.some.inj H
     obtain ⟨hcz15_0, hcz15_1, hcz15_2, hcz15_3, hcz15_4, hcz15_5, hcz15_6, hcz15_7, hfz15_0, hfz15_1, hfz15_2, hfz15_3, hfz15_4, hfz15_5, hfz15_6, hfz15_7⟩ := b8 BK264.out
     go_wp2_with (first | ((with_reducible refine gc_ (f := 52) rfl ?_); refine gl_ (some 24) Try.func52 #[.int .i64 a0_3, .int .i64 0, .int .i64 63] ?_; (with_reducible refine (impl_within.calls a0_3 0 63 t267 _ A14.out).mono ?_); rintro e w' ⟨rfl, ⟨nd, rfl⟩⟩; refine ⟨_, rfl, ?_⟩))
     go_ret
     exact ⟨by first | rfl | (simp [errW_none, errW_some] <;> rfl) | (simp [*, errW_none, errW_some] <;> rfl), by repeat (first | (with_reducible first | exact HB.out | apply ba_ | apply bd_ | apply be_ | refine bs_ ?_ GE264.out) | exact HB.out)⟩
    rw [if_neg c13] at H
    have c13b0 : (a0_0 == 4) = false := beq_eq_false_iff_ne.mpr c13
    have c13b1 : (a0_0 != 4) = true := bne_iff_ne.mpr c13
    by_cases c16 : a0_0 = 5
    rotate_left
    ·rw [if_neg c16] at H
     have c16b0 : (a0_0 == 5) = false := beq_eq_false_iff_ne.mpr c16
     have c16b1 : (a0_0 != 5) = true := bne_iff_ne.mpr c16
     obtain rfl := Option.some.inj H
     obtain ⟨hcz19_0, hcz19_1, hcz19_2, hcz19_3, hcz19_4, hcz19_5, hcz19_6, hcz19_7, hfz19_0, hfz19_1, hfz19_2, hfz19_3, hfz19_4, hfz19_5, hfz19_6, hfz19_7⟩ := b8 BK264.out
     go_wp2
     go_ret
     exact ⟨by first | rfl | (simp [errW_none, errW_some] <;> rfl) | (simp [*, errW_none, errW_some] <;> rfl), by repeat (first | (with_reducible first | exact HB.out | apply ba_ | apply bd_ | apply be_ | refine bs_ ?_ GE264.out) | exact HB.out)⟩
    rw [if_pos c16] at H
    have c16b0 : (a0_0 == 5) = true := beq_iff_eq.mpr c16
    have c16b1 : (a0_0 != 5) = false := bne_eq_false_iff_eq.mpr c16
    clear c16
    replace H := ob_ H
    obtain ⟨t268, A170, H⟩ := H
    have A17 := A_.mk A170
    clear A170
    obtain rfl := Option.some.inj H
    obtain ⟨hcz18_0, hcz18_1, hcz18_2, hcz18_3, hcz18_4, hcz18_5, hcz18_6, hcz18_7, hfz18_0, hfz18_1, hfz18_2, hfz18_3, hfz18_4, hfz18_5, hfz18_6, hfz18_7⟩ := b8 BK264.out
    go_wp2_with (first | ((with_reducible refine gc_ (f := 52) rfl ?_); refine gl_ (some 24) Try.func52 #[.int .i64 a0_3, .int .i64 0, .int .i64 63] ?_; (with_reducible refine (impl_within.calls a0_3 0 63 t268 _ A17.out).mono ?_); rintro e w' ⟨rfl, ⟨nd, rfl⟩⟩; refine ⟨_, rfl, ?_⟩))
    go_ret
    exact ⟨by first | rfl | (simp [errW_none, errW_some] <;> rfl) | (simp [*, errW_none, errW_some] <;> rfl), by repeat (first | (with_reducible first | exact HB.out | apply ba_ | apply bd_ | apply be_ | refine bs_ ?_ GE264.out) | exact HB.out)⟩
   subst c6
   have H1 : ((impl_within.f a0_3 0 65535).bind fun t265 => (if t265 = true then ((impl_Packet_words.f a0_0 a0_1 a0_2 a0_3 a0_4 a0_5 a0_6 l0_7).bind fun t266 => (some (decide (t266 ≤ (wrap64 (65536 - a0_3)))))) else (some false))) = some r := by rw [if_pos rfl] at H; exact H
   clear H
   have H := H1
   clear H1
   replace H := ob_ H
   obtain ⟨t265, A70, H⟩ := H
   have A7 := A_.mk A70
   clear A70
   by_cases c8 : t265 = true
   rotate_left
   ·replace c8 := Bool.eq_false_iff.mpr c8
    subst c8
    have H1 : (some false) = some r := by rw [if_neg (show ¬ (false = true) by decide)] at H; exact H
    clear H
    have H := H1
    clear H1
    obtain rfl := Option.some.inj H
    try go_wp2
    have n0_ := A_.mk (bw_ BK264.out)
    have n1_ := A_.mk (be_ HB.out)
    clear BK264 HB
    have BK264 := n0_
    have HB := n1_
    clear n0_ n1_
    refine start_ (n := 12) (S := fun w' => w'.cell? ⟨gb264, 0, none⟩ = some (.int .i64 a0_0) ∧ w'.cell? ⟨gb264, 1, none⟩ = some (.int .i64 a0_1) ∧ w'.cell? ⟨gb264, 2, none⟩ = some (.int .i64 a0_2) ∧ w'.cell? ⟨gb264, 3, none⟩ = some (.int .i64 a0_3) ∧ w'.cell? ⟨gb264, 4, none⟩ = some (.int .i64 a0_4) ∧ w'.cell? ⟨gb264, 5, none⟩ = some (.int .i64 a0_5) ∧ w'.cell? ⟨gb264, 6, none⟩ = some (.int .i64 a0_6) ∧ w'.cell? ⟨gb264, 7, none⟩ = some (.slice A0_7 l0_7.length c0_7)) (ds := []) #[F, F, F, F, F, F, F, F, F, F, F, F] (by kernel_rfl) rfl rfl ⟨(bc_ BK264.out 0).trans rfl, (bc_ BK264.out 1).trans rfl, (bc_ BK264.out 2).trans rfl, (bc_ BK264.out 3).trans rfl, (bc_ BK264.out 4).trans rfl, (bc_ BK264.out 5).trans rfl, (bc_ BK264.out 6).trans rfl, (bc_ BK264.out 7).trans rfl⟩ (fun hHeld => ?_); refine with_tabW impl_Packet_addressOk.tab4 impl_Packet_addressOk.bits4 (fun HT_ HW_ => ?_)
    generalize wc.drew = w12 at BK264 HB hHeld ⊢
    refine pr_ (i := 0) (N := some 8) #[T, F, F, F, F, F, F, F, F, F, F, F] rfl HT_.out ?_
    refine tk_ (i := 1) (N := some 9) #[T, T, F, F, F, F, F, F, F, F, F, F] rfl HT_.out HW_.out hHeld ?_
    refine ot_ (i := 2) (N := some 10) #[T, T, T, F, F, F, F, F, F, F, F, F] rfl HT_.out (fun K hK => ?_)
    refine gz_ Try.func52 #[.int .i64 a0_3, .int .i64 0, .int .i64 65535] ?_
    with_reducible refine (impl_within.calls a0_3 0 65535 false _ A7.out).mono ?_
    rintro e w' ⟨rfl, ⟨nd, rfl⟩⟩
    refine ⟨_, rfl, ?_⟩
    refine hK.out _ _ ⟨(bc_ BK264.out 0).trans rfl, (bc_ BK264.out 1).trans rfl, (bc_ BK264.out 2).trans rfl, (bc_ BK264.out 3).trans rfl, (bc_ BK264.out 4).trans rfl, (bc_ BK264.out 5).trans rfl, (bc_ BK264.out 6).trans rfl, (bc_ BK264.out 7).trans rfl⟩ (fun hHeld => ?_)
    clear hK K
    refine nm_ ?_
    refine pr_ (i := 3) (N := some 11) #[T, T, T, T, F, F, F, F, F, F, F, F] rfl HT_.out ?_
    refine pu_ (i := 4) (N := some 12) #[T, T, T, T, T, F, F, F, F, F, F, F] rfl HT_.out ?_
    refine pu_ (i := 5) (N := some 13) #[T, T, T, T, T, T, F, F, F, F, F, F] rfl HT_.out ?_
    refine pu_ (i := 6) (N := some 14) #[T, T, T, T, T, T, T, F, F, F, F, F] rfl HT_.out ?_
    refine pu_ (i := 7) (N := some 15) #[T, T, T, T, T, T, T, T, F, F, F, F] rfl HT_.out ?_
    refine pu_ (i := 8) (N := some 16) #[T, T, T, T, T, T, T, T, T, F, F, F] rfl HT_.out ?_
    refine pu_ (i := 9) (N := some 17) #[T, T, T, T, T, T, T, T, T, T, F, F] rfl HT_.out ?_
    refine pr_ (i := 10) (N := some 18) #[T, T, T, T, T, T, T, T, T, T, T, F] rfl HT_.out ?_
    refine pr_ (i := 11) (N := some 2) #[T, T, T, T, T, T, T, T, T, T, T, T] rfl HT_.out ?_
    refine done_ (done_of HT_.out (by kernel_rfl)) ?_
    try go_wp2
    go_ret
    exact ⟨by first | rfl | (simp [errW_none, errW_some] <;> rfl) | (simp [*, errW_none, errW_some] <;> rfl), by repeat (first | (with_reducible first | exact HB.out | apply ba_ | apply bd_ | apply be_ | refine bs_ ?_ GE264.out) | exact HB.out)⟩
   subst c8
   have H1 : ((impl_Packet_words.f a0_0 a0_1 a0_2 a0_3 a0_4 a0_5 a0_6 l0_7).bind fun t266 => (some (decide (t266 ≤ (wrap64 (65536 - a0_3)))))) = some r := by rw [if_pos rfl] at H; exact H
   clear H
   have H := H1
   clear H1
   replace H := ob_ H
   obtain ⟨t266, A90, H⟩ := H
   have A9 := A_.mk A90
   clear A90
   obtain rfl := Option.some.inj H
   try go_wp2
   have n0_ := A_.mk (bw_ BK264.out)
   have n1_ := A_.mk (be_ HB.out)
   clear BK264 HB
   have BK264 := n0_
   have HB := n1_
   clear n0_ n1_
   refine start_ (n := 12) (S := fun w' => w'.cell? ⟨gb264, 0, none⟩ = some (.int .i64 a0_0) ∧ w'.cell? ⟨gb264, 1, none⟩ = some (.int .i64 a0_1) ∧ w'.cell? ⟨gb264, 2, none⟩ = some (.int .i64 a0_2) ∧ w'.cell? ⟨gb264, 3, none⟩ = some (.int .i64 a0_3) ∧ w'.cell? ⟨gb264, 4, none⟩ = some (.int .i64 a0_4) ∧ w'.cell? ⟨gb264, 5, none⟩ = some (.int .i64 a0_5) ∧ w'.cell? ⟨gb264, 6, none⟩ = some (.int .i64 a0_6) ∧ w'.cell? ⟨gb264, 7, none⟩ = some (.slice A0_7 l0_7.length c0_7)) (ds := []) #[F, F, F, F, F, F, F, F, F, F, F, F] (by kernel_rfl) rfl rfl ⟨(bc_ BK264.out 0).trans rfl, (bc_ BK264.out 1).trans rfl, (bc_ BK264.out 2).trans rfl, (bc_ BK264.out 3).trans rfl, (bc_ BK264.out 4).trans rfl, (bc_ BK264.out 5).trans rfl, (bc_ BK264.out 6).trans rfl, (bc_ BK264.out 7).trans rfl⟩ (fun hHeld => ?_); refine with_tabW impl_Packet_addressOk.tab4 impl_Packet_addressOk.bits4 (fun HT_ HW_ => ?_)
   generalize wc.drew = w10 at BK264 HB hHeld ⊢
   refine pr_ (i := 0) (N := some 8) #[T, F, F, F, F, F, F, F, F, F, F, F] rfl HT_.out ?_
   refine tk_ (i := 1) (N := some 9) #[T, T, F, F, F, F, F, F, F, F, F, F] rfl HT_.out HW_.out hHeld ?_
   refine ot_ (i := 2) (N := some 10) #[T, T, T, F, F, F, F, F, F, F, F, F] rfl HT_.out (fun K hK => ?_)
   refine gz_ Try.func52 #[.int .i64 a0_3, .int .i64 0, .int .i64 65535] ?_
   with_reducible refine (impl_within.calls a0_3 0 65535 true _ A7.out).mono ?_
   rintro e w' ⟨rfl, ⟨nd, rfl⟩⟩
   refine ⟨_, rfl, ?_⟩
   refine hK.out _ _ ⟨(bc_ BK264.out 0).trans rfl, (bc_ BK264.out 1).trans rfl, (bc_ BK264.out 2).trans rfl, (bc_ BK264.out 3).trans rfl, (bc_ BK264.out 4).trans rfl, (bc_ BK264.out 5).trans rfl, (bc_ BK264.out 6).trans rfl, (bc_ BK264.out 7).trans rfl⟩ (fun hHeld => ?_)
   clear hK K
   refine nm_ ?_
   refine pr_ (i := 3) (N := some 11) #[T, T, T, T, F, F, F, F, F, F, F, F] rfl HT_.out ?_
   refine pr_ (i := 6) (N := some 14) #[T, T, T, T, F, F, T, F, F, F, F, F] rfl HT_.out ?_
   refine tk_ (i := 4) (N := some 12) #[T, T, T, T, T, F, T, F, F, F, F, F] rfl HT_.out HW_.out hHeld ?_
   refine tk_ (i := 7) (N := some 15) #[T, T, T, T, T, F, T, T, F, F, F, F] rfl HT_.out HW_.out hHeld ?_
   refine pr_ (i := 8) (N := some 16) #[T, T, T, T, T, F, T, T, T, F, F, F] rfl HT_.out ?_
   refine ot_ (i := 5) (N := some 13) #[T, T, T, T, T, T, T, T, T, F, F, F] rfl HT_.out (fun K hK => ?_)
   refine gz_ Try.func96 #[.agg #[.int .i64 a0_0, .int .i64 a0_1, .int .i64 a0_2, .int .i64 a0_3, .int .i64 a0_4, .int .i64 a0_5, .int .i64 a0_6, .slice A0_7 l0_7.length c0_7]] ?_
   with_reducible refine (impl_Packet_words.calls a0_0 a0_1 a0_2 a0_3 a0_4 a0_5 a0_6 _ _ l0_7 t266 _ ?side1 ?side2 A9.out).mono ?_
   (case side1 => repeat (first | exact (Kd.C_below HR0_7.out (by repeat (first | (with_reducible first | exact HB.out | apply ba_ | apply bd_ | apply be_ | refine bs_ ?_ GE264.out) | exact HB.out))) | (with_reducible refine Kd.C_alloc ?_ _) | (with_reducible refine Kd.C_drewN ?_ _) | (with_reducible refine Kd.C_drew ?_)))
   (case side2 => exact HC0_7.out)
   rintro e w11 ⟨rfl, hb⟩
   refine ⟨_, rfl, ?_⟩
   have n0_ := A_.mk (bb_ (bY BK264.out) hb)
   have n1_ := A_.mk (bt_ (by repeat (first | (with_reducible first | exact HB.out | apply ba_ | apply bd_ | apply be_ | refine bs_ ?_ GE264.out) | exact HB.out)) hb)
   clear BK264 HB
   have BK264 := n0_
   have HB := n1_
   clear n0_ n1_
   refine hK.out _ _ ⟨(bc_ BK264.out 0).trans rfl, (bc_ BK264.out 1).trans rfl, (bc_ BK264.out 2).trans rfl, (bc_ BK264.out 3).trans rfl, (bc_ BK264.out 4).trans rfl, (bc_ BK264.out 5).trans rfl, (bc_ BK264.out 6).trans rfl, (bc_ BK264.out 7).trans rfl⟩ (fun hHeld => ?_)
   clear hK K
   refine nm_ ?_
   refine pr_ (i := 9) (N := some 17) #[T, T, T, T, T, T, T, T, T, T, F, F] rfl HT_.out ?_
   refine pr_ (i := 10) (N := some 18) #[T, T, T, T, T, T, T, T, T, T, T, F] rfl HT_.out ?_
   refine pr_ (i := 11) (N := some 2) #[T, T, T, T, T, T, T, T, T, T, T, T] rfl HT_.out ?_
   refine done_ (done_of HT_.out (by kernel_rfl)) ?_
   try go_wp2
   go_ret
   exact ⟨by first | rfl | (simp [errW_none, errW_some] <;> rfl) | (simp [*, errW_none, errW_some] <;> rfl), by repeat (first | (with_reducible first | exact HB.out | apply ba_ | apply bd_ | apply be_ | refine bs_ ?_ GE264.out) | exact HB.out)⟩
/-! ### impl_Packet_lengthOk: function 81 -/
def impl_Packet_lengthOk.f (a0_0 : Int) (a0_1 : Int) (a0_2 : Int) (a0_3 : Int) (a0_4 : Int) (a0_5 : Int) (a0_6 : Int) (l0_7 : List Int) : Option (Bool) := if a0_0 = 3 then ((impl_within.f a0_4 1 64).bind fun t270 => (some t270)) else (if a0_0 = 6 then ((impl_within.f a0_4 0 64).bind fun t271 => (some t271)) else (some (a0_4 == 0)))
set_option maxHeartbeats 8000000 in
set_option maxRecDepth 100000 in
theorem impl_Packet_lengthOk.calls (a0_0 : Int) (a0_1 : Int) (a0_2 : Int) (a0_3 : Int) (a0_4 : Int) (a0_5 : Int) (a0_6 : Int) (A0_7 : Option Addr) (c0_7 : Nat) (l0_7 : List Int) (r : Bool) (w : World) (hr0_7 : Kd.C (Kd.int .i64) w A0_7 l0_7.length l0_7) (hc0_7 : l0_7.length ≤ c0_7) (h : impl_Packet_lengthOk.f a0_0 a0_1 a0_2 a0_3 a0_4 a0_5 a0_6 l0_7 = some r) :
  Calls Try.prog 81 #[.agg #[.int .i64 a0_0, .int .i64 a0_1, .int .i64 a0_2, .int .i64 a0_3, .int .i64 a0_4, .int .i64 a0_5, .int .i64 a0_6, .slice A0_7 l0_7.length c0_7]] w fun e w' => e = .returned (.bool r) ∧ Below w.heap.size w w' := by
 have hu38 := Try.underlying38
 have HR0_7 := A_.mk hr0_7
 have HC0_7 := A_.mk hc0_7
 clear hr0_7 hc0_7
 have HB := A_.mk (Below.refl w.heap.size w)
 have H : (if a0_0 = 3 then ((impl_within.f a0_4 1 64).bind fun t270 => (some t270)) else (if a0_0 = 6 then ((impl_within.f a0_4 0 64).bind fun t271 => (some t271)) else (some (a0_4 == 0)))) = some r := h
 clear h
 by_cases c2 : a0_0 = 3
 ·rw [if_pos c2] at H
  have c2b0 : (a0_0 == 3) = true := beq_iff_eq.mpr c2
  have c2b1 : (a0_0 != 3) = false := bne_eq_false_iff_eq.mpr c2
  clear c2
  replace H := ob_ H
  obtain ⟨t270, A30, H⟩ := H
  have A3 := A_.mk A30
  clear A30
  obtain rfl := Option.some.inj H
  go_enter Try.func81, Try.ntmps81
  go_wp2_with (first | ((with_reducible refine gd_ (N := 1) rfl ?_); refine by_ 1 (cs := #[.int .i64 a0_0, .int .i64 a0_1, .int .i64 a0_2, .int .i64 a0_3, .int .i64 a0_4, .int .i64 a0_5, .int .i64 a0_6, .slice A0_7 l0_7.length c0_7]) (t := 38) ?_; intro gb269 hg w4 hbox hb; have n0_ := A_.mk (bt_ (beY HB.out) hb); have n1_ := A_.mk (hbox); have n2_ := A_.mk ((by rw [hg]; exact (bz_ (beY HB.out)) : w.heap.size ≤ gb269)); have n3_ := A_.mk ((by rw [hg]; exact (bz_ (beY HB.out)) : w.heap.size ≤ gb269)); clear HB; have HB := n0_; have BK269 := n1_; have GW269 := n2_; have GE269 := n3_; clear n0_ n1_ n2_ n3_ hb hbox hg; have hcz5_0 : w4.cell? ⟨gb269, 0, none⟩ = some (.int .i64 a0_0) := (bc_ BK269.out 0).trans rfl; have hcz5_1 : w4.cell? ⟨gb269, 1, none⟩ = some (.int .i64 a0_1) := (bc_ BK269.out 1).trans rfl; have hcz5_2 : w4.cell? ⟨gb269, 2, none⟩ = some (.int .i64 a0_2) := (bc_ BK269.out 2).trans rfl; have hcz5_3 : w4.cell? ⟨gb269, 3, none⟩ = some (.int .i64 a0_3) := (bc_ BK269.out 3).trans rfl; have hcz5_4 : w4.cell? ⟨gb269, 4, none⟩ = some (.int .i64 a0_4) := (bc_ BK269.out 4).trans rfl; have hcz5_5 : w4.cell? ⟨gb269, 5, none⟩ = some (.int .i64 a0_5) := (bc_ BK269.out 5).trans rfl; have hcz5_6 : w4.cell? ⟨gb269, 6, none⟩ = some (.int .i64 a0_6) := (bc_ BK269.out 6).trans rfl; have hcz5_7 : w4.cell? ⟨gb269, 7, none⟩ = some (.slice A0_7 l0_7.length c0_7) := (bc_ BK269.out 7).trans rfl; have hfz5_0 := bf_ BK269.out 0; have hfz5_1 := bf_ BK269.out 1; have hfz5_2 := bf_ BK269.out 2; have hfz5_3 := bf_ BK269.out 3; have hfz5_4 := bf_ BK269.out 4; have hfz5_5 := bf_ BK269.out 5; have hfz5_6 := bf_ BK269.out 6; have hfz5_7 := bf_ BK269.out 7) | ((with_reducible refine gc_ (f := 52) rfl ?_); refine gl_ (some 9) Try.func52 #[.int .i64 a0_4, .int .i64 1, .int .i64 64] ?_; (with_reducible refine (impl_within.calls a0_4 1 64 t270 _ A3.out).mono ?_); rintro e w' ⟨rfl, ⟨nd, rfl⟩⟩; refine ⟨_, rfl, ?_⟩))
  go_ret
  exact ⟨by first | rfl | (simp [errW_none, errW_some] <;> rfl) | (simp [*, errW_none, errW_some] <;> rfl), by repeat (first | (with_reducible first | exact HB.out | apply ba_ | apply bd_ | apply be_ | refine bs_ ?_ GE269.out) | exact HB.out)⟩
 rw [if_neg c2] at H
 have c2b0 : (a0_0 == 3) = false := beq_eq_false_iff_ne.mpr c2
 have c2b1 : (a0_0 != 3) = true := bne_iff_ne.mpr c2
 by_cases c6 : a0_0 = 6
 rotate_left
 ·rw [if_neg c6] at H
  have c6b0 : (a0_0 == 6) = false := beq_eq_false_iff_ne.mpr c6
  have c6b1 : (a0_0 != 6) = true := bne_iff_ne.mpr c6
  obtain rfl := Option.some.inj H
  go_enter Try.func81, Try.ntmps81
  go_wp2_with (first | ((with_reducible refine gd_ (N := 1) rfl ?_); refine by_ 1 (cs := #[.int .i64 a0_0, .int .i64 a0_1, .int .i64 a0_2, .int .i64 a0_3, .int .i64 a0_4, .int .i64 a0_5, .int .i64 a0_6, .slice A0_7 l0_7.length c0_7]) (t := 38) ?_; intro gb269 hg w10 hbox hb; have n0_ := A_.mk (bt_ (beY HB.out) hb); have n1_ := A_.mk (hbox); have n2_ := A_.mk ((by rw [hg]; exact (bz_ (beY HB.out)) : w.heap.size ≤ gb269)); have n3_ := A_.mk ((by rw [hg]; exact (bz_ (beY HB.out)) : w.heap.size ≤ gb269)); clear HB; have HB := n0_; have BK269 := n1_; have GW269 := n2_; have GE269 := n3_; clear n0_ n1_ n2_ n3_ hb hbox hg; have hcz11_0 : w10.cell? ⟨gb269, 0, none⟩ = some (.int .i64 a0_0) := (bc_ BK269.out 0).trans rfl; have hcz11_1 : w10.cell? ⟨gb269, 1, none⟩ = some (.int .i64 a0_1) := (bc_ BK269.out 1).trans rfl; have hcz11_2 : w10.cell? ⟨gb269, 2, none⟩ = some (.int .i64 a0_2) := (bc_ BK269.out 2).trans rfl; have hcz11_3 : w10.cell? ⟨gb269, 3, none⟩ = some (.int .i64 a0_3) := (bc_ BK269.out 3).trans rfl; have hcz11_4 : w10.cell? ⟨gb269, 4, none⟩ = some (.int .i64 a0_4) := (bc_ BK269.out 4).trans rfl; have hcz11_5 : w10.cell? ⟨gb269, 5, none⟩ = some (.int .i64 a0_5) := (bc_ BK269.out 5).trans rfl; have hcz11_6 : w10.cell? ⟨gb269, 6, none⟩ = some (.int .i64 a0_6) := (bc_ BK269.out 6).trans rfl; have hcz11_7 : w10.cell? ⟨gb269, 7, none⟩ = some (.slice A0_7 l0_7.length c0_7) := (bc_ BK269.out 7).trans rfl; have hfz11_0 := bf_ BK269.out 0; have hfz11_1 := bf_ BK269.out 1; have hfz11_2 := bf_ BK269.out 2; have hfz11_3 := bf_ BK269.out 3; have hfz11_4 := bf_ BK269.out 4; have hfz11_5 := bf_ BK269.out 5; have hfz11_6 := bf_ BK269.out 6; have hfz11_7 := bf_ BK269.out 7))
  go_ret
  exact ⟨by first | rfl | (simp [errW_none, errW_some] <;> rfl) | (simp [*, errW_none, errW_some] <;> rfl), by repeat (first | (with_reducible first | exact HB.out | apply ba_ | apply bd_ | apply be_ | refine bs_ ?_ GE269.out) | exact HB.out)⟩
 rw [if_pos c6] at H
 have c6b0 : (a0_0 == 6) = true := beq_iff_eq.mpr c6
 have c6b1 : (a0_0 != 6) = false := bne_eq_false_iff_eq.mpr c6
 clear c6
 replace H := ob_ H
 obtain ⟨t271, A70, H⟩ := H
 have A7 := A_.mk A70
 clear A70
 obtain rfl := Option.some.inj H
 go_enter Try.func81, Try.ntmps81
 go_wp2_with (first | ((with_reducible refine gd_ (N := 1) rfl ?_); refine by_ 1 (cs := #[.int .i64 a0_0, .int .i64 a0_1, .int .i64 a0_2, .int .i64 a0_3, .int .i64 a0_4, .int .i64 a0_5, .int .i64 a0_6, .slice A0_7 l0_7.length c0_7]) (t := 38) ?_; intro gb269 hg w8 hbox hb; have n0_ := A_.mk (bt_ (beY HB.out) hb); have n1_ := A_.mk (hbox); have n2_ := A_.mk ((by rw [hg]; exact (bz_ (beY HB.out)) : w.heap.size ≤ gb269)); have n3_ := A_.mk ((by rw [hg]; exact (bz_ (beY HB.out)) : w.heap.size ≤ gb269)); clear HB; have HB := n0_; have BK269 := n1_; have GW269 := n2_; have GE269 := n3_; clear n0_ n1_ n2_ n3_ hb hbox hg; have hcz9_0 : w8.cell? ⟨gb269, 0, none⟩ = some (.int .i64 a0_0) := (bc_ BK269.out 0).trans rfl; have hcz9_1 : w8.cell? ⟨gb269, 1, none⟩ = some (.int .i64 a0_1) := (bc_ BK269.out 1).trans rfl; have hcz9_2 : w8.cell? ⟨gb269, 2, none⟩ = some (.int .i64 a0_2) := (bc_ BK269.out 2).trans rfl; have hcz9_3 : w8.cell? ⟨gb269, 3, none⟩ = some (.int .i64 a0_3) := (bc_ BK269.out 3).trans rfl; have hcz9_4 : w8.cell? ⟨gb269, 4, none⟩ = some (.int .i64 a0_4) := (bc_ BK269.out 4).trans rfl; have hcz9_5 : w8.cell? ⟨gb269, 5, none⟩ = some (.int .i64 a0_5) := (bc_ BK269.out 5).trans rfl; have hcz9_6 : w8.cell? ⟨gb269, 6, none⟩ = some (.int .i64 a0_6) := (bc_ BK269.out 6).trans rfl; have hcz9_7 : w8.cell? ⟨gb269, 7, none⟩ = some (.slice A0_7 l0_7.length c0_7) := (bc_ BK269.out 7).trans rfl; have hfz9_0 := bf_ BK269.out 0; have hfz9_1 := bf_ BK269.out 1; have hfz9_2 := bf_ BK269.out 2; have hfz9_3 := bf_ BK269.out 3; have hfz9_4 := bf_ BK269.out 4; have hfz9_5 := bf_ BK269.out 5; have hfz9_6 := bf_ BK269.out 6; have hfz9_7 := bf_ BK269.out 7) | ((with_reducible refine gc_ (f := 52) rfl ?_); refine gl_ (some 14) Try.func52 #[.int .i64 a0_4, .int .i64 0, .int .i64 64] ?_; (with_reducible refine (impl_within.calls a0_4 0 64 t271 _ A7.out).mono ?_); rintro e w' ⟨rfl, ⟨nd, rfl⟩⟩; refine ⟨_, rfl, ?_⟩))
 go_ret
 exact ⟨by first | rfl | (simp [errW_none, errW_some] <;> rfl) | (simp [*, errW_none, errW_some] <;> rfl), by repeat (first | (with_reducible first | exact HB.out | apply ba_ | apply bd_ | apply be_ | refine bs_ ?_ GE269.out) | exact HB.out)⟩
/-! ### impl_isWord: function 98 -/
def impl_isWord.f (a0 : Int) : Option (Bool) := (impl_within.f a0 0 65535).bind fun t272 => (some t272)
set_option maxHeartbeats 8000000 in
set_option maxRecDepth 100000 in
theorem impl_isWord.calls (a0 : Int) (r : Bool) (w : World) (h : impl_isWord.f a0 = some r) :
  Calls Try.prog 98 #[.int .i64 a0] w fun e w' => e = .returned (.bool r) ∧ Drawn0 w w' := by
 have H : ((impl_within.f a0 0 65535).bind fun t272 => (some t272)) = some r := h
 clear h
 replace H := ob_ H
 obtain ⟨t272, A20, H⟩ := H
 have A2 := A_.mk A20
 clear A20
 obtain rfl := Option.some.inj H
 go_enter Try.func98, Try.ntmps98
 go_wp2_with (first | ((with_reducible refine gc_ (f := 52) rfl ?_); refine gl_ (some 4) Try.func52 #[.int .i64 a0, .int .i64 0, .int .i64 65535] ?_; (with_reducible refine (impl_within.calls a0 0 65535 t272 _ A2.out).mono ?_); rintro e w' ⟨rfl, ⟨nd, rfl⟩⟩; refine ⟨_, rfl, ?_⟩))
 go_ret
 exact ⟨by first | rfl | (simp; done) | (simp [*]; done), by repeat (first | exact Drawn0.refl _ | apply Drawn0.step)⟩

/-! ### impl_Packet_dataOk_1: function 97 -/
def impl_Packet_dataOk_1.f (a0 : Int) : Option (Bool) := (impl_isWord.f a0).bind fun t273 => (some (!t273))
set_option maxHeartbeats 8000000 in
set_option maxRecDepth 100000 in
theorem impl_Packet_dataOk_1.calls (a0 : Int) (r : Bool) (w : World) (h : impl_Packet_dataOk_1.f a0 = some r) :
  Calls Try.prog 97 #[.int .i64 a0] w fun e w' => e = .returned (.bool r) ∧ Drawn0 w w' := by
 have H : ((impl_isWord.f a0).bind fun t273 => (some (!t273))) = some r := h
 clear h
 replace H := ob_ H
 obtain ⟨t273, A20, H⟩ := H
 have A2 := A_.mk A20
 clear A20
 obtain rfl := Option.some.inj H
 go_enter Try.func97, Try.ntmps97
 go_wp2_with (first | ((with_reducible refine gc_ (f := 98) rfl ?_); refine gl_ (some 4) Try.func98 #[.int .i64 a0] ?_; (with_reducible refine (impl_isWord.calls a0 t273 _ A2.out).mono ?_); rintro e w' ⟨rfl, ⟨nd, rfl⟩⟩; refine ⟨_, rfl, ?_⟩))
 go_ret
 exact ⟨by first | rfl | (simp; done) | (simp [*]; done), by repeat (first | exact Drawn0.refl _ | apply Drawn0.step)⟩

/-! ### slices_IndexFunc_int_int__impl_Packet__dataOk_1: function 100 -/
def slices_IndexFunc_int_int__impl_Packet__dataOk_1.l0 : Nat → List Int → Int → Int → Option (Int)
 | 0, _, _, _ => none
 | k + 1, x0, x7, x8 => if x8 < x7 then (if 0 ≤ x8 then (if x8 < (x0.length : Int) then ((impl_Packet_dataOk_1.f (rd x0 x8)).bind fun t275 => (if t275 = true then (some x8) else (slices_IndexFunc_int_int__impl_Packet__dataOk_1.l0 k x0 x7 (wrap64 (x8 + 1))))) else (none)) else (none)) else (some (-1))
def slices_IndexFunc_int_int__impl_Packet__dataOk_1.f (k : Nat) (l0 : List Int)  : Option (Int) := slices_IndexFunc_int_int__impl_Packet__dataOk_1.l0 k l0 (l0.length : Int) 0
set_option maxHeartbeats 8000000 in
set_option maxRecDepth 100000 in
theorem slices_IndexFunc_int_int__impl_Packet__dataOk_1.calls (k : Nat) (A0 : Option Addr) (c0 : Nat) (l0 : List Int)  (r : Int) (w : World) (hr0 : Kd.C (Kd.int .i64) w A0 l0.length l0) (hc0 : l0.length ≤ c0) (h : slices_IndexFunc_int_int__impl_Packet__dataOk_1.f k l0 = some r) :
  Calls Try.prog 100 #[.slice A0 l0.length c0, .func (.func 97) #[] #[]] w fun e w' => e = .returned (.int .i64 r) ∧ Drawn0 w w' := by
 have HR0 := A_.mk hr0
 have HC0 := A_.mk hc0
 clear hr0 hc0
 have H : (slices_IndexFunc_int_int__impl_Packet__dataOk_1.l0 k l0 (l0.length : Int) 0) = some r := h
 clear h
 have H' := A_.mk H
 clear H
 go_enter Try.func100, Try.ntmps100
 go_wp2
 go_loopg [8] k (fun kq v8 w' => ∃ (x8_1 : Int), v8 = .int .i64 x8_1 ∧ A_ (slices_IndexFunc_int_int__impl_Packet__dataOk_1.l0 kq l0 (l0.length : Int) x8_1 = some r) ∧ A_ (kq ≤ k) ∧ Drawn0 w w')
 case atStart => exact ⟨(0), (by first | rfl | (simp; done) | (simp [*]; done)), H', ⟨Nat.le_refl _⟩, by repeat (first | exact Drawn0.refl _ | apply Drawn0.step)⟩
 case round =>
  clear H'
  obtain ⟨x8_1, rfl, HA, HK1, ⟨m1, rfl⟩⟩ := hrel
  cases gk with
  | zero => exact absurd HA.out (by simp [slices_IndexFunc_int_int__impl_Packet__dataOk_1.l0])
  | succ k1 =>
   have H := HA.out
   clear HA
   simp only [slices_IndexFunc_int_int__impl_Packet__dataOk_1.l0] at H
   by_cases c3 : x8_1 < (l0.length : Int)
   rotate_left
   ·rw [if_neg c3] at H
    have c3b0 : decide (x8_1 < (l0.length : Int)) = false := decide_eq_false c3
    clear c3
    obtain rfl := Option.some.inj H
    go_wp2
    go_ret
    exact ⟨by first | rfl | (simp; done) | (simp [*]; done), by repeat (first | exact Drawn0.refl _ | apply Drawn0.step)⟩
   rw [if_pos c3] at H
   have c3b0 : decide (x8_1 < (l0.length : Int)) = true := decide_eq_true c3
   clear c3
   by_cases c4 : 0 ≤ x8_1
   rotate_left
   ·rw [if_neg c4] at H
    exact absurd H (by simp)
   rw [if_pos c4] at H
   have c4b0 : decide (0 ≤ x8_1) = true := decide_eq_true c4
   clear c4
   by_cases c5 : x8_1 < (l0.length : Int)
   rotate_left
   ·rw [if_neg c5] at H
    exact absurd H (by simp)
   rw [if_pos c5] at H
   have c5b0 : decide (x8_1 < (l0.length : Int)) = true := decide_eq_true c5
   clear c5
   replace H := ob_ H
   obtain ⟨t275, A60, H⟩ := H
   have A6 := A_.mk A60
   clear A60
   by_cases c7 : t275 = true
   ·subst c7
    have H1 : (some x8_1) = some r := by rw [if_pos rfl] at H; exact H
    clear H
    have H := H1
    clear H1
    obtain rfl := Option.some.inj H
    have p274 : 0 ≤ (x8_1 : Int) := od_
    have q274 : x8_1 < (l0.length : Int) := od_
    obtain ⟨ad274, e274, hx274_0⟩ := Kd.at_int HR0.out x8_1 p274 q274
    cases e274
    replace p274 := eq_true p274
    replace q274 := eq_true q274
    go_wp2_with (first | (go_at_call 97; (with_reducible refine (impl_Packet_dataOk_1.calls (rd l0 x8_1) true _ A6.out).mono ?_); rintro e w' ⟨rfl, ⟨nd, rfl⟩⟩))
    go_ret
    exact ⟨by first | rfl | (simp; done) | (simp [*]; done), by repeat (first | exact Drawn0.refl _ | apply Drawn0.step)⟩
   replace c7 := Bool.eq_false_iff.mpr c7
   subst c7
   have H1 : (slices_IndexFunc_int_int__impl_Packet__dataOk_1.l0 k1 l0 (l0.length : Int) (wrap64 (x8_1 + 1))) = some r := by rw [if_neg (show ¬ (false = true) by decide)] at H; exact H
   clear H
   have H := H1
   clear H1
   have H' := A_.mk H
   clear H
   have p274 : 0 ≤ (x8_1 : Int) := od_
   have q274 : x8_1 < (l0.length : Int) := od_
   obtain ⟨ad274, e274, hx274_0⟩ := Kd.at_int HR0.out x8_1 p274 q274
   cases e274
   replace p274 := eq_true p274
   replace q274 := eq_true q274
   go_wp2_with (first | (go_at_call 97; (with_reducible refine (impl_Packet_dataOk_1.calls (rd l0 x8_1) false _ A6.out).mono ?_); rintro e w' ⟨rfl, ⟨nd, rfl⟩⟩))
   go_roundg k1
   case measure => have := HK1.out; omega
   case rel => exact ⟨(wrap64 (x8_1 + 1)), (by first | rfl | (simp; done) | (simp [*]; done)), H', ⟨by have := HK1.out; omega⟩, by repeat (first | exact Drawn0.refl _ | apply Drawn0.step)⟩
/-! ### slices_ContainsFunc_int_int__impl_Packet__dataOk_1: function 94 -/
def slices_ContainsFunc_int_int__impl_Packet__dataOk_1.f (k : Nat) (l0 : List Int)  : Option (Bool) := (slices_IndexFunc_int_int__impl_Packet__dataOk_1.f k l0).bind fun t276 => (some (decide (t276 ≥ 0)))
set_option maxHeartbeats 8000000 in
set_option maxRecDepth 100000 in
theorem slices_ContainsFunc_int_int__impl_Packet__dataOk_1.calls (k : Nat) (A0 : Option Addr) (c0 : Nat) (l0 : List Int)  (r : Bool) (w : World) (hr0 : Kd.C (Kd.int .i64) w A0 l0.length l0) (hc0 : l0.length ≤ c0) (h : slices_ContainsFunc_int_int__impl_Packet__dataOk_1.f k l0 = some r) :
  Calls Try.prog 94 #[.slice A0 l0.length c0, .func (.func 97) #[] #[]] w fun e w' => e = .returned (.bool r) ∧ Drawn0 w w' := by
 have HR0 := A_.mk hr0
 have HC0 := A_.mk hc0
 clear hr0 hc0
 have H : ((slices_IndexFunc_int_int__impl_Packet__dataOk_1.f k l0).bind fun t276 => (some (decide (t276 ≥ 0)))) = some r := h
 clear h
 replace H := ob_ H
 obtain ⟨t276, A30, H⟩ := H
 have A3 := A_.mk A30
 clear A30
 obtain rfl := Option.some.inj H
 go_enter Try.func94, Try.ntmps94
 go_wp2_with (first | ((with_reducible refine gc_ (f := 100) rfl ?_); refine gl_ (some 7) Try.func100 #[.slice A0 l0.length c0, .func (.func 97) #[] #[]] ?_; (with_reducible refine (slices_IndexFunc_int_int__impl_Packet__dataOk_1.calls k _ _ l0  t276 _ ?side1 ?side2 A3.out).mono ?_); (case side1 => exact cY (HR0.out)); (case side2 => exact HC0.out); rintro e w' ⟨rfl, ⟨nd, rfl⟩⟩; refine ⟨_, rfl, ?_⟩))
 go_ret
 exact ⟨by first | rfl | (simp; done) | (simp [*]; done), by repeat (first | exact Drawn0.refl _ | apply Drawn0.step)⟩

end Go.Proofs.Ytlombfmebinjbaa.PFnExactPutPacket
