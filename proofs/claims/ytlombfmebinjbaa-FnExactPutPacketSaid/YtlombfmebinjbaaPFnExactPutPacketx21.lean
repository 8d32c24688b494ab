-- Written by a program of this session (wip/xp): not trusted, Lean checks it.
import Derived.Test.YtlombfmebinjbaaPFnExactPutPacketx0
import Derived.Test.YtlombfmebinjbaaPFnExactPutPacketx1
import Derived.Test.YtlombfmebinjbaaPFnExactPutPacketx12
import Derived.Test.YtlombfmebinjbaaPFnExactPutPacketx14
import Derived.Test.YtlombfmebinjbaaPFnExactPutPacketx17
import Derived.Test.YtlombfmebinjbaaPFnExactPutPacketx18
namespace Go.Proofs.Ytlombfmebinjbaa.PFnExactPutPacket
open Go.RowKit Go.Proofs.YtlombfmebinjbaaW.PrintWords Go.Proofs.YtlombfmebinjbaaW.PrintLast Go.Proofs.YtlombfmebinjbaaW.PrintMore
attribute [local go_sem] max2_int min2_int max_two min_two max_three min_three max_four min_four   -- for this text's walks alone
set_option linter.unusedVariables false
set_option linter.unusedSimpArgs false

/-! ### impl_CanSend: function 68, its calls in a row -/
def impl_CanSend.f (k : Nat) (l0_0 : List Int) (l0_1 : List Int) (a1_0 : Int) (a1_1 : Int) (a1_2 : Int) (a1_3 : Int) (a1_4 : Int) (a1_5 : Int) (a1_6 : Int) (l1_7 : List Int) : Option ((Bool)) := ((impl_CreditsOk.f k l0_0 l0_1).bind fun t1 => (if t1 = true then ((impl_IsPacket.f k a1_0 a1_1 a1_2 a1_3 a1_4 a1_5 a1_6 l1_7).bind fun t2 => (if t2 = true then ((impl_ClassOf.f k a1_0 a1_1 a1_2 a1_3 a1_4 a1_5 a1_6 l1_7).bind fun t3 => (if 0 ≤ t3 then (if t3 < (l0_0.length : Int) then (if 1 ≤ (rd l0_0 t3) then (if 0 ≤ t3 then (if t3 < (l0_1.length : Int) then ((impl_PacketUnits.f k a1_0 a1_1 a1_2 a1_3 a1_4 a1_5 a1_6 l1_7).bind fun t4 => (if t4 ≤ (rd l0_1 t3) then (some (true)) else (some (false)))) else none) else none) else (some (false))) else none) else none)) else (some (false)))) else (some (false))))
set_option maxHeartbeats 8000000 in
set_option maxRecDepth 100000 in
theorem impl_CanSend.calls (k : Nat) (A0_0 : Option Addr) (c0_0 : Nat) (l0_0 : List Int) (A0_1 : Option Addr) (c0_1 : Nat) (l0_1 : List Int) (a1_0 : Int) (a1_1 : Int) (a1_2 : Int) (a1_3 : Int) (a1_4 : Int) (a1_5 : Int) (a1_6 : Int) (A1_7 : Option Addr) (c1_7 : Nat) (l1_7 : List Int) (r : Bool) (w : World) (hr0_0 : Kd.C (Kd.int .i64) w A0_0 l0_0.length l0_0) (hc0_0 : l0_0.length ≤ c0_0) (hr0_1 : Kd.C (Kd.int .i64) w A0_1 l0_1.length l0_1) (hc0_1 : l0_1.length ≤ c0_1) (hr1_7 : Kd.C (Kd.int .i64) w A1_7 l1_7.length l1_7) (hc1_7 : l1_7.length ≤ c1_7) (h : impl_CanSend.f k l0_0 l0_1 a1_0 a1_1 a1_2 a1_3 a1_4 a1_5 a1_6 l1_7 = some r) :
  Calls Try.prog 68 #[.agg #[.slice A0_0 l0_0.length c0_0, .slice A0_1 l0_1.length c0_1], .agg #[.int .i64 a1_0, .int .i64 a1_1, .int .i64 a1_2, .int .i64 a1_3, .int .i64 a1_4, .int .i64 a1_5, .int .i64 a1_6, .slice A1_7 l1_7.length c1_7]] w fun e w' => e = .returned (.bool r) ∧ Below w.heap.size w w' := by
 have HR0_0 := A_.mk hr0_0
 have HC0_0 := A_.mk hc0_0
 have HW0_0 := A_.mk hr0_0
 clear hr0_0 hc0_0
 have HR0_1 := A_.mk hr0_1
 have HC0_1 := A_.mk hc0_1
 have HW0_1 := A_.mk hr0_1
 clear hr0_1 hc0_1
 have HR1_7 := A_.mk hr1_7
 have HC1_7 := A_.mk hc1_7
 clear hr1_7 hc1_7
 have HB := A_.mk (Below.refl w.heap.size w)
 unfold impl_CanSend.f at h
 have H := h
 clear h
 replace H := oa_ H
 obtain ⟨t1, A3, H⟩ := H
 replace H := A_.mk H
 have hu30 := Try.underlying30
 have hu38 := Try.underlying38
 go_enter Try.func68, Try.ntmps68
 have HS := A_.mk (Nat.le_refl w.heap.size)
 go_wp2_with (first | ((with_reducible refine gd_ (N := 2) rfl ?_); refine by_ 2 (cs := #[.slice A0_0 l0_0.length c0_0, .slice A0_1 l0_1.length c0_1]) (t := 30) ?_; intro gb1_ hg w1_ hbox hb; replace HS := A_.mk (And.intro HS.out (show gb1_ = w.heap.size ∧ gb1_ < w1_.heap.size from ⟨hg, blk_lt hbox⟩)); replace HB := aHB HB hb; have BK1 := A_.mk hbox; clear hbox hb hg; have Q1 := blk2_ BK1.out) | ((with_reducible refine gd_ (N := 3) rfl ?_); refine by_ 3 (cs := #[.int .i64 a1_0, .int .i64 a1_1, .int .i64 a1_2, .int .i64 a1_3, .int .i64 a1_4, .int .i64 a1_5, .int .i64 a1_6, .slice A1_7 l1_7.length c1_7]) (t := 38) ?_; intro gb2_ hg w2_ hbox hb; replace HS := A_.mk (And.intro HS.out (show gb2_ = w1_.heap.size ∧ gb2_ < w2_.heap.size from ⟨hg, blk_lt hbox⟩)); replace BK1 := aBb BK1 hb; replace HB := aHB HB hb; have BK2 := A_.mk hbox; clear hbox hb hg Q1; have Q1 := blk2_ BK1.out; have Q2 := blk8_ BK2.out))
 (with_reducible refine (impl_CreditsOk.calls k _ _ l0_0 _ _ l0_1 t1 _ (Kd.C_below HR0_0.out HB.out) HC0_0.out (Kd.C_below HR0_1.out HB.out) HC0_1.out A3.out).mono ?_)
 rintro e w3_ ⟨rfl, hb⟩
 replace HS := aHs HS hb.size
 replace BK1 := aBb BK1 hb
 replace BK2 := aBb BK2 hb
 replace HB := aHB HB hb
 clear hb  Q1 Q2
 have Q1 := blk2_ BK1.out
 have Q2 := blk8_ BK2.out
 replace H := H.out
 by_cases hc1_ : t1 = true
 case neg =>
  rw [if_neg hc1_] at H
  replace hc1_ := eq_false_of_ne_true hc1_
  subst hc1_
  replace H := Option.some.inj H
  subst H
  go_wp2
  go_ret
  exact ⟨rfl, HB.out⟩
 rw [if_pos hc1_] at H
 subst hc1_
 replace H := oa_ H
 obtain ⟨t2, A4, H⟩ := H
 replace H := A_.mk H
 go_wp2_with (fail)
 (with_reducible refine (impl_IsPacket.calls k a1_0 a1_1 a1_2 a1_3 a1_4 a1_5 a1_6 _ _ l1_7 t2 _ (Kd.C_below HR1_7.out HB.out) HC1_7.out A4.out).mono ?_)
 rintro e w4_ ⟨rfl, hb⟩
 replace HS := aHs HS hb.size
 replace BK1 := aBb BK1 hb
 replace BK2 := aBb BK2 hb
 replace HB := aHB HB hb
 clear hb  Q1 Q2
 have Q1 := blk2_ BK1.out
 have Q2 := blk8_ BK2.out
 replace H := H.out
 by_cases hc2_ : t2 = true
 case neg =>
  rw [if_neg hc2_] at H
  replace hc2_ := eq_false_of_ne_true hc2_
  subst hc2_
  replace H := Option.some.inj H
  subst H
  go_wp2
  go_ret
  exact ⟨rfl, HB.out⟩
 rw [if_pos hc2_] at H
 subst hc2_
 replace H := oa_ H
 obtain ⟨t3, A5, H⟩ := H
 by_cases hp6_ : 0 ≤ t3
 case neg => rw [if_neg hp6_] at H; cases H
 rw [if_pos hp6_] at H
 by_cases hq6_ : t3 < (l0_0.length : Int)
 case neg => rw [if_neg hq6_] at H; cases H
 rw [if_pos hq6_] at H
 have EB6 := A_.mk (And.intro hp6_ hq6_)
 obtain ⟨ad6_, eA_, hx0_⟩ := Kd.at_int HW0_0.out t3 hp6_ hq6_
 subst eA_
 have HX6 := A_.mk hx0_
 clear hx0_
 replace hp6_ := eq_true hp6_
 replace hq6_ := eq_true hq6_
 by_cases hc3_ : 1 ≤ (rd l0_0 t3)
 case neg =>
  rw [if_neg hc3_] at H
  have hc3_b0 : decide (1 ≤ (rd l0_0 t3)) = false := decide_eq_false hc3_
  replace H := Option.some.inj H
  subst H
  go_wp2_with (fail)
  (with_reducible refine (impl_ClassOf.calls k a1_0 a1_1 a1_2 a1_3 a1_4 a1_5 a1_6 _ _ l1_7 t3 _ (Kd.C_below HR1_7.out HB.out) HC1_7.out A5.out).mono ?_)
  rintro e w5_ ⟨rfl, hb⟩
  replace HS := aHs HS hb.size
  replace BK1 := aBb BK1 hb
  replace BK2 := aBb BK2 hb
  replace HB := aHB HB hb
  clear hb  Q1 Q2
  have Q1 := blk2_ BK1.out
  have Q2 := blk8_ BK2.out
  go_wp2_with (fail)
  refine start_ (n := 17) (S := fun w' => (w'.cell? ⟨gb1_, 0, none⟩ = some (.slice (some ad6_) l0_0.length c0_0) ∧ w'.cell? ⟨gb1_, 1, none⟩ = some (.slice A0_1 l0_1.length c0_1)) ∧ (w'.cell? (ad6_.add (t3).toNat) = some (.int .i64 (rd l0_0 t3)))) (ds := []) #[F, F, F, F, F, F, F, F, F, F, F, F, F, F, F, F, F] (by kernel_rfl) rfl rfl ⟨blk2_ BK1.out, el1_ (below_drew HB.out) HX6.out⟩ (fun hHeld => ?_)
  clear Q1 Q2
  have hb := below_drew (Below.refl w5_.heap.size w5_)
  replace HS := aHs HS hb.size
  replace BK1 := aBb BK1 hb
  replace BK2 := aBb BK2 hb
  replace HB := aHB HB hb
  clear hb
  generalize w5_.drew = w9d_ at BK1 BK2 HB HS hHeld ⊢
  refine pd_ (i := 0) (N := some 16) #[T, F, F, F, F, F, F, F, F, F, F, F, F, F, F, F, F] rfl ?_
  refine tl_ (i := 1) (N := some 17) #[T, T, F, F, F, F, F, F, F, F, F, F, F, F, F, F, F] rfl hHeld ?_
  refine pd_ (i := 2) (N := some 18) #[T, T, T, F, F, F, F, F, F, F, F, F, F, F, F, F, F] rfl ?_
  refine pd_ (i := 3) (N := some 19) #[T, T, T, T, F, F, F, F, F, F, F, F, F, F, F, F, F] rfl ?_
  refine tl_ (i := 4) (N := some 20) #[T, T, T, T, T, F, F, F, F, F, F, F, F, F, F, F, F] rfl hHeld ?_
  refine pd_ (i := 5) (N := some 21) #[T, T, T, T, T, T, F, F, F, F, F, F, F, F, F, F, F] rfl ?_
  refine pd_ (i := 6) (N := some 22) #[T, T, T, T, T, T, T, F, F, F, F, F, F, F, F, F, F] rfl ?_
  refine pw_ (i := 7) (N := some 23) #[T, T, T, T, T, T, T, T, F, F, F, F, F, F, F, F, F] rfl ?_
  refine pw_ (i := 8) (N := some 24) #[T, T, T, T, T, T, T, T, T, F, F, F, F, F, F, F, F] rfl ?_
  refine pw_ (i := 9) (N := some 25) #[T, T, T, T, T, T, T, T, T, T, F, F, F, F, F, F, F] rfl ?_
  refine pw_ (i := 10) (N := some 26) #[T, T, T, T, T, T, T, T, T, T, T, F, F, F, F, F, F] rfl ?_
  refine pw_ (i := 11) (N := some 27) #[T, T, T, T, T, T, T, T, T, T, T, T, F, F, F, F, F] rfl ?_
  refine pw_ (i := 12) (N := some 28) #[T, T, T, T, T, T, T, T, T, T, T, T, T, F, F, F, F] rfl ?_
  refine pw_ (i := 13) (N := some 29) #[T, T, T, T, T, T, T, T, T, T, T, T, T, T, F, F, F] rfl ?_
  refine pw_ (i := 14) (N := some 30) #[T, T, T, T, T, T, T, T, T, T, T, T, T, T, T, F, F] rfl ?_
  refine pd_ (i := 15) (N := some 31) #[T, T, T, T, T, T, T, T, T, T, T, T, T, T, T, T, F] rfl ?_
  refine pd_ (i := 16) (N := some 4) #[T, T, T, T, T, T, T, T, T, T, T, T, T, T, T, T, T] rfl ?_
  refine done_ (by kernel_rfl) ?_
  have Q1 := blk2_ BK1.out
  have Q2 := blk8_ BK2.out
  go_wp2
  go_ret
  exact ⟨rfl, HB.out⟩
 rw [if_pos hc3_] at H
 have hc3_b0 : decide (1 ≤ (rd l0_0 t3)) = true := decide_eq_true hc3_
 by_cases hp7_ : 0 ≤ t3
 case neg => rw [if_neg hp7_] at H; cases H
 rw [if_pos hp7_] at H
 by_cases hq7_ : t3 < (l0_1.length : Int)
 case neg => rw [if_neg hq7_] at H; cases H
 rw [if_pos hq7_] at H
 have EB7 := A_.mk (And.intro hp7_ hq7_)
 obtain ⟨ad7_, eA_, hx0_⟩ := Kd.at_int HW0_1.out t3 hp7_ hq7_
 subst eA_
 have HX7 := A_.mk hx0_
 clear hx0_
 replace hp7_ := eq_true hp7_
 replace hq7_ := eq_true hq7_
 replace H := oa_ H
 obtain ⟨t4, A8, H⟩ := H
 by_cases hc4_ : t4 ≤ (rd l0_1 t3)
 case pos =>
  rw [if_pos hc4_] at H
  have hc4_b0 : decide (t4 ≤ (rd l0_1 t3)) = true := decide_eq_true hc4_
  replace H := Option.some.inj H
  subst H
  go_wp2_with (fail)
  (with_reducible refine (impl_ClassOf.calls k a1_0 a1_1 a1_2 a1_3 a1_4 a1_5 a1_6 _ _ l1_7 t3 _ (Kd.C_below HR1_7.out HB.out) HC1_7.out A5.out).mono ?_)
  rintro e w5_ ⟨rfl, hb⟩
  replace HS := aHs HS hb.size
  replace BK1 := aBb BK1 hb
  replace BK2 := aBb BK2 hb
  replace HB := aHB HB hb
  clear hb  Q1 Q2
  have Q1 := blk2_ BK1.out
  have Q2 := blk8_ BK2.out
  go_wp2_with (fail)
  refine start_ (n := 17) (S := fun w' => (w'.cell? ⟨gb1_, 0, none⟩ = some (.slice (some ad6_) l0_0.length c0_0) ∧ w'.cell? ⟨gb1_, 1, none⟩ = some (.slice (some ad7_) l0_1.length c0_1)) ∧ (w'.cell? ⟨gb2_, 0, none⟩ = some (.int .i64 a1_0) ∧ w'.cell? ⟨gb2_, 1, none⟩ = some (.int .i64 a1_1) ∧ w'.cell? ⟨gb2_, 2, none⟩ = some (.int .i64 a1_2) ∧ w'.cell? ⟨gb2_, 3, none⟩ = some (.int .i64 a1_3) ∧ w'.cell? ⟨gb2_, 4, none⟩ = some (.int .i64 a1_4) ∧ w'.cell? ⟨gb2_, 5, none⟩ = some (.int .i64 a1_5) ∧ w'.cell? ⟨gb2_, 6, none⟩ = some (.int .i64 a1_6) ∧ w'.cell? ⟨gb2_, 7, none⟩ = some (.slice A1_7 l1_7.length c1_7)) ∧ (w'.cell? (ad6_.add (t3).toNat) = some (.int .i64 (rd l0_0 t3))) ∧ (w'.cell? (ad7_.add (t3).toNat) = some (.int .i64 (rd l0_1 t3)))) (ds := []) #[F, F, F, F, F, F, F, F, F, F, F, F, F, F, F, F, F] (by kernel_rfl) rfl rfl ⟨blk2_ BK1.out, blk8_ BK2.out, el1_ (below_drew HB.out) HX6.out, el1_ (below_drew HB.out) HX7.out⟩ (fun hHeld => ?_)
  clear Q1 Q2
  have hb := below_drew (Below.refl w5_.heap.size w5_)
  replace HS := aHs HS hb.size
  replace BK1 := aBb BK1 hb
  replace BK2 := aBb BK2 hb
  replace HB := aHB HB hb
  clear hb
  generalize w5_.drew = w10d_ at BK1 BK2 HB HS hHeld ⊢
  refine pd_ (i := 0) (N := some 16) #[T, F, F, F, F, F, F, F, F, F, F, F, F, F, F, F, F] rfl ?_
  refine tl_ (i := 1) (N := some 17) #[T, T, F, F, F, F, F, F, F, F, F, F, F, F, F, F, F] rfl hHeld ?_
  refine pd_ (i := 2) (N := some 18) #[T, T, T, F, F, F, F, F, F, F, F, F, F, F, F, F, F] rfl ?_
  refine pd_ (i := 3) (N := some 19) #[T, T, T, T, F, F, F, F, F, F, F, F, F, F, F, F, F] rfl ?_
  refine tl_ (i := 4) (N := some 20) #[T, T, T, T, T, F, F, F, F, F, F, F, F, F, F, F, F] rfl hHeld ?_
  refine pd_ (i := 5) (N := some 21) #[T, T, T, T, T, T, F, F, F, F, F, F, F, F, F, F, F] rfl ?_
  refine pd_ (i := 6) (N := some 22) #[T, T, T, T, T, T, T, F, F, F, F, F, F, F, F, F, F] rfl ?_
  refine pd_ (i := 7) (N := some 23) #[T, T, T, T, T, T, T, T, F, F, F, F, F, F, F, F, F] rfl ?_
  refine tl_ (i := 8) (N := some 24) #[T, T, T, T, T, T, T, T, T, F, F, F, F, F, F, F, F] rfl hHeld ?_
  refine pd_ (i := 9) (N := some 25) #[T, T, T, T, T, T, T, T, T, T, F, F, F, F, F, F, F] rfl ?_
  refine pd_ (i := 10) (N := some 26) #[T, T, T, T, T, T, T, T, T, T, T, F, F, F, F, F, F] rfl ?_
  refine tl_ (i := 11) (N := some 27) #[T, T, T, T, T, T, T, T, T, T, T, T, F, F, F, F, F] rfl hHeld ?_
  refine tl_ (i := 12) (N := some 28) #[T, T, T, T, T, T, T, T, T, T, T, T, T, F, F, F, F] rfl hHeld ?_
  refine on_ (i := 13) (N := some 29) #[T, T, T, T, T, T, T, T, T, T, T, T, T, T, F, F, F] rfl (fun K hK => ?_)
  refine gz_ Try.func45 #[.agg #[.int .i64 a1_0, .int .i64 a1_1, .int .i64 a1_2, .int .i64 a1_3, .int .i64 a1_4, .int .i64 a1_5, .int .i64 a1_6, .slice A1_7 l1_7.length c1_7]] ?_
  with_reducible refine (impl_PacketUnits.calls k a1_0 a1_1 a1_2 a1_3 a1_4 a1_5 a1_6 _ _ l1_7 t4 _ (Kd.C_below HR1_7.out HB.out) HC1_7.out A8.out).mono ?_
  rintro e w8_ ⟨rfl, hb⟩
  refine ⟨_, rfl, ?_⟩
  replace HS := aHs HS hb.size
  replace BK1 := aBb BK1 hb
  replace BK2 := aBb BK2 hb
  replace HB := aHB HB hb
  clear hb 
  refine hK.out _ _ ⟨blk2_ BK1.out, blk8_ BK2.out, el1_ HB.out HX6.out, el1_ HB.out HX7.out⟩ (fun hHeld => ?_)
  clear hK K
  refine nm_ ?_
  refine pd_ (i := 14) (N := some 30) #[T, T, T, T, T, T, T, T, T, T, T, T, T, T, T, F, F] rfl ?_
  refine pd_ (i := 15) (N := some 31) #[T, T, T, T, T, T, T, T, T, T, T, T, T, T, T, T, F] rfl ?_
  refine pd_ (i := 16) (N := some 4) #[T, T, T, T, T, T, T, T, T, T, T, T, T, T, T, T, T] rfl ?_
  refine done_ (by kernel_rfl) ?_
  have Q1 := blk2_ BK1.out
  have Q2 := blk8_ BK2.out
  go_wp2
  go_ret
  exact ⟨rfl, HB.out⟩
 rw [if_neg hc4_] at H
 have hc4_b0 : decide (t4 ≤ (rd l0_1 t3)) = false := decide_eq_false hc4_
 replace H := Option.some.inj H
 subst H
 go_wp2_with (fail)
 (with_reducible refine (impl_ClassOf.calls k a1_0 a1_1 a1_2 a1_3 a1_4 a1_5 a1_6 _ _ l1_7 t3 _ (Kd.C_below HR1_7.out HB.out) HC1_7.out A5.out).mono ?_)
 rintro e w5_ ⟨rfl, hb⟩
 replace HS := aHs HS hb.size
 replace BK1 := aBb BK1 hb
 replace BK2 := aBb BK2 hb
 replace HB := aHB HB hb
 clear hb  Q1 Q2
 have Q1 := blk2_ BK1.out
 have Q2 := blk8_ BK2.out
 go_wp2_with (fail)
 refine start_ (n := 17) (S := fun w' => (w'.cell? ⟨gb1_, 0, none⟩ = some (.slice (some ad6_) l0_0.length c0_0) ∧ w'.cell? ⟨gb1_, 1, none⟩ = some (.slice (some ad7_) l0_1.length c0_1)) ∧ (w'.cell? ⟨gb2_, 0, none⟩ = some (.int .i64 a1_0) ∧ w'.cell? ⟨gb2_, 1, none⟩ = some (.int .i64 a1_1) ∧ w'.cell? ⟨gb2_, 2, none⟩ = some (.int .i64 a1_2) ∧ w'.cell? ⟨gb2_, 3, none⟩ = some (.int .i64 a1_3) ∧ w'.cell? ⟨gb2_, 4, none⟩ = some (.int .i64 a1_4) ∧ w'.cell? ⟨gb2_, 5, none⟩ = some (.int .i64 a1_5) ∧ w'.cell? ⟨gb2_, 6, none⟩ = some (.int .i64 a1_6) ∧ w'.cell? ⟨gb2_, 7, none⟩ = some (.slice A1_7 l1_7.length c1_7)) ∧ (w'.cell? (ad6_.add (t3).toNat) = some (.int .i64 (rd l0_0 t3))) ∧ (w'.cell? (ad7_.add (t3).toNat) = some (.int .i64 (rd l0_1 t3)))) (ds := []) #[F, F, F, F, F, F, F, F, F, F, F, F, F, F, F, F, F] (by kernel_rfl) rfl rfl ⟨blk2_ BK1.out, blk8_ BK2.out, el1_ (below_drew HB.out) HX6.out, el1_ (below_drew HB.out) HX7.out⟩ (fun hHeld => ?_)
 clear Q1 Q2
 have hb := below_drew (Below.refl w5_.heap.size w5_)
 replace HS := aHs HS hb.size
 replace BK1 := aBb BK1 hb
 replace BK2 := aBb BK2 hb
 replace HB := aHB HB hb
 clear hb
 generalize w5_.drew = w11d_ at BK1 BK2 HB HS hHeld ⊢
 refine pd_ (i := 0) (N := some 16) #[T, F, F, F, F, F, F, F, F, F, F, F, F, F, F, F, F] rfl ?_
 refine tl_ (i := 1) (N := some 17) #[T, T, F, F, F, F, F, F, F, F, F, F, F, F, F, F, F] rfl hHeld ?_
 refine pd_ (i := 2) (N := some 18) #[T, T, T, F, F, F, F, F, F, F, F, F, F, F, F, F, F] rfl ?_
 refine pd_ (i := 3) (N := some 19) #[T, T, T, T, F, F, F, F, F, F, F, F, F, F, F, F, F] rfl ?_
 refine tl_ (i := 4) (N := some 20) #[T, T, T, T, T, F, F, F, F, F, F, F, F, F, F, F, F] rfl hHeld ?_
 refine pd_ (i := 5) (N := some 21) #[T, T, T, T, T, T, F, F, F, F, F, F, F, F, F, F, F] rfl ?_
 refine pd_ (i := 6) (N := some 22) #[T, T, T, T, T, T, T, F, F, F, F, F, F, F, F, F, F] rfl ?_
 refine pd_ (i := 7) (N := some 23) #[T, T, T, T, T, T, T, T, F, F, F, F, F, F, F, F, F] rfl ?_
 refine tl_ (i := 8) (N := some 24) #[T, T, T, T, T, T, T, T, T, F, F, F, F, F, F, F, F] rfl hHeld ?_
 refine pd_ (i := 9) (N := some 25) #[T, T, T, T, T, T, T, T, T, T, F, F, F, F, F, F, F] rfl ?_
 refine pd_ (i := 10) (N := some 26) #[T, T, T, T, T, T, T, T, T, T, T, F, F, F, F, F, F] rfl ?_
 refine tl_ (i := 11) (N := some 27) #[T, T, T, T, T, T, T, T, T, T, T, T, F, F, F, F, F] rfl hHeld ?_
 refine tl_ (i := 12) (N := some 28) #[T, T, T, T, T, T, T, T, T, T, T, T, T, F, F, F, F] rfl hHeld ?_
 refine on_ (i := 13) (N := some 29) #[T, T, T, T, T, T, T, T, T, T, T, T, T, T, F, F, F] rfl (fun K hK => ?_)
 refine gz_ Try.func45 #[.agg #[.int .i64 a1_0, .int .i64 a1_1, .int .i64 a1_2, .int .i64 a1_3, .int .i64 a1_4, .int .i64 a1_5, .int .i64 a1_6, .slice A1_7 l1_7.length c1_7]] ?_
 with_reducible refine (impl_PacketUnits.calls k a1_0 a1_1 a1_2 a1_3 a1_4 a1_5 a1_6 _ _ l1_7 t4 _ (Kd.C_below HR1_7.out HB.out) HC1_7.out A8.out).mono ?_
 rintro e w8_ ⟨rfl, hb⟩
 refine ⟨_, rfl, ?_⟩
 replace HS := aHs HS hb.size
 replace BK1 := aBb BK1 hb
 replace BK2 := aBb BK2 hb
 replace HB := aHB HB hb
 clear hb 
 refine hK.out _ _ ⟨blk2_ BK1.out, blk8_ BK2.out, el1_ HB.out HX6.out, el1_ HB.out HX7.out⟩ (fun hHeld => ?_)
 clear hK K
 refine nm_ ?_
 refine pd_ (i := 14) (N := some 30) #[T, T, T, T, T, T, T, T, T, T, T, T, T, T, T, F, F] rfl ?_
 refine pd_ (i := 15) (N := some 31) #[T, T, T, T, T, T, T, T, T, T, T, T, T, T, T, T, F] rfl ?_
 refine pd_ (i := 16) (N := some 4) #[T, T, T, T, T, T, T, T, T, T, T, T, T, T, T, T, T] rfl ?_
 refine done_ (by kernel_rfl) ?_
 have Q1 := blk2_ BK1.out
 have Q2 := blk8_ BK2.out
 go_wp2
 go_ret
 exact ⟨rfl, HB.out⟩
/-! ### impl_SpendCredits: function 69, its calls in a row -/
def impl_SpendCredits.f (k : Nat) (l0_0 : List Int) (l0_1 : List Int) (a1_0 : Int) (a1_1 : Int) (a1_2 : Int) (a1_3 : Int) (a1_4 : Int) (a1_5 : Int) (a1_6 : Int) (l1_7 : List Int) : Option ((List Int) × (List Int) × (Bool)) := ((impl_copyCredits.f l0_0 l0_1).bind fun ⟨t1, t2⟩ => ((impl_CanSend.f k l0_0 l0_1 a1_0 a1_1 a1_2 a1_3 a1_4 a1_5 a1_6 l1_7).bind fun t3 => (if t3 = true then ((impl_ClassOf.f k a1_0 a1_1 a1_2 a1_3 a1_4 a1_5 a1_6 l1_7).bind fun t4 => (if 0 ≤ t4 then (if t4 < (t1.length : Int) then (if 0 ≤ t4 then (if t4 < (t2.length : Int) then ((impl_PacketUnits.f k a1_0 a1_1 a1_2 a1_3 a1_4 a1_5 a1_6 l1_7).bind fun t6 => (some ((t1.set (t4).toNat (wrap64 ((rd t1 t4) - 1))), (t2.set (t4).toNat (wrap64 ((rd t2 t4) - t6))), true))) else none) else none) else none) else none)) else (some (t1, t2, false)))))
set_option maxHeartbeats 8000000 in
set_option maxRecDepth 100000 in
theorem impl_SpendCredits.calls (k : Nat) (A0_0 : Option Addr) (c0_0 : Nat) (l0_0 : List Int) (A0_1 : Option Addr) (c0_1 : Nat) (l0_1 : List Int) (a1_0 : Int) (a1_1 : Int) (a1_2 : Int) (a1_3 : Int) (a1_4 : Int) (a1_5 : Int) (a1_6 : Int) (A1_7 : Option Addr) (c1_7 : Nat) (l1_7 : List Int) (r1 : List Int) (r2 : List Int) (r3 : Bool) (w : World) (hr0_0 : Kd.C (Kd.int .i64) w A0_0 l0_0.length l0_0) (hc0_0 : l0_0.length ≤ c0_0) (hr0_1 : Kd.C (Kd.int .i64) w A0_1 l0_1.length l0_1) (hc0_1 : l0_1.length ≤ c0_1) (hr1_7 : Kd.C (Kd.int .i64) w A1_7 l1_7.length l1_7) (hc1_7 : l1_7.length ≤ c1_7) (h : impl_SpendCredits.f k l0_0 l0_1 a1_0 a1_1 a1_2 a1_3 a1_4 a1_5 a1_6 l1_7 = some (r1, r2, r3)) :
  Calls Try.prog 69 #[.agg #[.slice A0_0 l0_0.length c0_0, .slice A0_1 l0_1.length c0_1], .agg #[.int .i64 a1_0, .int .i64 a1_1, .int .i64 a1_2, .int .i64 a1_3, .int .i64 a1_4, .int .i64 a1_5, .int .i64 a1_6, .slice A1_7 l1_7.length c1_7]] w fun e w' => ∃ f_ : Nat → Nat, ∃ v0_ v1_ : Value, e = .returned (.tuple #[.agg #[v0_, v1_], .bool r3]) ∧ Kd.R (Kd.int .i64) 3 w' w.heap.size (fun k_ => f_ k_ = 0) v0_ r1 ∧ Kd.R (Kd.int .i64) 3 w' w.heap.size (fun k_ => f_ k_ = 1) v1_ r2 ∧ Below w.heap.size w w' := by
 have HR0_0 := A_.mk hr0_0
 have HC0_0 := A_.mk hc0_0
 clear hr0_0 hc0_0
 have HR0_1 := A_.mk hr0_1
 have HC0_1 := A_.mk hc0_1
 clear hr0_1 hc0_1
 have HR1_7 := A_.mk hr1_7
 have HC1_7 := A_.mk hc1_7
 clear hr1_7 hc1_7
 have HB := A_.mk (Below.refl w.heap.size w)
 unfold impl_SpendCredits.f at h
 have H := h
 clear h
 replace H := oa_ H
 obtain ⟨⟨t1, t2⟩, A4, H⟩ := H
 try dsimp only at H
 replace H := oa_ H
 obtain ⟨t3, A7, H⟩ := H
 replace H := A_.mk H
 have hu30 := Try.underlying30
 have hu38 := Try.underlying38
 go_enter Try.func69, Try.ntmps69
 have HS := A_.mk (Nat.le_refl w.heap.size)
 go_wp2_with (first | ((with_reducible refine gd_ (N := 2) rfl ?_); refine by_ 2 (cs := #[.slice A0_0 l0_0.length c0_0, .slice A0_1 l0_1.length c0_1]) (t := 30) ?_; intro gb1_ hg w1_ hbox hb; replace HS := A_.mk (And.intro HS.out (show gb1_ = w.heap.size ∧ gb1_ < w1_.heap.size from ⟨hg, blk_lt hbox⟩)); replace HB := aHB HB hb; have BK1 := A_.mk hbox; clear hbox hb hg; have Q1 := blk2_ BK1.out) | ((with_reducible refine gd_ (N := 3) rfl ?_); refine by_ 3 (cs := #[.int .i64 a1_0, .int .i64 a1_1, .int .i64 a1_2, .int .i64 a1_3, .int .i64 a1_4, .int .i64 a1_5, .int .i64 a1_6, .slice A1_7 l1_7.length c1_7]) (t := 38) ?_; intro gb2_ hg w2_ hbox hb; replace HS := A_.mk (And.intro HS.out (show gb2_ = w1_.heap.size ∧ gb2_ < w2_.heap.size from ⟨hg, blk_lt hbox⟩)); replace BK1 := aBb BK1 hb; replace HB := aHB HB hb; have BK2 := A_.mk hbox; clear hbox hb hg Q1; have Q1 := blk2_ BK1.out; have Q2 := blk8_ BK2.out) | ((with_reducible refine gd_ (N := 4) rfl ?_); refine by_ 4 (cs := #[.slice none 0 0, .slice none 0 0]) (t := 30) ?_; intro gb3_ hg w3_ hbox hb; replace HS := A_.mk (And.intro HS.out (show gb3_ = w2_.heap.size ∧ gb3_ < w3_.heap.size from ⟨hg, blk_lt hbox⟩)); replace BK1 := aBb BK1 hb; replace BK2 := aBb BK2 hb; replace HB := aHB HB hb; have BK3 := A_.mk hbox; clear hbox hb hg Q1 Q2; have Q1 := blk2_ BK1.out; have Q2 := blk8_ BK2.out; have Q3 := blk2_ BK3.out) | ((with_reducible refine gc_ (f := 41) rfl ?_); refine gl_ (some 9) Try.func41 #[.agg #[.slice A0_0 l0_0.length c0_0, .slice A0_1 l0_1.length c0_1]] ?_; (with_reducible refine (impl_copyCredits.calls _ _ l0_0 _ _ l0_1 t1 t2 _ (Kd.C_below HR0_0.out HB.out) HC0_0.out (Kd.C_below HR0_1.out HB.out) HC0_1.out A4.out).mono ?_); rintro e w4_ ⟨v0_, v1_, rfl, ho0_, ho1_, hb⟩; refine ⟨_, rfl, ?_⟩; obtain ⟨f4_, hn0_, hn1_⟩ := two_col ho0_ ho1_; clear ho0_ ho1_; replace HS := aHs HS hb.size; obtain ⟨Ao4_0, co4_0, ev_⟩ := Kd.R_slice hn0_; subst ev_; have HO4_0 := aRn hn0_ HB.out.size; obtain ⟨Ao4_1, co4_1, ev_⟩ := Kd.R_slice hn1_; subst ev_; have HO4_1 := aRn hn1_ HB.out.size; replace BK1 := aBb BK1 hb; replace BK2 := aBb BK2 hb; replace BK3 := aBb BK3 hb; replace HB := aHB HB hb; clear hb hn0_ hn1_ Q1 Q2 Q3; have Q1 := blk2_ BK1.out; have Q2 := blk8_ BK2.out; have Q3 := blk2_ BK3.out) | ((with_reducible refine gd_ (N := 6) rfl ?_); refine by_ 6 (cs := #[.slice none 0 0, .slice none 0 0]) (t := 30) ?_; intro gb5_ hg w5_ hbox hb; replace HS := A_.mk (And.intro HS.out (show gb5_ = w4_.heap.size ∧ gb5_ < w5_.heap.size from ⟨hg, blk_lt hbox⟩)); replace HO4_0 := aRb HO4_0 hb; replace HO4_1 := aRb HO4_1 hb; replace BK1 := aBb BK1 hb; replace BK2 := aBb BK2 hb; replace BK3 := aBb BK3 hb; replace HB := aHB HB hb; have BK5 := A_.mk hbox; clear hbox hb hg Q1 Q2 Q3; have Q1 := blk2_ BK1.out; have Q2 := blk8_ BK2.out; have Q3 := blk2_ BK3.out; have Q5 := blk2_ BK5.out) | ((with_reducible refine gs_ (t := 30) (p := 6) rfl ?_); have qf0 := bf_ BK5.out 0; have qf1 := bf_ BK5.out 1; refine se_ (t := 30) (p := 6) (v := ?vo_6) (w1 := (ch2_ w5_ gb5_ (.slice Ao4_0 t1.length co4_0) (.slice Ao4_1 t2.length co4_1))) ?hg ?ho ?hn ?hr ?_; (case ho => rfl); (case hg => rfl); (case hn => rfl); (case hr => first | (go_simp; done) | (go_simp; rfl)); intro w6_ hw; clear qf0 qf1; obtain ⟨hbx, hkp, hbb⟩ := st2_ hw BK5 HB (by have := HS.out; omega); clear hw; replace HO4_0 := aRk HO4_0 hkp HS; replace HO4_1 := aRk HO4_1 hkp HS; replace BK1 := aBk BK1 hkp HS; replace BK2 := aBk BK2 hkp HS; replace BK3 := aBk BK3 hkp HS; replace BK5 := A_.mk hbx; replace HB := A_.mk hbb; replace HS := aHs HS hkp.1; clear hkp hbb hbx Q1 Q2 Q3 Q5; have Q1 := blk2_ BK1.out; have Q2 := blk8_ BK2.out; have Q3 := blk2_ BK3.out; have Q5 := blk2_ BK5.out))
 (with_reducible refine (impl_CanSend.calls k _ _ l0_0 _ _ l0_1 a1_0 a1_1 a1_2 a1_3 a1_4 a1_5 a1_6 _ _ l1_7 t3 _ (Kd.C_below HR0_0.out HB.out) HC0_0.out (Kd.C_below HR0_1.out HB.out) HC0_1.out (Kd.C_below HR1_7.out HB.out) HC1_7.out A7.out).mono ?_)
 rintro e w7_ ⟨rfl, hb⟩
 replace HS := aHs HS hb.size
 replace HO4_0 := aRb HO4_0 hb
 replace HO4_1 := aRb HO4_1 hb
 replace BK1 := aBb BK1 hb
 replace BK2 := aBb BK2 hb
 replace BK3 := aBb BK3 hb
 replace BK5 := aBb BK5 hb
 replace HB := aHB HB hb
 clear hb  Q1 Q2 Q3 Q5
 have Q1 := blk2_ BK1.out
 have Q2 := blk8_ BK2.out
 have Q3 := blk2_ BK3.out
 have Q5 := blk2_ BK5.out
 replace H := H.out
 by_cases hc1_ : t3 = true
 case pos =>
  rw [if_pos hc1_] at H
  subst hc1_
  replace H := oa_ H
  obtain ⟨t4, A8, H⟩ := H
  by_cases hp9_ : 0 ≤ t4
  case neg => rw [if_neg hp9_] at H; cases H
  rw [if_pos hp9_] at H
  by_cases hq9_ : t4 < (t1.length : Int)
  case neg => rw [if_neg hq9_] at H; cases H
  rw [if_pos hq9_] at H
  have EB9 := A_.mk (And.intro hp9_ hq9_)
  replace hp9_ := eq_true hp9_
  replace hq9_ := eq_true hq9_
  obtain ⟨y5, Ny5⟩ : ∃ q_, q_ = (t1.set (t4).toNat (wrap64 ((rd t1 t4) - 1))) := ⟨_, rfl⟩
  rw [← Ny5] at H
  replace Ny5 := A_.mk Ny5
  by_cases hp11_ : 0 ≤ t4
  case neg => rw [if_neg hp11_] at H; cases H
  rw [if_pos hp11_] at H
  by_cases hq11_ : t4 < (t2.length : Int)
  case neg => rw [if_neg hq11_] at H; cases H
  rw [if_pos hq11_] at H
  have EB11 := A_.mk (And.intro hp11_ hq11_)
  replace hp11_ := eq_true hp11_
  replace hq11_ := eq_true hq11_
  replace H := oa_ H
  obtain ⟨t6, A12, H⟩ := H
  obtain ⟨y7, Ny7⟩ : ∃ q_, q_ = (t2.set (t4).toNat (wrap64 ((rd t2 t4) - t6))) := ⟨_, rfl⟩
  rw [← Ny7] at H
  replace Ny7 := A_.mk Ny7
  simp only [Option.some.injEq, Prod.mk.injEq] at H
  obtain ⟨rfl, rfl, rfl⟩ := H
  go_wp2_with (fail)
  (with_reducible refine (impl_ClassOf.calls k a1_0 a1_1 a1_2 a1_3 a1_4 a1_5 a1_6 _ _ l1_7 t4 _ (Kd.C_below HR1_7.out HB.out) HC1_7.out A8.out).mono ?_)
  rintro e w8_ ⟨rfl, hb⟩
  replace HS := aHs HS hb.size
  replace HO4_0 := aRb HO4_0 hb
  replace HO4_1 := aRb HO4_1 hb
  replace BK1 := aBb BK1 hb
  replace BK2 := aBb BK2 hb
  replace BK3 := aBb BK3 hb
  replace BK5 := aBb BK5 hb
  replace HB := aHB HB hb
  clear hb  Q1 Q2 Q3 Q5
  have Q1 := blk2_ BK1.out
  have Q2 := blk8_ BK2.out
  have Q3 := blk2_ BK3.out
  have Q5 := blk2_ BK5.out
  obtain ⟨gHO4_0_, ed_⟩ := R_at0 HO4_0.out (by have := EB9.out; omega)
  subst ed_
  have QE9 := rcl_ HO4_0.out EB9.out
  have QF9 := rcf_ HO4_0.out EB9.out
  go_wp2_with (first | ((with_reducible refine gs_ (t := 3) (p := 23) rfl ?_); refine se_ (t := 3) (p := 23) (v := ?vo_10) (w1 := w8_.setCell ⟨gHO4_0_, (t4).toNat, none⟩ (.int .i64 (wrap64 ((rd t1 t4) - 1)))) ?hg ?ho ?hn ?hr ?_; (case ho => rfl); (case hg => rfl); (case hn => rfl); (case hr => first | (go_simp; done) | (go_simp; rfl)); intro w10_ hw; obtain ⟨ho, hkp, hbb⟩ := ost_ hw HO4_0 HB; clear hw; rw [← Ny5.out] at ho; replace HO4_1 := aRk HO4_1 hkp HS; replace BK1 := aBk BK1 hkp HS; replace BK2 := aBk BK2 hkp HS; replace BK3 := aBk BK3 hkp HS; replace BK5 := aBk BK5 hkp HS; replace HS := aHs HS hkp.1; have HO10 := A_.mk ho; have LQHO10 := A_.mk (Kd.R_reads' ho).1.symm; replace HB := A_.mk hbb; clear hkp hbb ho HO4_0 Q1 Q2 Q3 Q5 QE9 QF9; have Q1 := blk2_ BK1.out; have Q2 := blk8_ BK2.out; have Q3 := blk2_ BK3.out; have Q5 := blk2_ BK5.out))
  obtain ⟨gHO4_1_, ed_⟩ := R_at0 HO4_1.out (by have := EB11.out; omega)
  subst ed_
  refine start_ (n := 10) (S := fun w' => (w'.cell? ⟨gb2_, 0, none⟩ = some (.int .i64 a1_0) ∧ w'.cell? ⟨gb2_, 1, none⟩ = some (.int .i64 a1_1) ∧ w'.cell? ⟨gb2_, 2, none⟩ = some (.int .i64 a1_2) ∧ w'.cell? ⟨gb2_, 3, none⟩ = some (.int .i64 a1_3) ∧ w'.cell? ⟨gb2_, 4, none⟩ = some (.int .i64 a1_4) ∧ w'.cell? ⟨gb2_, 5, none⟩ = some (.int .i64 a1_5) ∧ w'.cell? ⟨gb2_, 6, none⟩ = some (.int .i64 a1_6) ∧ w'.cell? ⟨gb2_, 7, none⟩ = some (.slice A1_7 l1_7.length c1_7)) ∧ (w'.cell? ⟨gb5_, 0, none⟩ = some (.slice (some ⟨gHO4_0_, 0, none⟩) t1.length co4_0) ∧ w'.cell? ⟨gb5_, 1, none⟩ = some (.slice (some ⟨gHO4_1_, 0, none⟩) t2.length co4_1)) ∧ (w'.cell? ⟨gHO4_1_, (t4).toNat, none⟩ = some (.int .i64 (rd t2 t4)))) (ds := [9]) #[F, F, F, F, F, F, F, F, F, F] (by kernel_rfl) rfl rfl ⟨blk8_ BK2.out, blk2_ BK5.out, rcl_ HO4_1.out EB11.out⟩ (fun hHeld => ?_)
  clear Q1 Q2 Q3 Q5
  have hb := below_drew (Below.refl w10_.heap.size w10_)
  replace HS := aHs HS hb.size
  replace HO4_1 := aRb HO4_1 hb
  replace HO10 := aRb HO10 hb
  replace BK1 := aBb BK1 hb
  replace BK2 := aBb BK2 hb
  replace BK3 := aBb BK3 hb
  replace BK5 := aBb BK5 hb
  replace HB := aHB HB hb
  clear hb
  generalize w10_.drew = w16d_ at HO4_1 HO10 BK1 BK2 BK3 BK5 HB HS hHeld ⊢
  refine pd_ (i := 0) (N := some 24) #[T, F, F, F, F, F, F, F, F, F] rfl ?_
  refine tl_ (i := 1) (N := some 25) #[T, T, F, F, F, F, F, F, F, F] rfl hHeld ?_
  refine pd_ (i := 2) (N := some 26) #[T, T, T, F, F, F, F, F, F, F] rfl ?_
  refine pd_ (i := 3) (N := some 27) #[T, T, T, T, F, F, F, F, F, F] rfl ?_
  refine tl_ (i := 4) (N := some 28) #[T, T, T, T, T, F, F, F, F, F] rfl hHeld ?_
  refine tl_ (i := 5) (N := some 29) #[T, T, T, T, T, T, F, F, F, F] rfl hHeld ?_
  refine on_ (i := 6) (N := some 30) #[T, T, T, T, T, T, T, F, F, F] rfl (fun K hK => ?_)
  refine gz_ Try.func45 #[.agg #[.int .i64 a1_0, .int .i64 a1_1, .int .i64 a1_2, .int .i64 a1_3, .int .i64 a1_4, .int .i64 a1_5, .int .i64 a1_6, .slice A1_7 l1_7.length c1_7]] ?_
  with_reducible refine (impl_PacketUnits.calls k a1_0 a1_1 a1_2 a1_3 a1_4 a1_5 a1_6 _ _ l1_7 t6 _ (Kd.C_below HR1_7.out HB.out) HC1_7.out A12.out).mono ?_
  rintro e w12_ ⟨rfl, hb⟩
  refine ⟨_, rfl, ?_⟩
  replace HS := aHs HS hb.size
  replace HO4_1 := aRb HO4_1 hb
  replace HO10 := aRb HO10 hb
  replace BK1 := aBb BK1 hb
  replace BK2 := aBb BK2 hb
  replace BK3 := aBb BK3 hb
  replace BK5 := aBb BK5 hb
  replace HB := aHB HB hb
  clear hb 
  refine hK.out _ _ ⟨blk8_ BK2.out, blk2_ BK5.out, rcl_ HO4_1.out EB11.out⟩ (fun hHeld => ?_)
  clear hK K
  refine nm_ ?_
  refine pd_ (i := 7) (N := some 31) #[T, T, T, T, T, T, T, T, F, F] rfl ?_
  refine pd_ (i := 8) (N := some 32) #[T, T, T, T, T, T, T, T, T, F] rfl ?_
  refine last_ (i := 9) (N := none) #[T, T, T, T, T, T, T, T, T, T] rfl rfl (by kernel_rfl) (by decide) (fun K hK => ?_)
  have Q1 := blk2_ BK1.out
  have Q2 := blk8_ BK2.out
  have Q3 := blk2_ BK3.out
  have Q5 := blk2_ BK5.out
  have QE11 := rcl_ HO4_1.out EB11.out
  have QF11 := rcf_ HO4_1.out EB11.out
  obtain ⟨w13_, hw⟩ : ∃ q_ : World, q_ = w12_.setCell ⟨gHO4_1_, (t4).toNat, none⟩ (.int .i64 (wrap64 ((rd t2 t4) - t6))) := ⟨_, rfl⟩
  refine skip_ (w1 := w13_) (by rfl) rfl ?_ ?_
  ·rw [hw]; go_simp; try rfl
  refine hK.out _ _ ?_
  clear hK K Q1 Q2 Q3 Q5 QE11 QF11
  obtain ⟨ho, hkp, hbb⟩ := ost_ hw HO4_1 HB
  clear hw
  rw [← Ny7.out] at ho
  replace HO10 := aRk HO10 hkp HS
  replace BK1 := aBk BK1 hkp HS
  replace BK2 := aBk BK2 hkp HS
  replace BK3 := aBk BK3 hkp HS
  replace BK5 := aBk BK5 hkp HS
  replace HS := aHs HS hkp.1
  have HO13 := A_.mk ho
  have LQHO13 := A_.mk (Kd.R_reads' ho).1.symm
  replace HB := A_.mk hbb
  clear hkp hbb ho HO4_1
  refine done_ (by kernel_rfl) ?_
  have Q1 := blk2_ BK1.out
  have Q2 := blk8_ BK2.out
  have Q3 := blk2_ BK3.out
  have Q5 := blk2_ BK5.out
  go_wp2_with (first | ((with_reducible refine gs_ (t := 30) (p := 4) rfl ?_); have qf0 := bf_ BK3.out 0; have qf1 := bf_ BK3.out 1; refine se_ (t := 30) (p := 4) (v := ?vo_14) (w1 := (ch2_ w13_ gb3_ (.slice (some ⟨gHO4_0_, 0, none⟩) t1.length co4_0) (.slice (some ⟨gHO4_1_, 0, none⟩) t2.length co4_1))) ?hg ?ho ?hn ?hr ?_; (case ho => rfl); (case hg => rfl); (case hn => rfl); (case hr => first | (go_simp; done) | (go_simp; rfl)); intro w14_ hw; clear qf0 qf1; obtain ⟨hbx, hkp, hbb⟩ := st2_ hw BK3 HB (by have := HS.out; omega); clear hw; replace HO10 := aRk HO10 hkp HS; replace HO13 := aRk HO13 hkp HS; replace BK1 := aBk BK1 hkp HS; replace BK2 := aBk BK2 hkp HS; replace BK5 := aBk BK5 hkp HS; replace BK3 := A_.mk hbx; replace HB := A_.mk hbb; replace HS := aHs HS hkp.1; clear hkp hbb hbx Q1 Q2 Q3 Q5; have Q1 := blk2_ BK1.out; have Q2 := blk8_ BK2.out; have Q3 := blk2_ BK3.out; have Q5 := blk2_ BK5.out))
  refine bodyPost_ret (results_ct rfl _ _ gb3_ 30 #[.slice (some ⟨gHO4_0_, 0, none⟩) t1.length co4_0, .slice (some ⟨gHO4_1_, 0, none⟩) t2.length co4_1] (0, 0) _ rfl BK3.out Try.underlying30 rfl (by kernel_rfl)) rfl ?_
  obtain ⟨f_, hf_⟩ : ∃ f_ : Nat → Nat, ∀ k_, f_ k_ = (if ((w3_.heap.size ≤ k_ ∧ k_ < w4_.heap.size) ∧ f4_ k_ = 0) then 0 else (if ((w3_.heap.size ≤ k_ ∧ k_ < w4_.heap.size) ∧ f4_ k_ = 1) then 1 else 0)) := ⟨fun k_ => (if ((w3_.heap.size ≤ k_ ∧ k_ < w4_.heap.size) ∧ f4_ k_ = 0) then 0 else (if ((w3_.heap.size ≤ k_ ∧ k_ < w4_.heap.size) ∧ f4_ k_ = 1) then 1 else 0)), fun _ => rfl⟩
  have hcol0_ : ∀ k_, (((w3_.heap.size ≤ k_ ∧ k_ < w4_.heap.size) ∧ f4_ k_ = 0)) → f_ k_ = 0 := fun k_ hk_ => by rw [hf_]; have := HS.out; repeat' (first | omega | split)
  have hcol1_ : ∀ k_, (((w3_.heap.size ≤ k_ ∧ k_ < w4_.heap.size) ∧ f4_ k_ = 1)) → f_ k_ = 1 := fun k_ hk_ => by rw [hf_]; have := HS.out; repeat' (first | omega | split)
  exact ⟨f_, _, _, rfl, Kd.R_mono HO10.out hcol0_, Kd.R_mono HO13.out hcol1_, HB.out⟩
 rw [if_neg hc1_] at H
 replace hc1_ := eq_false_of_ne_true hc1_
 subst hc1_
 simp only [Option.some.injEq, Prod.mk.injEq] at H
 obtain ⟨rfl, rfl, rfl⟩ := H
 go_wp2_with (first | ((with_reducible refine gs_ (t := 30) (p := 4) rfl ?_); have qf0 := bf_ BK3.out 0; have qf1 := bf_ BK3.out 1; refine se_ (t := 30) (p := 4) (v := ?vo_15) (w1 := (ch2_ w7_ gb3_ (.slice Ao4_0 t1.length co4_0) (.slice Ao4_1 t2.length co4_1))) ?hg ?ho ?hn ?hr ?_; (case ho => rfl); (case hg => rfl); (case hn => rfl); (case hr => first | (go_simp; done) | (go_simp; rfl)); intro w15_ hw; clear qf0 qf1; obtain ⟨hbx, hkp, hbb⟩ := st2_ hw BK3 HB (by have := HS.out; omega); clear hw; replace HO4_0 := aRk HO4_0 hkp HS; replace HO4_1 := aRk HO4_1 hkp HS; replace BK1 := aBk BK1 hkp HS; replace BK2 := aBk BK2 hkp HS; replace BK5 := aBk BK5 hkp HS; replace BK3 := A_.mk hbx; replace HB := A_.mk hbb; replace HS := aHs HS hkp.1; clear hkp hbb hbx Q1 Q2 Q3 Q5; have Q1 := blk2_ BK1.out; have Q2 := blk8_ BK2.out; have Q3 := blk2_ BK3.out; have Q5 := blk2_ BK5.out))
 refine bodyPost_ret (results_ct rfl _ _ gb3_ 30 #[.slice Ao4_0 t1.length co4_0, .slice Ao4_1 t2.length co4_1] (0, 0) _ rfl BK3.out Try.underlying30 rfl (by kernel_rfl)) rfl ?_
 obtain ⟨f_, hf_⟩ : ∃ f_ : Nat → Nat, ∀ k_, f_ k_ = (if ((w3_.heap.size ≤ k_ ∧ k_ < w4_.heap.size) ∧ f4_ k_ = 0) then 0 else (if ((w3_.heap.size ≤ k_ ∧ k_ < w4_.heap.size) ∧ f4_ k_ = 1) then 1 else 0)) := ⟨fun k_ => (if ((w3_.heap.size ≤ k_ ∧ k_ < w4_.heap.size) ∧ f4_ k_ = 0) then 0 else (if ((w3_.heap.size ≤ k_ ∧ k_ < w4_.heap.size) ∧ f4_ k_ = 1) then 1 else 0)), fun _ => rfl⟩
 have hcol0_ : ∀ k_, (((w3_.heap.size ≤ k_ ∧ k_ < w4_.heap.size) ∧ f4_ k_ = 0)) → f_ k_ = 0 := fun k_ hk_ => by rw [hf_]; have := HS.out; repeat' (first | omega | split)
 have hcol1_ : ∀ k_, (((w3_.heap.size ≤ k_ ∧ k_ < w4_.heap.size) ∧ f4_ k_ = 1)) → f_ k_ = 1 := fun k_ hk_ => by rw [hf_]; have := HS.out; repeat' (first | omega | split)
 exact ⟨f_, _, _, rfl, Kd.R_mono HO4_0.out hcol0_, Kd.R_mono HO4_1.out hcol1_, HB.out⟩
end Go.Proofs.Ytlombfmebinjbaa.PFnExactPutPacket
