-- Written by a program of this session (wip/xp): not trusted, Lean checks it.
import Derived.Test.YtlombfmebinjbaaPFnExactTellCreditsx0
import Derived.Test.YtlombfmebinjbaaPFnExactTellCreditsx1
import Derived.Test.YtlombfmebinjbaaPFnExactTellCreditsx16
namespace Go.Proofs.Ytlombfmebinjbaa.PFnExactTellCredits
open Go.RowKit Go.Proofs.YtlombfmebinjbaaW.PrintWords Go.Proofs.YtlombfmebinjbaaW.PrintLast Go.Proofs.YtlombfmebinjbaaW.PrintMore
attribute [local go_sem] max2_int min2_int max_two min_two max_three min_three max_four min_four   -- for this text's walks alone
set_option linter.unusedVariables false
set_option linter.unusedSimpArgs false

/-! ### impl_PacketUnits: function 45, its calls in a row -/
def impl_PacketUnits.f (k : Nat) (a0_0 : Int) (a0_1 : Int) (a0_2 : Int) (a0_3 : Int) (a0_4 : Int) (a0_5 : Int) (a0_6 : Int) (l0_7 : List Int) : Option ((Int)) := ((impl_IsPacket.f k a0_0 a0_1 a0_2 a0_3 a0_4 a0_5 a0_6 l0_7).bind fun t1 => (if t1 = true then (some ((wrap64 (Int.tdiv (wrap64 ((l0_7.length : Int) + 3)) 4)))) else (some (-1))))
set_option maxHeartbeats 8000000 in
set_option maxRecDepth 100000 in
theorem impl_PacketUnits.calls (k : Nat) (a0_0 : Int) (a0_1 : Int) (a0_2 : Int) (a0_3 : Int) (a0_4 : Int) (a0_5 : Int) (a0_6 : Int) (A0_7 : Option Addr) (c0_7 : Nat) (l0_7 : List Int) (r : Int) (w : World) (hr0_7 : Kd.C (Kd.int .i64) w A0_7 l0_7.length l0_7) (hc0_7 : l0_7.length ≤ c0_7) (h : impl_PacketUnits.f k a0_0 a0_1 a0_2 a0_3 a0_4 a0_5 a0_6 l0_7 = some r) :
  Calls Try.prog 45 #[.agg #[.int .i64 a0_0, .int .i64 a0_1, .int .i64 a0_2, .int .i64 a0_3, .int .i64 a0_4, .int .i64 a0_5, .int .i64 a0_6, .slice A0_7 l0_7.length c0_7]] w fun e w' => e = .returned (.int .i64 r) ∧ Below w.heap.size w w' := by
 have HR0_7 := A_.mk hr0_7
 have HC0_7 := A_.mk hc0_7
 clear hr0_7 hc0_7
 have HB := A_.mk (Below.refl w.heap.size w)
 unfold impl_PacketUnits.f at h
 have H := h
 clear h
 replace H := oa_ H
 obtain ⟨t1, A2, H⟩ := H
 replace H := A_.mk H
 have hu38 := Try.underlying38
 go_enter Try.func45, Try.ntmps45
 have HS := A_.mk (Nat.le_refl w.heap.size)
 go_wp2_with (first | ((with_reducible refine gd_ (N := 1) rfl ?_); refine by_ 1 (cs := #[.int .i64 a0_0, .int .i64 a0_1, .int .i64 a0_2, .int .i64 a0_3, .int .i64 a0_4, .int .i64 a0_5, .int .i64 a0_6, .slice A0_7 l0_7.length c0_7]) (t := 38) ?_; intro gb1_ hg w1_ hbox hb; replace HS := A_.mk (And.intro HS.out (show gb1_ = w.heap.size ∧ gb1_ < w1_.heap.size from ⟨hg, blk_lt hbox⟩)); replace HB := aHB HB hb; have BK1 := A_.mk hbox; clear hbox hb hg; have Q1 := blk8_ BK1.out))
 (with_reducible refine (impl_IsPacket.calls k a0_0 a0_1 a0_2 a0_3 a0_4 a0_5 a0_6 _ _ l0_7 t1 _ (Kd.C_below HR0_7.out HB.out) HC0_7.out A2.out).mono ?_)
 rintro e w2_ ⟨rfl, hb⟩
 replace HS := aHs HS hb.size
 replace BK1 := aBb BK1 hb
 replace HB := aHB HB hb
 clear hb  Q1
 have Q1 := blk8_ BK1.out
 replace H := H.out
 by_cases hc1_ : t1 = true
 case pos =>
  rw [if_pos hc1_] at H
  subst hc1_
  replace H := Option.some.inj H
  subst H
  go_wp2
  go_ret
  exact ⟨rfl, HB.out⟩
 rw [if_neg hc1_] at H
 replace hc1_ := eq_false_of_ne_true hc1_
 subst hc1_
 replace H := Option.some.inj H
 subst H
 go_wp2
 go_ret
 exact ⟨rfl, HB.out⟩


end Go.Proofs.Ytlombfmebinjbaa.PFnExactTellCredits
