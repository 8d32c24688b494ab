-- Written by a program of this session (wip/xp): not trusted, Lean checks it.
import Derived.Test.YtlombfmebinjbaaPFnExactChannelOkx0
import Derived.Test.YtlombfmebinjbaaPFnExactChannelOkx6
import Derived.Test.YtlombfmebinjbaaPFnExactChannelOkx7
import Derived.Test.YtlombfmebinjbaaPFnExactChannelOkx9
import Derived.Test.YtlombfmebinjbaaPFnExactChannelOkx10
namespace Go.Proofs.Ytlombfmebinjbaa.PFnExactChannelOk
open Go.RowKit Go.Proofs.YtlombfmebinjbaaW.PrintWords Go.Proofs.YtlombfmebinjbaaW.PrintLast Go.Proofs.YtlombfmebinjbaaW.PrintMore
attribute [local go_sem] max2_int min2_int max_two min_two max_three min_three max_four min_four   -- for this text's walks alone
set_option linter.unusedVariables false
set_option linter.unusedSimpArgs false

/-! ### slices.Grow, slices.Concat at rows of packets, told by hand -/
section
variable {P : Program} {ops : Array Oper} {rest : List Oper} {o : Oper} {a : Act} {Q : Exit → Act → World → Prop}
theorem lit2_event {W : World} (hgd : o.guard = none) {N : Tmp} (_hd : o.dst = some N) {cs : Array Value} {t : TypeId}
  (hrun : (execOp a.eval o).run P W = .ok (.value (.slice (some ⟨W.heap.size, 0, none⟩) 2 2)) (W.alloc (.cells cs t (0, 0))))
  (h : ∀ g w1, w1.heap[g]? = some (.cells cs t (0, 0)) → Below W.heap.size W w1 → (∀ k, (Value.slice (some ⟨g, 0, none⟩) 2 2).ownBlock = some k → W.heap.size ≤ k) → wpList P ops Q rest (a.put o.dst (.slice (some ⟨g, 0, none⟩) 2 2)) w1) : wpList P ops Q (o :: rest) a W :=
 Kd.event_run hgd hrun (h _ _ (blk_new W _) (below_alloc (Below.refl _ _) _) (fun k hk => by
  have e : W.heap.size = k := by simpa [Value.ownBlock] using hk
  omega))
end
set_option maxHeartbeats 2000000 in
set_option maxRecDepth 100000 in
theorem slices_Grow.calls (n : Int) (w : World) (h0 : 0 ≤ n) (h1 : n ≤ 1759218604441) : Calls Try.prog 78 #[.slice none 0 0, .int .i64 n] w fun e w' => ∃ v, e = .returned v ∧ Kd.S k38 38 w' w.heap.size (fun k => w.heap.size ≤ k) v [] ∧ Below w.heap.size w w' := by
 have c0 : decide (n < 0) = false := decide_eq_false (by omega)
 have HB := Aside0.mk (Below.refl w.heap.size w)
 by_cases hn : 0 < n
 case pos =>
  have c1 : decide (0 < n) = true := decide_eq_true hn
  have c2 : decide (n > 0) = true := decide_eq_true hn
  have e1 : wrap64 n = n := by unfold wrap64; omega
  have c3 : decide (0 < wrap64 n) = true := by rw [e1]; exact c1
  have E1 := Aside0.mk e1
  clear e1 c1 c2
  have HN := Aside0.mk hn
  have H1 := Aside0.mk h1
  clear hn h0 h1
  go_enter Try.func78, Try.ntmps78
  go_wp2_with ((with_reducible refine gate_builtin (b := .append) (xs := #[.tmp 20, .tmp 21]) rfl ?_); at_builtin; refine Kd.S_append_zeros k38 (w0 := w) w.heap.size rfl (.tmp 20) (.tmp 21) 31 3 38 (.agg #[(.int .i64 0), (.int .i64 0), (.int .i64 0), (.int .i64 0), (.int .i64 0), (.int .i64 0), (.int .i64 0), (.slice none 0 0)]) 80 rfl Try.underlying31 Try.underlying3 info38 rfl (by decide) (by omega) (.slice none 0 0) [] z38 (wrap64 n) (fun k => w.heap.size ≤ k) rfl rfl ?az (fun _ h => h) ?aO ?a0 ?aB ?aS ?aL ?_; (case az => exact k38_mkM _ _ _ z38 (Kd.R_nil _ _ _ _ _)); (case aO => exact Kd.S_nil _ _ _ _ _); (case a0 => rw [E1.out]; exact Int.le_of_lt HN.out); (case aB => exact HB.out); (case aS => exact Nat.le_refl _); (case aL => rw [E1.out]; have := H1.out; have := HN.out; simp only [List.length_nil]; omega); intro v1 w1 ho hb hg hat; have HO := Aside0.mk ho; have HB1 := Aside0.mk hb; clear ho hb hg hat; obtain ⟨A1, c1_, e1⟩ := Kd.S_slice HO.out; subst e1)
  go_ret
  exact ⟨_, rfl, by simpa using Kd.S_take HO.out (Nat.zero_le _), HB1.out⟩
 case neg =>
  obtain rfl : n = 0 := by omega
  clear hn h0 h1
  go_enter Try.func78, Try.ntmps78
  go_wp2
  go_ret
  exact ⟨_, rfl, Kd.S_nil _ _ _ _ _, HB.out⟩
def slices_Concat.f (l0 l1 : List S38) : List S38 := l0 ++ l1
set_option maxHeartbeats 4000000 in
set_option maxRecDepth 100000 in
theorem slices_Concat.calls (g : Nat) (A0 : Option Addr) (c0 : Nat) (l0 : List S38) (A1 : Option Addr) (c1 : Nat) (l1 : List S38) (P : Nat → Prop) (b0 b1 : Nat) (w : World) (hbk : w.heap[g]? = some (.cells #[.slice A0 l0.length c0, .slice A1 l1.length c1] 31 (0, 0))) (hs0 : Kd.V k38 38 w b0 P (.slice A0 l0.length c0) l0) (hs1 : Kd.V k38 38 w b1 P (.slice A1 l1.length c1) l1) (hl : l0.length + l1.length < 1759218604441) :
  Calls Try.prog 42 #[.slice (some ⟨g, 0, none⟩) 2 2] w fun e w' => ∃ v, e = .returned v ∧ Kd.N k38 38 w' w.heap.size (fun k => P k ∨ w.heap.size ≤ k) v (l0 ++ l1) ∧ Below w.heap.size w w' := by
 have HV0 := Aside0.mk hs0
 have HV1 := Aside0.mk hs1
 have HBK := Aside0.mk hbk
 have HL := Aside0.mk hl
 have HB := Aside0.mk (Below.refl w.heap.size w)
 clear hs0 hs1 hbk hl
 go_enter Try.func42, Try.ntmps42
 go_wp2
 go_loopg [3, 11] 2 (fun kq v3 v11 w' => Aside0 (Below w.heap.size w w') ∧ ((kq = 2 ∧ v3 = .int .i64 0 ∧ v11 = .int .i64 0) ∨ (kq = 1 ∧ v3 = .int .i64 (wrap64 (l0.length : Int)) ∧ v11 = .int .i64 1) ∨ (kq = 0 ∧ v3 = .int .i64 (wrap64 (wrap64 (l0.length : Int) + (l1.length : Int))) ∧ v11 = .int .i64 2)))
 case atStart => exact ⟨⟨beY HB.out⟩, .inl ⟨rfl, rfl, rfl⟩⟩
 case round =>
  clear HB
  obtain ⟨HB, (⟨rfl, rfl, rfl⟩ | ⟨rfl, rfl, rfl⟩ | ⟨rfl, rfl, rfl⟩)⟩ := hrel
  ·have BK := Aside0.mk (blk_below HBK.out HB.out)
   have hx0 : wr.cell? ⟨g, 0, none⟩ = some (.slice A0 l0.length c0) := (blk_cell BK.out 0).trans rfl
   have hf0 := blk_frozen BK.out 0
   have d1 : decide (wrap64 (l0.length : Int) < 0) = false := decide_eq_false (by have := HL.out; unfold wrap64; omega)
   go_wp2
   go_roundg 1
   case measure => omega
   case rel => exact ⟨HB, .inr (.inl ⟨rfl, by first | rfl | simp, rfl⟩)⟩
  ·have BK := Aside0.mk (blk_below HBK.out HB.out)
   have hx1 : wr.cell? ⟨g, 1, none⟩ = some (.slice A1 l1.length c1) := (blk_cell BK.out 1).trans rfl
   have hf1 := blk_frozen BK.out 1
   have d1 : decide (wrap64 (wrap64 (l0.length : Int) + (l1.length : Int)) < 0) = false := decide_eq_false (by have := HL.out; unfold wrap64; omega)
   go_wp2
   go_roundg 0
   case measure => omega
   case rel => exact ⟨HB, .inr (.inr ⟨rfl, rfl, rfl⟩)⟩
  ·go_wp2_with fail
   have e2 : wrap64 (wrap64 (l0.length : Int) + (l1.length : Int)) = (l0.length : Int) + (l1.length : Int) := by have := HL.out; unfold wrap64; omega
   refine (slices_Grow.calls (wrap64 (wrap64 (l0.length : Int) + (l1.length : Int))) _ (by rw [e2]; omega) (by rw [e2]; have := HL.out; omega)).mono ?_
   rintro e w2 ⟨v6, rfl, ho, hb⟩
   have HO := Aside0.mk (Kd.N_mono (ok' := fun k => P k ∨ w.heap.size ≤ k) (Kd.S_N (Kd.S_lower ho (below_size HB.out))) (fun k hk => .inr (Nat.le_trans (below_size HB.out) hk)))
   have HB' := Aside0.mk (below_step HB.out hb)
   clear HB ho hb e2
   have HB := HB'
   clear HB'
   obtain ⟨A6, c6, e6⟩ := Kd.N_slice HO.out
   subst e6
   go_wp2
   go_loopg [6, 27] 2 (fun kq v6 v27 w' => Aside0 (Below w.heap.size w w') ∧ ((kq = 2 ∧ Aside0 (Kd.N k38 38 w' w.heap.size (fun k => P k ∨ w.heap.size ≤ k) v6 ([] : List S38)) ∧ v27 = .int .i64 0) ∨ (kq = 1 ∧ Aside0 (Kd.N k38 38 w' w.heap.size (fun k => P k ∨ w.heap.size ≤ k) v6 l0) ∧ v27 = .int .i64 1) ∨ (kq = 0 ∧ Aside0 (Kd.N k38 38 w' w.heap.size (fun k => P k ∨ w.heap.size ≤ k) v6 (l0 ++ l1)) ∧ v27 = .int .i64 2)))
   case atStart => exact ⟨⟨beY HB.out⟩, .inl ⟨rfl, ⟨by (with_reducible repeat (first | apply Kd.N_alloc | apply Kd.N_drewN | apply Kd.N_drew)); exact HO.out⟩, rfl⟩⟩
   case round =>
    clear HB HO
    obtain ⟨HB, (⟨rfl, HO, rfl⟩ | ⟨rfl, HO, rfl⟩ | ⟨rfl, HO, rfl⟩)⟩ := hrel
    ·have BK := Aside0.mk (blk_below HBK.out HB.out)
     have hx0 := (blk_cell BK.out 0).trans rfl
     have hf0 := blk_frozen BK.out 0
     obtain ⟨A7, c7, e7⟩ := Kd.N_slice HO.out
     subst e7
     go_wp2_with ((with_reducible refine gate_builtin (b := .append) (xs := #[.tmp 31, .tmp 32]) rfl ?_); at_builtin; refine Kd.N_append_rows k38 (w0 := w) w.heap.size rfl (.tmp 31) (.tmp 32) 31 38 (.agg #[(.int .i64 0), (.int .i64 0), (.int .i64 0), (.int .i64 0), (.int .i64 0), (.int .i64 0), (.int .i64 0), (.slice none 0 0)]) 80 rfl Try.underlying31 info38 rfl (by decide) (by omega) _ ([] : List S38) l0 _ _ _ (fun k => P k ∨ w.heap.size ≤ k) (fun k => P k ∧ some k ≠ Value.ownBlock _) rfl rfl ?aO ?aR (fun _ hk => ⟨.inl hk.1, hk.2⟩) (fun k hk => .inr (Nat.le_trans (below_size HB.out) hk)) ?aB ?aS ?aL ?_; (case aO => exact HO.out); (case aR => exact Kd.V_F (Kd.V_elder' HV0.out (Kd.N_base HO.out) HB.out)); (case aB => exact HB.out); (case aS => exact below_size HB.out); (case aL => have := HL.out; (try simp only [List.length_nil]); omega); intro v2 w3 ho hb hg hat; have HO' := Aside0.mk ho; have HB' := Aside0.mk hb; clear ho hb hg hat HO HB; have HO := HO'; have HB := HB'; clear HO' HB')
     go_roundg 1
     case measure => omega
     case rel => exact ⟨HB, .inr (.inl ⟨rfl, HO, rfl⟩)⟩
    ·have BK := Aside0.mk (blk_below HBK.out HB.out)
     have hx1 := (blk_cell BK.out 1).trans rfl
     have hf1 := blk_frozen BK.out 1
     obtain ⟨A7, c7, e7⟩ := Kd.N_slice HO.out
     subst e7
     go_wp2_with ((with_reducible refine gate_builtin (b := .append) (xs := #[.tmp 31, .tmp 32]) rfl ?_); at_builtin; refine Kd.N_append_rows k38 (w0 := w) w.heap.size rfl (.tmp 31) (.tmp 32) 31 38 (.agg #[(.int .i64 0), (.int .i64 0), (.int .i64 0), (.int .i64 0), (.int .i64 0), (.int .i64 0), (.int .i64 0), (.slice none 0 0)]) 80 rfl Try.underlying31 info38 rfl (by decide) (by omega) _ l0 l1 _ _ _ (fun k => P k ∨ w.heap.size ≤ k) (fun k => P k ∧ some k ≠ Value.ownBlock _) rfl rfl ?aO ?aR (fun _ hk => ⟨.inl hk.1, hk.2⟩) (fun k hk => .inr (Nat.le_trans (below_size HB.out) hk)) ?aB ?aS ?aL ?_; (case aO => exact HO.out); (case aR => exact Kd.V_F (Kd.V_elder' HV1.out (Kd.N_base HO.out) HB.out)); (case aB => exact HB.out); (case aS => exact below_size HB.out); (case aL => have := HL.out; (try simp only [List.length_nil]); omega); intro v2 w3 ho hb hg hat; have HO' := Aside0.mk ho; have HB' := Aside0.mk hb; clear ho hb hg hat HO HB; have HO := HO'; have HB := HB'; clear HO' HB')
     go_roundg 0
     case measure => omega
     case rel => exact ⟨HB, .inr (.inr ⟨rfl, HO, rfl⟩)⟩
    ·obtain ⟨A7, c7, e7⟩ := Kd.N_slice HO.out
     subst e7
     go_wp2
     go_ret
     exact ⟨_, rfl, HO.out, HB.out⟩
/-! ### impl_ChannelOk: function 11 -/
mutual
def impl_ChannelOk.j0 : Nat → Bool → List Int → List Int → List Int → List Int → List (S38) → List (S38) → Option (Bool)
 | 0, _, _, _, _, _, _, _ => none
 | k + 1, x15, x319000, x319001, x319002, x319003, x319004, x319005 => if x15 = true then (some false) else ((impl_copyCredits.f x319002 x319003).bind fun bt321 => ((some (([] : List (S38)) : List (S38))).bind fun y328 => (if y328.length + x319004.length < 1759218604441 then ((some (y328 ++ x319004 : List (S38))).bind fun y331 => (if y331.length + x319005.length < 1759218604441 then ((some (y331 ++ x319005 : List (S38))).bind fun y334 => (impl_ChannelOk.l0 k y334 (y334.length : Int) 0 x319000 x319001 x319002 x319003 x319004 x319005 bt321.1 bt321.2)) else (none))) else (none))))
def impl_ChannelOk.l0 : Nat → List (S38) → Int → Int → List Int → List Int → List Int → List Int → List (S38) → List (S38) → List Int → List Int → Option (Bool)
 | 0, _, _, _, _, _, _, _, _, _, _, _ => none
 | k + 1, x24, x25, x26, x319000, x319001, x319002, x319003, x319004, x319005, x328000, x328001 => if x26 < x25 then (if 0 ≤ x26 then (if x26 < (x24.length : Int) then ((impl_IsPacket.f k ((rd_T38 x24 x26).f0) ((rd_T38 x24 x26).f1) ((rd_T38 x24 x26).f2) ((rd_T38 x24 x26).f3) ((rd_T38 x24 x26).f4) ((rd_T38 x24 x26).f5) ((rd_T38 x24 x26).f6) ((rd_T38 x24 x26).f7)).bind fun t340 => (if t340 = true then ((impl_ClassOf.f k ((rd_T38 x24 x26).f0) ((rd_T38 x24 x26).f1) ((rd_T38 x24 x26).f2) ((rd_T38 x24 x26).f3) ((rd_T38 x24 x26).f4) ((rd_T38 x24 x26).f5) ((rd_T38 x24 x26).f6) ((rd_T38 x24 x26).f7)).bind fun t341 => (if 0 ≤ t341 then (if t341 < (x328000.length : Int) then ((impl_ClassOf.f k ((rd_T38 x24 x26).f0) ((rd_T38 x24 x26).f1) ((rd_T38 x24 x26).f2) ((rd_T38 x24 x26).f3) ((rd_T38 x24 x26).f4) ((rd_T38 x24 x26).f5) ((rd_T38 x24 x26).f6) ((rd_T38 x24 x26).f7)).bind fun t344 => (if 0 ≤ t344 then (if t344 < (x328001.length : Int) then ((impl_PacketUnits.f k ((rd_T38 x24 x26).f0) ((rd_T38 x24 x26).f1) ((rd_T38 x24 x26).f2) ((rd_T38 x24 x26).f3) ((rd_T38 x24 x26).f4) ((rd_T38 x24 x26).f5) ((rd_T38 x24 x26).f6) ((rd_T38 x24 x26).f7)).bind fun t346 => (impl_ChannelOk.l0 k x24 x25 (wrap64 (x26 + 1)) x319000 x319001 x319002 x319003 x319004 x319005 (x328000.set (t341 : Int).toNat (wrap64 ((rd x328000 t341) + 1))) (x328001.set (t344 : Int).toNat (wrap64 ((rd x328001 t344) + t346))))) else (none)) else (none))) else (none)) else (none))) else (some false))) else (none)) else (none)) else ((impl_SameCredits.f k x328000 x328001 x319000 x319001).bind fun t337 => (some t337))
end
def impl_ChannelOk.f (k : Nat) (l0_0 : List Int) (l0_1 : List Int) (l0_2 : List Int) (l0_3 : List Int) (l0_4 : List (S38)) (l0_5 : List (S38)) : Option (Bool) := (impl_CreditsOk.f k l0_0 l0_1).bind fun t319 => (if t319 = true then ((impl_CreditsOk.f k l0_2 l0_3).bind fun t320 => (impl_ChannelOk.j0 k (!t320) l0_0 l0_1 l0_2 l0_3 l0_4 l0_5)) else (impl_ChannelOk.j0 k true l0_0 l0_1 l0_2 l0_3 l0_4 l0_5))
def impl_ChannelOk.T9 : Bool × List (List Nat × List Nat) := (true, [([], []), ([0], [0]), ([], []), ([2], [2]), ([1, 3], [1, 3]), ([4], [4]), ([5], [5]), ([1, 3, 0, 1, 2, 3, 4, 5, 6], [1, 3]), ([7, 6, 3, 0, 1, 2, 3, 4, 5, 6], [6, 7])])
def impl_ChannelOk.B9 : List Nat := [0, 1, 0, 4, 15, 31, 63, 127, 255]
theorem impl_ChannelOk.tab9 : rtab .any (opsOf Try.f11 9) = impl_ChannelOk.T9 := by kernel_rfl
theorem impl_ChannelOk.bits9 : waitsOk impl_ChannelOk.T9.2 impl_ChannelOk.B9 = true := by kernel_rfl
def impl_ChannelOk.T10 : Bool × List (List Nat × List Nat) := (true, [([], []), ([0], [0]), ([], []), ([2], [2]), ([1, 3], [1, 3]), ([4], [4]), ([], []), ([6, 3], [6]), ([5, 7], [5, 7]), ([1, 3, 0, 1, 2, 3, 4, 5, 6, 7, 8], [1, 3]), ([9, 8, 7, 0, 1, 2, 3, 4, 5, 6, 7, 8], [8, 9])])
def impl_ChannelOk.B10 : List Nat := [0, 1, 0, 4, 15, 31, 0, 76, 255, 511, 1023]
theorem impl_ChannelOk.tab10 : rtab .any (opsOf Try.f11 10) = impl_ChannelOk.T10 := by kernel_rfl
theorem impl_ChannelOk.bits10 : waitsOk impl_ChannelOk.T10.2 impl_ChannelOk.B10 = true := by kernel_rfl
set_option maxHeartbeats 8000000 in
set_option maxRecDepth 100000 in
theorem impl_ChannelOk.calls (k : Nat) (A0_0 : Option Addr) (c0_0 : Nat) (l0_0 : List Int) (A0_1 : Option Addr) (c0_1 : Nat) (l0_1 : List Int) (A0_2 : Option Addr) (c0_2 : Nat) (l0_2 : List Int) (A0_3 : Option Addr) (c0_3 : Nat) (l0_3 : List Int) (P0_4_ : Nat → Prop) (A0_4 : Option Addr) (c0_4 : Nat) (l0_4 : List (S38)) (P0_5_ : Nat → Prop) (A0_5 : Option Addr) (c0_5 : Nat) (l0_5 : List (S38)) (r : Bool) (w : World) (hr0_0 : Kd.C (Kd.int .i64) w A0_0 l0_0.length l0_0) (hc0_0 : l0_0.length ≤ c0_0) (hr0_1 : Kd.C (Kd.int .i64) w A0_1 l0_1.length l0_1) (hc0_1 : l0_1.length ≤ c0_1) (hr0_2 : Kd.C (Kd.int .i64) w A0_2 l0_2.length l0_2) (hc0_2 : l0_2.length ≤ c0_2) (hr0_3 : Kd.C (Kd.int .i64) w A0_3 l0_3.length l0_3) (hc0_3 : l0_3.length ≤ c0_3) (hs0_4 : Kd.V k38 38 w w.heap.size (fun k_ => P0_4_ k_) (.slice A0_4 l0_4.length c0_4) l0_4) (hs0_5 : Kd.V k38 38 w w.heap.size (fun k_ => P0_5_ k_) (.slice A0_5 l0_5.length c0_5) l0_5) (h : impl_ChannelOk.f k l0_0 l0_1 l0_2 l0_3 l0_4 l0_5 = some r) :
  Calls Try.prog 11 #[.agg #[.slice A0_0 l0_0.length c0_0, .slice A0_1 l0_1.length c0_1, .slice A0_2 l0_2.length c0_2, .slice A0_3 l0_3.length c0_3, .slice A0_4 l0_4.length c0_4, .slice A0_5 l0_5.length c0_5]] w fun e w' => e = .returned (.bool r) ∧ Below w.heap.size w w' := by
 have hu33 := Try.underlying33
 have hu30 := Try.underlying30
 have hu38 := Try.underlying38
 have HR0_0 := Aside0.mk hr0_0
 have HC0_0 := Aside0.mk hc0_0
 clear hr0_0 hc0_0
 have HR0_1 := Aside0.mk hr0_1
 have HC0_1 := Aside0.mk hc0_1
 clear hr0_1 hc0_1
 have HR0_2 := Aside0.mk hr0_2
 have HC0_2 := Aside0.mk hc0_2
 clear hr0_2 hc0_2
 have HR0_3 := Aside0.mk hr0_3
 have HC0_3 := Aside0.mk hc0_3
 clear hr0_3 hc0_3
 have HO0_4 := Aside0.mk (show Kd.V k38 38 w w.heap.size (fun k_ => ((P0_4_ k_ ∨ P0_5_ k_) ∨ w.heap.size ≤ k_)) (.slice A0_4 l0_4.length c0_4) l0_4 from Kd.V_mono hs0_4 (fun k_ hk => .inl (.inl hk)))
 have HO0_5 := Aside0.mk (show Kd.V k38 38 w w.heap.size (fun k_ => ((P0_4_ k_ ∨ P0_5_ k_) ∨ w.heap.size ≤ k_)) (.slice A0_5 l0_5.length c0_5) l0_5 from Kd.V_mono hs0_5 (fun k_ hk => .inl (.inr hk)))
 have HB := Aside0.mk (Below.refl w.heap.size w)
 have H : ((impl_CreditsOk.f k l0_0 l0_1).bind fun t319 => (if t319 = true then ((impl_CreditsOk.f k l0_2 l0_3).bind fun t320 => (impl_ChannelOk.j0 k (!t320) l0_0 l0_1 l0_2 l0_3 l0_4 l0_5)) else (impl_ChannelOk.j0 k true l0_0 l0_1 l0_2 l0_3 l0_4 l0_5))) = some r := h
 clear h
 have HC2 := Aside0.mk H
 clear H
 go_enter Try.func11, Try.ntmps11
 go_upto_region 1 with (first | ((with_reducible refine gate_dst (N := 1) rfl ?_); refine box_event ?hg (N := 1) ?hd (cs := #[.slice A0_0 l0_0.length c0_0, .slice A0_1 l0_1.length c0_1, .slice A0_2 l0_2.length c0_2, .slice A0_3 l0_3.length c0_3, .slice A0_4 l0_4.length c0_4, .slice A0_5 l0_5.length c0_5]) (t := 33) ?hr ?_; (case hd => rfl); (case hg => rfl); (case hr => first | (go_simp; done) | (go_simp; rfl)); intro gb318 hg w3 hbox hb; have n0_ := Aside0.mk (Kd.V_below (Kd.V_elderB (by (with_reducible repeat (first | apply Kd.V_alloc | apply Kd.V_drewN | apply Kd.V_drew)); exact HO0_4.out) gb318 (Nat.le_of_eq hg.symm)) hb); have n1_ := Aside0.mk (Kd.V_below (Kd.V_elderB (by (with_reducible repeat (first | apply Kd.V_alloc | apply Kd.V_drewN | apply Kd.V_drew)); exact HO0_5.out) gb318 (Nat.le_of_eq hg.symm)) hb); have n2_ := Aside0.mk (below_step (beY HB.out) hb); have n3_ := Aside0.mk (hbox); have n4_ := Aside0.mk ((by rw [hg]; exact (below_size (beY HB.out)) : w.heap.size ≤ gb318)); have n5_ := Aside0.mk ((by rw [hg]; exact (below_size (beY HB.out)) : w.heap.size ≤ gb318)); clear HO0_4; clear HO0_5; clear HB; have HO0_4 := n0_; have HO0_5 := n1_; have HB := n2_; have BK318 := n3_; have GW318 := n4_; have GE318 := n5_; clear n0_ n1_ n2_ n3_ n4_ n5_; clear hb hbox hg))
 (try simp only [Act.put, List.setIfInBounds_toArray, List.set_cons_zero, List.set_cons_succ])
 go_cut [15] (fun v15 wc => ∃ (kq : Nat) (x15_1 : Bool), v15 = .bool x15_1 ∧ Aside0 (impl_ChannelOk.j0 kq x15_1 l0_0 l0_1 l0_2 l0_3 l0_4 l0_5 = some r) ∧ Aside0 (kq ≤ k) ∧ Aside0 (Kd.V k38 38 wc w.heap.size (fun k_ => ((P0_4_ k_ ∨ P0_5_ k_) ∨ w.heap.size ≤ k_) ∧ k_ ≠ gb318) (.slice A0_4 l0_4.length c0_4) l0_4) ∧ Aside0 (Kd.V k38 38 wc w.heap.size (fun k_ => ((P0_4_ k_ ∨ P0_5_ k_) ∨ w.heap.size ≤ k_) ∧ k_ ≠ gb318) (.slice A0_5 l0_5.length c0_5) l0_5) ∧ Aside0 (wc.heap[gb318]? = some (.cells #[(.slice A0_0 l0_0.length c0_0), (.slice A0_1 l0_1.length c0_1), (.slice A0_2 l0_2.length c0_2), (.slice A0_3 l0_3.length c0_3), (.slice A0_4 l0_4.length c0_4), (.slice A0_5 l0_5.length c0_5)] 33 (0, 0))) ∧ Aside0 (Below w.heap.size w wc))
 case first =>
  have H := HC2.out
  clear HC2
  replace H := Option.bind_eq_some_iff.mp H
  obtain ⟨t319, A40, H⟩ := H
  have A4 := Aside0.mk A40
  clear A40
  by_cases c5 : t319 = true
  rotate_left
  ·replace c5 := Bool.eq_false_iff.mpr c5
   subst c5
   have H1 : (impl_ChannelOk.j0 k true l0_0 l0_1 l0_2 l0_3 l0_4 l0_5) = some r := by rw [if_neg (show ¬ (false = true) by decide)] at H; exact H
   clear H
   have H := H1
   clear H1
   have H' := Aside0.mk H
   clear H
   obtain ⟨hcz11_0, hcz11_1, hcz11_2, hcz11_3, hcz11_4, hcz11_5, hfz11_0, hfz11_1, hfz11_2, hfz11_3, hfz11_4, hfz11_5⟩ := b6 BK318.out
   go_wp2_with (first | ((with_reducible refine gate_callee (f := 40) rfl ?_); refine goesL_ (some 8) rfl rfl Try.func40 (by kernel_rfl) rfl #[.agg #[.slice A0_0 l0_0.length c0_0, .slice A0_1 l0_1.length c0_1]] rfl (by (try simp only [List.map_toArray, List.map_cons, List.map_nil]); first | done | rfl) ?_; (with_reducible refine (impl_CreditsOk.calls k _ _ l0_0 _ _ l0_1 false _ ?side1 ?side2 ?side3 ?side4 A4.out).mono ?_); (case side1 => exact cY ((Kd.C_below HR0_0.out HB.out))); (case side2 => exact HC0_0.out); (case side3 => exact cY ((Kd.C_below HR0_1.out HB.out))); (case side4 => exact HC0_1.out); rintro e w12 ⟨rfl, hb⟩; refine ⟨_, rfl, ?_⟩; have n0_ := Aside0.mk (Kd.V_below (by (with_reducible repeat (first | apply Kd.V_alloc | apply Kd.V_drewN | apply Kd.V_drew)); exact HO0_4.out) hb); have n1_ := Aside0.mk (Kd.V_below (by (with_reducible repeat (first | apply Kd.V_alloc | apply Kd.V_drewN | apply Kd.V_drew)); exact HO0_5.out) hb); have n2_ := Aside0.mk (blk_below (bY BK318.out) hb); have n3_ := Aside0.mk (below_step (by repeat (first | (with_reducible first | exact HB.out | apply below_alloc | apply pw_below_drewN | apply below_drew1 | refine below_set ?_ GE318.out) | exact HB.out)) hb); clear HO0_4; clear HO0_5; clear BK318; clear HB; have HO0_4 := n0_; have HO0_5 := n1_; have BK318 := n2_; have HB := n3_; clear n0_ n1_ n2_ n3_; (try clear hb); (try clear hb2); (try clear hk); (try clear hi)))
   go_meet
   case rel => exact ⟨_, (true), (by first | rfl | (simp; done) | (simp [*]; done)), H', ⟨by first | omega | exact Nat.le_refl _⟩, ⟨by (with_reducible repeat (first | apply Kd.V_alloc | apply Kd.V_drewN | apply Kd.V_drew)); exact HO0_4.out⟩, ⟨by (with_reducible repeat (first | apply Kd.V_alloc | apply Kd.V_drewN | apply Kd.V_drew)); exact HO0_5.out⟩, ⟨by (repeat apply bX); exact BK318.out⟩, ⟨by repeat (first | (with_reducible first | exact HB.out | apply below_alloc | apply pw_below_drewN | apply below_drew1 | refine below_set ?_ GE318.out) | exact HB.out)⟩⟩
  subst c5
  have H1 : ((impl_CreditsOk.f k l0_2 l0_3).bind fun t320 => (impl_ChannelOk.j0 k (!t320) l0_0 l0_1 l0_2 l0_3 l0_4 l0_5)) = some r := by rw [if_pos rfl] at H; exact H
  clear H
  have H := H1
  clear H1
  replace H := Option.bind_eq_some_iff.mp H
  obtain ⟨t320, A60, H⟩ := H
  have A6 := Aside0.mk A60
  clear A60
  have H' := Aside0.mk H
  clear H
  obtain ⟨hcz7_0, hcz7_1, hcz7_2, hcz7_3, hcz7_4, hcz7_5, hfz7_0, hfz7_1, hfz7_2, hfz7_3, hfz7_4, hfz7_5⟩ := b6 BK318.out
  go_wp2_with (first | ((with_reducible refine gate_callee (f := 40) rfl ?_); refine goesL_ (some 8) rfl rfl Try.func40 (by kernel_rfl) rfl #[.agg #[.slice A0_0 l0_0.length c0_0, .slice A0_1 l0_1.length c0_1]] rfl (by (try simp only [List.map_toArray, List.map_cons, List.map_nil]); first | done | rfl) ?_; (with_reducible refine (impl_CreditsOk.calls k _ _ l0_0 _ _ l0_1 true _ ?side1 ?side2 ?side3 ?side4 A4.out).mono ?_); (case side1 => exact cY ((Kd.C_below HR0_0.out HB.out))); (case side2 => exact HC0_0.out); (case side3 => exact cY ((Kd.C_below HR0_1.out HB.out))); (case side4 => exact HC0_1.out); rintro e w8 ⟨rfl, hb⟩; refine ⟨_, rfl, ?_⟩; have n0_ := Aside0.mk (Kd.V_below (by (with_reducible repeat (first | apply Kd.V_alloc | apply Kd.V_drewN | apply Kd.V_drew)); exact HO0_4.out) hb); have n1_ := Aside0.mk (Kd.V_below (by (with_reducible repeat (first | apply Kd.V_alloc | apply Kd.V_drewN | apply Kd.V_drew)); exact HO0_5.out) hb); have n2_ := Aside0.mk (blk_below (bY BK318.out) hb); have n3_ := Aside0.mk (below_step (by repeat (first | (with_reducible first | exact HB.out | apply below_alloc | apply pw_below_drewN | apply below_drew1 | refine below_set ?_ GE318.out) | exact HB.out)) hb); clear HO0_4; clear HO0_5; clear BK318; clear HB; have HO0_4 := n0_; have HO0_5 := n1_; have BK318 := n2_; have HB := n3_; clear n0_ n1_ n2_ n3_; (try clear hb); (try clear hb2); (try clear hk); (try clear hi); have hcz9_0 : w8.cell? ⟨gb318, 0, none⟩ = some (.slice A0_0 l0_0.length c0_0) := (blk_cell BK318.out 0).trans rfl; have hcz9_1 : w8.cell? ⟨gb318, 1, none⟩ = some (.slice A0_1 l0_1.length c0_1) := (blk_cell BK318.out 1).trans rfl; have hcz9_2 : w8.cell? ⟨gb318, 2, none⟩ = some (.slice A0_2 l0_2.length c0_2) := (blk_cell BK318.out 2).trans rfl; have hcz9_3 : w8.cell? ⟨gb318, 3, none⟩ = some (.slice A0_3 l0_3.length c0_3) := (blk_cell BK318.out 3).trans rfl; have hcz9_4 : w8.cell? ⟨gb318, 4, none⟩ = some (.slice A0_4 l0_4.length c0_4) := (blk_cell BK318.out 4).trans rfl; have hcz9_5 : w8.cell? ⟨gb318, 5, none⟩ = some (.slice A0_5 l0_5.length c0_5) := (blk_cell BK318.out 5).trans rfl; have hfz9_0 := blk_frozen BK318.out 0; have hfz9_1 := blk_frozen BK318.out 1; have hfz9_2 := blk_frozen BK318.out 2; have hfz9_3 := blk_frozen BK318.out 3; have hfz9_4 := blk_frozen BK318.out 4; have hfz9_5 := blk_frozen BK318.out 5) | (go_at_call 40; (with_reducible refine (impl_CreditsOk.calls k _ _ l0_2 _ _ l0_3 t320 _ ?side1 ?side2 ?side3 ?side4 A6.out).mono ?_); (case side1 => exact cY ((Kd.C_below HR0_2.out HB.out))); (case side2 => exact HC0_2.out); (case side3 => exact cY ((Kd.C_below HR0_3.out HB.out))); (case side4 => exact HC0_3.out); rintro e w10 ⟨rfl, hb⟩; have n0_ := Aside0.mk (Kd.V_below (by (with_reducible repeat (first | apply Kd.V_alloc | apply Kd.V_drewN | apply Kd.V_drew)); exact HO0_4.out) hb); have n1_ := Aside0.mk (Kd.V_below (by (with_reducible repeat (first | apply Kd.V_alloc | apply Kd.V_drewN | apply Kd.V_drew)); exact HO0_5.out) hb); have n2_ := Aside0.mk (blk_below (bY BK318.out) hb); have n3_ := Aside0.mk (below_step (by repeat (first | (with_reducible first | exact HB.out | apply below_alloc | apply pw_below_drewN | apply below_drew1 | refine below_set ?_ GE318.out) | exact HB.out)) hb); clear HO0_4; clear HO0_5; clear BK318; clear HB; have HO0_4 := n0_; have HO0_5 := n1_; have BK318 := n2_; have HB := n3_; clear n0_ n1_ n2_ n3_; (try clear hb); (try clear hb2); (try clear hk); (try clear hi)))
  go_meet
  case rel => exact ⟨_, (!t320), (by first | rfl | (simp; done) | (simp [*]; done)), H', ⟨by first | omega | exact Nat.le_refl _⟩, ⟨by (with_reducible repeat (first | apply Kd.V_alloc | apply Kd.V_drewN | apply Kd.V_drew)); exact HO0_4.out⟩, ⟨by (with_reducible repeat (first | apply Kd.V_alloc | apply Kd.V_drewN | apply Kd.V_drew)); exact HO0_5.out⟩, ⟨by (repeat apply bX); exact BK318.out⟩, ⟨by repeat (first | (with_reducible first | exact HB.out | apply below_alloc | apply pw_below_drewN | apply below_drew1 | refine below_set ?_ GE318.out) | exact HB.out)⟩⟩
 case rest =>
  clear HC2
  obtain ⟨kq, x15_1, rfl, HA, HJ1, HO_319004, HO_319005, BK318, HB⟩ := hcut
  cases kq with
  | zero => exact absurd HA.out (by simp [impl_ChannelOk.j0])
  | succ kj1 =>
   have H := HA.out
   clear HA
   simp only [impl_ChannelOk.j0] at H
   by_cases c13 : x15_1 = true
   ·subst c13
    have H1 : (some false) = some r := by rw [if_pos rfl] at H; exact H
    clear H
    have H := H1
    clear H1
    obtain rfl := Option.some.inj H
    go_wp2
    go_ret
    exact ⟨by first | rfl | (simp [errW_none, errW_some] <;> rfl) | (simp [*, errW_none, errW_some] <;> rfl), by repeat (first | (with_reducible first | exact HB.out | apply below_alloc | apply pw_below_drewN | apply below_drew1 | refine below_set ?_ GE318.out) | exact HB.out)⟩
   replace c13 := Bool.eq_false_iff.mpr c13
   subst c13
   have H1 : ((impl_copyCredits.f l0_2 l0_3).bind fun bt321 => ((some (([] : List (S38)) : List (S38))).bind fun y328 => (if y328.length + l0_4.length < 1759218604441 then ((some (y328 ++ l0_4 : List (S38))).bind fun y331 => (if y331.length + l0_5.length < 1759218604441 then ((some (y331 ++ l0_5 : List (S38))).bind fun y334 => (impl_ChannelOk.l0 kj1 y334 (y334.length : Int) 0 l0_0 l0_1 l0_2 l0_3 l0_4 l0_5 bt321.1 bt321.2)) else (none))) else (none)))) = some r := by rw [if_neg (show ¬ (false = true) by decide)] at H; exact H
   clear H
   have H := H1
   clear H1
   replace H := Option.bind_eq_some_iff.mp H
   obtain ⟨⟨t321, t324⟩, A140, H⟩ := H
   replace H : ((some (([] : List (S38)) : List (S38))).bind fun y328 => (if y328.length + l0_4.length < 1759218604441 then ((some (y328 ++ l0_4 : List (S38))).bind fun y331 => (if y331.length + l0_5.length < 1759218604441 then ((some (y331 ++ l0_5 : List (S38))).bind fun y334 => (impl_ChannelOk.l0 kj1 y334 (y334.length : Int) 0 l0_0 l0_1 l0_2 l0_3 l0_4 l0_5 t321 t324)) else (none))) else (none))) = some r := H
   have A14 := Aside0.mk A140
   clear A140
   obtain ⟨y328, hy328⟩ : ∃ y_ : List (S38), y_ = (([] : List (S38))) := ⟨_, rfl⟩
   replace H : (if y328.length + l0_4.length < 1759218604441 then ((some (y328 ++ l0_4 : List (S38))).bind fun y331 => (if y331.length + l0_5.length < 1759218604441 then ((some (y331 ++ l0_5 : List (S38))).bind fun y334 => (impl_ChannelOk.l0 kj1 y334 (y334.length : Int) 0 l0_0 l0_1 l0_2 l0_3 l0_4 l0_5 t321 t324)) else (none))) else (none)) = some r := by first | (rw [hy328]; with_reducible exact H) | (have H2_ := (Option.bind_some _ _).symm.trans H; rw [hy328]; with_reducible exact H2_) | (have H2_ := (Option.bind_some _ _).symm.trans H; with_reducible exact H2_) | with_reducible exact H | (rw [hy328]; exact H) | exact H
   have Ny328 := Aside0.mk hy328
   clear hy328
   by_cases c15 : y328.length + l0_4.length < 1759218604441
   rotate_left
   ·rw [if_neg c15] at H
    exact absurd H (by simp)
   rw [if_pos c15] at H
   have LMc15 := Aside0.mk c15
   clear c15
   obtain ⟨y331, hy331⟩ : ∃ y_ : List (S38), y_ = (y328 ++ l0_4) := ⟨_, rfl⟩
   replace H : (if y331.length + l0_5.length < 1759218604441 then ((some (y331 ++ l0_5 : List (S38))).bind fun y334 => (impl_ChannelOk.l0 kj1 y334 (y334.length : Int) 0 l0_0 l0_1 l0_2 l0_3 l0_4 l0_5 t321 t324)) else (none)) = some r := by first | (rw [hy331]; with_reducible exact H) | (have H2_ := (Option.bind_some _ _).symm.trans H; rw [hy331]; with_reducible exact H2_) | (have H2_ := (Option.bind_some _ _).symm.trans H; with_reducible exact H2_) | with_reducible exact H | (rw [hy331]; exact H) | exact H
   have Ny331 := Aside0.mk hy331
   clear hy331
   by_cases c16 : y331.length + l0_5.length < 1759218604441
   rotate_left
   ·rw [if_neg c16] at H
    exact absurd H (by simp)
   rw [if_pos c16] at H
   have LMc16 := Aside0.mk c16
   clear c16
   obtain ⟨y334, hy334⟩ : ∃ y_ : List (S38), y_ = (y331 ++ l0_5) := ⟨_, rfl⟩
   replace H : (impl_ChannelOk.l0 kj1 y334 (y334.length : Int) 0 l0_0 l0_1 l0_2 l0_3 l0_4 l0_5 t321 t324) = some r := by first | (rw [hy334]; with_reducible exact H) | (have H2_ := (Option.bind_some _ _).symm.trans H; rw [hy334]; with_reducible exact H2_) | (have H2_ := (Option.bind_some _ _).symm.trans H; with_reducible exact H2_) | with_reducible exact H | (rw [hy334]; exact H) | exact H
   have Ny334 := Aside0.mk hy334
   clear hy334
   have H' := Aside0.mk H
   clear H
   obtain ⟨hcz17_0, hcz17_1, hcz17_2, hcz17_3, hcz17_4, hcz17_5, hfz17_0, hfz17_1, hfz17_2, hfz17_3, hfz17_4, hfz17_5⟩ := b6 BK318.out
   go_wp2_with (first | ((with_reducible refine gate_callee (f := 41) rfl ?_); refine goesL_ (some 18) rfl rfl Try.func41 (by kernel_rfl) rfl #[.agg #[.slice A0_2 l0_2.length c0_2, .slice A0_3 l0_3.length c0_3]] rfl (by (try simp only [List.map_toArray, List.map_cons, List.map_nil]); first | done | rfl) ?_; (with_reducible refine (impl_copyCredits.calls _ _ l0_2 _ _ l0_3 t321 t324 _ ?side1 ?side2 ?side3 ?side4 A14.out).mono ?_); (case side1 => exact cY ((Kd.C_below HR0_2.out HB.out))); (case side2 => exact HC0_2.out); (case side3 => exact cY ((Kd.C_below HR0_3.out HB.out))); (case side4 => exact HC0_3.out); rintro e w18 ⟨v322, v325, rfl, ho0, ho1, hb⟩; refine ⟨_, rfl, ?_⟩; have n0_ := Aside0.mk (Kd.V_mono (Kd.V_told (Kd.V_told (Kd.V_old (by (with_reducible repeat (first | apply Kd.V_alloc | apply Kd.V_drewN | apply Kd.V_drew)); exact HO_319004.out) hb) (Kd.R_base ho0)) (Kd.R_base ho1)) (fun _ h_ => h_.1)); have n1_ := Aside0.mk (Kd.V_mono (Kd.V_told (Kd.V_told (Kd.V_old (by (with_reducible repeat (first | apply Kd.V_alloc | apply Kd.V_drewN | apply Kd.V_drew)); exact HO_319005.out) hb) (Kd.R_base ho0)) (Kd.R_base ho1)) (fun _ h_ => h_.1)); have n2_ := Aside0.mk (Kd.R_lower (Kd.R_newM (M := fun k_ => (w.heap.size ≤ k_)) ho0 (below_size (by repeat (first | (with_reducible first | exact HB.out | apply below_alloc | apply pw_below_drewN | apply below_drew1 | refine below_set ?_ GE318.out) | exact HB.out))) (fun k_ h_ => h_)) (below_size (by repeat (first | (with_reducible first | exact HB.out | apply below_alloc | apply pw_below_drewN | apply below_drew1 | refine below_set ?_ GE318.out) | exact HB.out)))); have n3_ := Aside0.mk (Kd.R_lower (Kd.R_newM (M := fun k_ => (w.heap.size ≤ k_)) ho1 (below_size (by repeat (first | (with_reducible first | exact HB.out | apply below_alloc | apply pw_below_drewN | apply below_drew1 | refine below_set ?_ GE318.out) | exact HB.out))) (fun k_ h_ => h_)) (below_size (by repeat (first | (with_reducible first | exact HB.out | apply below_alloc | apply pw_below_drewN | apply below_drew1 | refine below_set ?_ GE318.out) | exact HB.out)))); have n4_ := Aside0.mk (blk_below (bY BK318.out) hb); have n5_ := Aside0.mk (below_step (by repeat (first | (with_reducible first | exact HB.out | apply below_alloc | apply pw_below_drewN | apply below_drew1 | refine below_set ?_ GE318.out) | exact HB.out)) hb); clear HO_319004; clear HO_319005; clear BK318; clear HB; have HO_319004 := n0_; have HO_319005 := n1_; have HO323 := n2_; have HO326 := n3_; have BK318 := n4_; have HB := n5_; clear n0_ n1_ n2_ n3_ n4_ n5_; (try clear hb); (try clear hb2); (try clear hk); (try clear hi); (try clear ho0); (try clear ho1)) | ((with_reducible refine gate_dst (N := 3) rfl ?_); refine box_event ?hg (N := 3) ?hd (cs := #[.slice none 0 0, .slice none 0 0]) (t := 30) ?hr ?_; (case hd => rfl); (case hg => rfl); (case hr => first | (go_simp; done) | (go_simp; rfl)); intro gb327 hg w19 hbox hb; have n0_ := Aside0.mk (Kd.V_below (Kd.V_elderB (by (with_reducible repeat (first | apply Kd.V_alloc | apply Kd.V_drewN | apply Kd.V_drew)); exact HO_319004.out) gb327 (Nat.le_of_eq hg.symm)) hb); have n1_ := Aside0.mk (Kd.V_below (Kd.V_elderB (by (with_reducible repeat (first | apply Kd.V_alloc | apply Kd.V_drewN | apply Kd.V_drew)); exact HO_319005.out) gb327 (Nat.le_of_eq hg.symm)) hb); have n2_ := Aside0.mk (Kd.R_below (rY HO323.out) hb); have n3_ := Aside0.mk (Kd.R_below (rY HO326.out) hb); have n4_ := Aside0.mk (blk_below (bY BK318.out) hb); have n5_ := Aside0.mk (below_step (by repeat (first | (with_reducible first | exact HB.out | apply below_alloc | apply pw_below_drewN | apply below_drew1 | refine below_set ?_ GE318.out) | exact HB.out)) hb); have n6_ := Aside0.mk (hbox); have n7_ := Aside0.mk ((by rw [hg]; exact (below_size (by repeat (first | (with_reducible first | exact HB.out | apply below_alloc | apply pw_below_drewN | apply below_drew1 | refine below_set ?_ GE318.out) | exact HB.out))) : w.heap.size ≤ gb327)); have n8_ := Aside0.mk ((by rw [hg]; exact (below_size (by repeat (first | (with_reducible first | exact HB.out | apply below_alloc | apply pw_below_drewN | apply below_drew1 | refine below_set ?_ GE318.out) | exact HB.out))) : w.heap.size ≤ gb327)); have n9_ := Aside0.mk ((by rw [hg]; exact Nat.ne_of_lt (blk_lt (bY BK318.out)) : gb318 ≠ gb327)); have n10_ := Aside0.mk ((by rw [hg]; exact Nat.ne_of_gt (blk_lt (bY BK318.out)) : gb327 ≠ gb318)); clear HO_319004; clear HO_319005; clear HO323; clear HO326; clear BK318; clear HB; have HO_319004 := n0_; have HO_319005 := n1_; have HO323 := n2_; have HO326 := n3_; have BK318 := n4_; have HB := n5_; have BK327 := n6_; have GW327 := n7_; have GE327 := n8_; have NB318_327 := n9_; have NB327_318 := n10_; clear n0_ n1_ n2_ n3_ n4_ n5_ n6_ n7_ n8_ n9_ n10_; clear hb hbox hg; obtain ⟨Ao20, co20, eo20⟩ := Kd.R_slice HO323.out; subst eo20; have hnb21 := NB327_318.out; have hnc21 := NB318_327.out; have hcz22_0 : w19.cell? ⟨gb327, 0, none⟩ = some (.slice none 0 0) := (blk_cell BK327.out 0).trans rfl; have hcz22_1 : w19.cell? ⟨gb327, 1, none⟩ = some (.slice none 0 0) := (blk_cell BK327.out 1).trans rfl; have hfz22_0 := blk_frozen BK327.out 0; have hfz22_1 := blk_frozen BK327.out 1; obtain ⟨Ao23, co23, eo23⟩ := Kd.R_slice HO326.out; subst eo23; have hcz24_0 : w19.cell? ⟨gb318, 0, none⟩ = some (.slice A0_0 l0_0.length c0_0) := (blk_cell BK318.out 0).trans rfl; have hcz24_1 : w19.cell? ⟨gb318, 1, none⟩ = some (.slice A0_1 l0_1.length c0_1) := (blk_cell BK318.out 1).trans rfl; have hcz24_2 : w19.cell? ⟨gb318, 2, none⟩ = some (.slice A0_2 l0_2.length c0_2) := (blk_cell BK318.out 2).trans rfl; have hcz24_3 : w19.cell? ⟨gb318, 3, none⟩ = some (.slice A0_3 l0_3.length c0_3) := (blk_cell BK318.out 3).trans rfl; have hcz24_4 : w19.cell? ⟨gb318, 4, none⟩ = some (.slice A0_4 l0_4.length c0_4) := (blk_cell BK318.out 4).trans rfl; have hcz24_5 : w19.cell? ⟨gb318, 5, none⟩ = some (.slice A0_5 l0_5.length c0_5) := (blk_cell BK318.out 5).trans rfl; have hfz24_0 := blk_frozen BK318.out 0; have hfz24_1 := blk_frozen BK318.out 1; have hfz24_2 := blk_frozen BK318.out 2; have hfz24_3 := blk_frozen BK318.out 3; have hfz24_4 := blk_frozen BK318.out 4; have hfz24_5 := blk_frozen BK318.out 5) | ((with_reducible refine gate_dst (N := 23) rfl ?_); refine lit2_event ?hg (N := 23) ?hd (cs := #[.slice A0_4 l0_4.length c0_4, .slice A0_5 l0_5.length c0_5]) (t := 31) ?hr ?_; (case hd => rfl); (case hg => rfl); (case hr => first | (go_simp; done) | (go_simp; rfl)); intro g329 w25 hbox hb hbs_; have n0_ := Aside0.mk (Kd.V_elder' (by (with_reducible repeat (first | apply Kd.V_alloc | apply Kd.V_drewN | apply Kd.V_drew)); exact (Kd.V_mono (Kd.V_far (p := ⟨gb327, 1, none⟩) (Kd.V_far (p := ⟨gb327, 0, none⟩) (Kd.V_mono HO_319004.out (fun k_ hk => (⟨hk, hk.2⟩ : _ ∧ k_ ≠ gb327))) (fun _ hk => hk.2) (.slice Ao20 t321.length co20)) (fun _ hk => hk.2) (.slice Ao23 t324.length co23)) (fun _ h_ => h_.1))) hbs_ hb); have n1_ := Aside0.mk (Kd.V_elder' (by (with_reducible repeat (first | apply Kd.V_alloc | apply Kd.V_drewN | apply Kd.V_drew)); exact (Kd.V_mono (Kd.V_far (p := ⟨gb327, 1, none⟩) (Kd.V_far (p := ⟨gb327, 0, none⟩) (Kd.V_mono HO_319005.out (fun k_ hk => (⟨hk, hk.2⟩ : _ ∧ k_ ≠ gb327))) (fun _ hk => hk.2) (.slice Ao20 t321.length co20)) (fun _ hk => hk.2) (.slice Ao23 t324.length co23)) (fun _ h_ => h_.1))) hbs_ hb); have n2_ := Aside0.mk (Kd.R_below (by (repeat apply rX); exact (Kd.R_mono (Kd.R_far (p := ⟨gb327, 1, none⟩) (Kd.R_far (p := ⟨gb327, 0, none⟩) (Kd.R_types HO323.out BK327.out (by decide)) (fun _ hk => hk.2) (.slice Ao20 t321.length co20)) (fun _ hk => hk.2) (.slice Ao23 t324.length co23)) (fun _ h_ => h_.1))) hb); have n3_ := Aside0.mk (Kd.R_below (by (repeat apply rX); exact (Kd.R_mono (Kd.R_far (p := ⟨gb327, 1, none⟩) (Kd.R_far (p := ⟨gb327, 0, none⟩) (Kd.R_types HO326.out BK327.out (by decide)) (fun _ hk => hk.2) (.slice Ao20 t321.length co20)) (fun _ hk => hk.2) (.slice Ao23 t324.length co23)) (fun _ h_ => h_.1))) hb); have n4_ := Aside0.mk hbox; have n5_ := Aside0.mk (blk_below (g := gb318) (o := .cells #[.slice A0_0 l0_0.length c0_0, .slice A0_1 l0_1.length c0_1, .slice A0_2 l0_2.length c0_2, .slice A0_3 l0_3.length c0_3, .slice A0_4 l0_4.length c0_4, .slice A0_5 l0_5.length c0_5] 33 (0, 0)) (by (repeat apply bX); refine blk_far ?_ NB318_327.out _; (repeat apply bX); refine blk_far ?_ NB318_327.out _; (repeat apply bX); exact BK318.out) hb); have n6_ := Aside0.mk (blk_below (g := gb327) (o := .cells #[.slice Ao20 t321.length co20, .slice Ao23 t324.length co23] 30 (0, 0)) (by (repeat apply bX); refine blk_put (cs := #[.slice Ao20 t321.length co20, .slice none 0 0]) ?_ 1 _ rfl; (repeat apply bX); refine blk_put (cs := #[.slice none 0 0, .slice none 0 0]) ?_ 0 _ rfl; (repeat apply bX); exact BK327.out) hb); have n7_ := Aside0.mk (below_step (by repeat (first | (with_reducible first | exact HB.out | apply below_alloc | apply pw_below_drewN | apply below_drew1 | refine below_set ?_ GE318.out | refine below_set ?_ GE327.out) | exact HB.out)) hb); clear HO_319004; clear HO_319005; clear HO323; clear HO326; clear BK318; clear BK327; clear HB; have HO_319004 := n0_; have HO_319005 := n1_; have HO323 := n2_; have HO326 := n3_; have HO330 := n4_; have BK318 := n5_; have BK327 := n6_; have HB := n7_; clear n0_ n1_ n2_ n3_ n4_ n5_ n6_ n7_; clear hb hbox hbs_))
   have fr_ : ∀ k_, w25.heap.size ≤ k_ → (fun k_ => ((P0_4_ k_ ∨ P0_5_ k_) ∨ w.heap.size ≤ k_) ∧ some k_ ≠ (.slice Ao20 t321.length co20 : Value).ownBlock ∧ some k_ ≠ (.slice Ao23 t324.length co23 : Value).ownBlock ∧ k_ ≠ gb318 ∧ k_ ≠ gb327) k_ := (fun k_ hk => ⟨(.inr (Nat.le_trans (below_size (by repeat (first | (with_reducible first | exact HB.out | apply below_alloc | apply pw_below_drewN | apply below_drew1 | refine below_set ?_ GE318.out | refine below_set ?_ GE327.out) | exact HB.out))) hk)), Kd.fresh' (Kd.R_lt (rY HO323.out)) k_ hk, Kd.fresh' (Kd.R_lt (rY HO326.out)) k_ hk, Kd.freshB (g := gb318) (o := .cells #[.slice A0_0 l0_0.length c0_0, .slice A0_1 l0_1.length c0_1, .slice A0_2 l0_2.length c0_2, .slice A0_3 l0_3.length c0_3, .slice A0_4 l0_4.length c0_4, .slice A0_5 l0_5.length c0_5] 33 (0, 0)) (bY BK318.out) k_ hk, Kd.freshB (g := gb327) (o := .cells #[.slice Ao20 t321.length co20, .slice Ao23 t324.length co23] 30 (0, 0)) (bY BK327.out) k_ hk⟩)
   (with_reducible refine (slices_Concat.calls g329 A0_4 c0_4 l0_4 A0_5 c0_5 l0_5 (fun k_ => ((P0_4_ k_ ∨ P0_5_ k_) ∨ w.heap.size ≤ k_) ∧ some k_ ≠ (.slice Ao20 t321.length co20 : Value).ownBlock ∧ some k_ ≠ (.slice Ao23 t324.length co23 : Value).ownBlock ∧ k_ ≠ gb318 ∧ k_ ≠ gb327) w.heap.size w.heap.size _ ?side1 ?side2 ?side3 ?side4).mono ?_)
   (case side1 => exact (bY HO330.out))
   (case side2 => exact Kd.V_mono HO_319004.out (fun _ hk => ⟨hk.1.1.1.1.1, ⟨hk.1.1.1.2, ⟨hk.1.1.2, ⟨hk.1.1.1.1.2, hk.1.2⟩⟩⟩⟩))
   (case side3 => exact Kd.V_mono HO_319005.out (fun _ hk => ⟨hk.1.1.1.1.1, ⟨hk.1.1.1.2, ⟨hk.1.1.2, ⟨hk.1.1.1.1.2, hk.1.2⟩⟩⟩⟩))
   (case side4 => have h_ := LMc16.out; rw [Ny331.out, Ny328.out] at h_; simp only [List.nil_append] at h_; omega)
   rintro e w28 ⟨v335, rfl, ho, hb⟩
   replace ho := Kd.N_mono (ok' := (fun k_ => ((P0_4_ k_ ∨ P0_5_ k_) ∨ w.heap.size ≤ k_) ∧ some k_ ≠ (.slice Ao20 t321.length co20 : Value).ownBlock ∧ some k_ ≠ (.slice Ao23 t324.length co23 : Value).ownBlock ∧ k_ ≠ gb318 ∧ k_ ≠ gb327)) ho (fun k_ hk => hk.elim (fun h_ => h_) (fr_ k_))
   rw [show l0_4 ++ l0_5 = y334 from by rw [Ny334.out, Ny331.out, Ny328.out]; rfl] at ho
   have n0_ := Aside0.mk (Kd.V_mono (ok' := fun k_ => (fun k_ => ((P0_4_ k_ ∨ P0_5_ k_) ∨ w.heap.size ≤ k_) ∧ some k_ ≠ (.slice Ao20 t321.length co20 : Value).ownBlock ∧ some k_ ≠ (.slice Ao23 t324.length co23 : Value).ownBlock ∧ k_ ≠ gb318 ∧ k_ ≠ gb327) k_ ∧ some k_ ≠ (v335 : Value).ownBlock) (Kd.V_elder' HO_319004.out (Kd.N_base ho) hb) (fun _ hk => ⟨⟨hk.1.1.1.1.1.1, ⟨hk.1.1.1.1.2, ⟨hk.1.1.1.2, ⟨hk.1.1.1.1.1.2, hk.1.1.2⟩⟩⟩⟩, hk.2⟩))
   have n1_ := Aside0.mk (Kd.V_mono (ok' := fun k_ => (fun k_ => ((P0_4_ k_ ∨ P0_5_ k_) ∨ w.heap.size ≤ k_) ∧ some k_ ≠ (.slice Ao20 t321.length co20 : Value).ownBlock ∧ some k_ ≠ (.slice Ao23 t324.length co23 : Value).ownBlock ∧ k_ ≠ gb318 ∧ k_ ≠ gb327) k_ ∧ some k_ ≠ (v335 : Value).ownBlock) (Kd.V_elder' HO_319005.out (Kd.N_base ho) hb) (fun _ hk => ⟨⟨hk.1.1.1.1.1.1, ⟨hk.1.1.1.1.2, ⟨hk.1.1.1.2, ⟨hk.1.1.1.1.1.2, hk.1.1.2⟩⟩⟩⟩, hk.2⟩))
   have n2_ := Aside0.mk (blk_below (bY BK318.out) hb)
   have n3_ := Aside0.mk (Kd.R_below (rY HO323.out) hb)
   have n4_ := Aside0.mk (Kd.R_below (rY HO326.out) hb)
   have n5_ := Aside0.mk (blk_below (bY BK327.out) hb)
   have n6_ := Aside0.mk (below_step (by repeat (first | (with_reducible first | exact HB.out | apply below_alloc | apply pw_below_drewN | apply below_drew1 | refine below_set ?_ GE318.out | refine below_set ?_ GE327.out) | exact HB.out)) hb)
   have n7_ := Aside0.mk (Kd.N_lower ho (below_size (by repeat (first | (with_reducible first | exact HB.out | apply below_alloc | apply pw_below_drewN | apply below_drew1 | refine below_set ?_ GE318.out | refine below_set ?_ GE327.out) | exact HB.out))))
   clear HO_319004
   clear HO_319005
   clear BK318
   clear HO323
   clear HO326
   clear BK327
   clear HB
   clear HO330
   have HO_319004 := n0_
   have HO_319005 := n1_
   have BK318 := n2_
   have HO323 := n3_
   have HO326 := n4_
   have BK327 := n5_
   have HB := n6_
   have HO336 := n7_
   clear n0_ n1_ n2_ n3_ n4_ n5_ n6_ n7_
   clear ho hb fr_
   obtain ⟨Ao29, co29, eo29⟩ := Kd.N_slice HO336.out
   subst eo29
   go_wp2
   go_loopg [26] kj1 (fun kq v26 w' => ∃ (x26_2 : Int) (x328000_2 : List Int) (x328001_2 : List Int) (u328000 : Value) (u328001 : Value), v26 = .int .i64 x26_2 ∧ Aside0 (impl_ChannelOk.l0 kq y334 (y334.length : Int) x26_2 l0_0 l0_1 l0_2 l0_3 l0_4 l0_5 x328000_2 x328001_2 = some r) ∧ Aside0 (kq ≤ kj1) ∧ Aside0 (Kd.N k38 38 w' w.heap.size (fun k_ => ((P0_4_ k_ ∨ P0_5_ k_) ∨ w.heap.size ≤ k_) ∧ some k_ ≠ (u328000 : Value).ownBlock ∧ some k_ ≠ (u328001 : Value).ownBlock ∧ k_ ≠ gb318 ∧ k_ ≠ gb327) (.slice Ao29 y334.length co29) y334) ∧ Aside0 (Kd.V k38 38 w' w.heap.size (fun k_ => ((P0_4_ k_ ∨ P0_5_ k_) ∨ w.heap.size ≤ k_) ∧ some k_ ≠ ((.slice Ao29 y334.length co29) : Value).ownBlock ∧ some k_ ≠ (u328000 : Value).ownBlock ∧ some k_ ≠ (u328001 : Value).ownBlock ∧ k_ ≠ gb318 ∧ k_ ≠ gb327) (.slice A0_4 l0_4.length c0_4) l0_4) ∧ Aside0 (Kd.V k38 38 w' w.heap.size (fun k_ => ((P0_4_ k_ ∨ P0_5_ k_) ∨ w.heap.size ≤ k_) ∧ some k_ ≠ ((.slice Ao29 y334.length co29) : Value).ownBlock ∧ some k_ ≠ (u328000 : Value).ownBlock ∧ some k_ ≠ (u328001 : Value).ownBlock ∧ k_ ≠ gb318 ∧ k_ ≠ gb327) (.slice A0_5 l0_5.length c0_5) l0_5) ∧ Aside0 (Kd.R (Kd.int .i64) 3 w' w.heap.size (fun k_ => (w.heap.size ≤ k_) ∧ some k_ ≠ (u328001 : Value).ownBlock) u328000 x328000_2) ∧ Aside0 (Kd.R (Kd.int .i64) 3 w' w.heap.size (fun k_ => (w.heap.size ≤ k_) ∧ some k_ ≠ (u328000 : Value).ownBlock) u328001 x328001_2) ∧ Aside0 (w'.heap[gb318]? = some (.cells #[(.slice A0_0 l0_0.length c0_0), (.slice A0_1 l0_1.length c0_1), (.slice A0_2 l0_2.length c0_2), (.slice A0_3 l0_3.length c0_3), (.slice A0_4 l0_4.length c0_4), (.slice A0_5 l0_5.length c0_5)] 33 (0, 0))) ∧ Aside0 (w'.heap[gb327]? = some (.cells #[u328000, u328001] 30 (0, 0))) ∧ Aside0 (Below w.heap.size w w'))
   case atStart => exact ⟨(0), (t321), (t324), (.slice Ao20 t321.length co20), (.slice Ao23 t324.length co23), (by first | rfl | (simp; done) | (simp [*]; done)), H', ⟨Nat.le_refl _⟩, ⟨by (with_reducible repeat (first | apply Kd.N_alloc | apply Kd.N_drewN | apply Kd.N_drew)); exact HO336.out⟩, ⟨by (with_reducible repeat (first | apply Kd.V_alloc | apply Kd.V_drewN | apply Kd.V_drew)); exact Kd.V_mono HO_319004.out (fun _ hk => ⟨hk.1.1, ⟨hk.2, ⟨hk.1.2.1, ⟨hk.1.2.2.1, ⟨hk.1.2.2.2.1, hk.1.2.2.2.2⟩⟩⟩⟩⟩)⟩, ⟨by (with_reducible repeat (first | apply Kd.V_alloc | apply Kd.V_drewN | apply Kd.V_drew)); exact Kd.V_mono HO_319005.out (fun _ hk => ⟨hk.1.1, ⟨hk.2, ⟨hk.1.2.1, ⟨hk.1.2.2.1, ⟨hk.1.2.2.2.1, hk.1.2.2.2.2⟩⟩⟩⟩⟩)⟩, ⟨by (repeat apply rX); exact HO323.out⟩, ⟨by (repeat apply rX); exact HO326.out⟩, ⟨by (repeat apply bX); exact BK318.out⟩, ⟨by (repeat apply bX); exact BK327.out⟩, ⟨by repeat (first | (with_reducible first | exact HB.out | apply below_alloc | apply pw_below_drewN | apply below_drew1 | refine below_set ?_ GE318.out | refine below_set ?_ GE327.out) | exact HB.out)⟩⟩
   case round =>
    clear H'
    obtain ⟨x26_2, x328000_2, x328001_2, u328000, u328001, rfl, HA, HK2, HO_24, HO_319004, HO_319005, HO_328000, HO_328001, BK318, BK327, HB⟩ := hrel
    cases gk with
    | zero => exact absurd HA.out (by simp [impl_ChannelOk.l0])
    | succ k2 =>
     have H := HA.out
     clear HA
     simp only [impl_ChannelOk.l0] at H
     by_cases c30 : x26_2 < (y334.length : Int)
     rotate_left
     ·rw [if_neg c30] at H
      have c30b0 : decide (x26_2 < (y334.length : Int)) = false := decide_eq_false c30
      clear c30
      replace H := Option.bind_eq_some_iff.mp H
      obtain ⟨t337, A640, H⟩ := H
      have A64 := Aside0.mk A640
      clear A640
      obtain rfl := Option.some.inj H
      have hnb65 := NB327_318.out
      have hnc65 := NB318_327.out
      obtain ⟨hcz66_0, hcz66_1, hfz66_0, hfz66_1⟩ := b2 BK327.out
      obtain ⟨hcz67_0, hcz67_1, hcz67_2, hcz67_3, hcz67_4, hcz67_5, hfz67_0, hfz67_1, hfz67_2, hfz67_3, hfz67_4, hfz67_5⟩ := b6 BK318.out
      obtain ⟨Ao68, co68, eo68⟩ := Kd.R_slice HO_328000.out
      subst eo68
      obtain ⟨Ao69, co69, eo69⟩ := Kd.R_slice HO_328001.out
      subst eo69
      go_wp2_with (first | ((with_reducible refine gate_callee (f := 30) rfl ?_); refine goesL_ (some 55) rfl rfl Try.func30 (by kernel_rfl) rfl #[.agg #[.slice Ao68 x328000_2.length co68, .slice Ao69 x328001_2.length co69], .agg #[.slice A0_0 l0_0.length c0_0, .slice A0_1 l0_1.length c0_1]] rfl (by (try simp only [List.map_toArray, List.map_cons, List.map_nil]); first | done | rfl) ?_; (with_reducible refine (impl_SameCredits.calls k2 _ _ x328000_2 _ _ x328001_2 _ _ l0_0 _ _ l0_1 t337 _ ?side1 ?side2 ?side3 ?side4 ?side5 ?side6 ?side7 ?side8 A64.out).mono ?_); (case side1 => exact cY ((Kd.R_reads' HO_328000.out).2.2)); (case side2 => exact (Kd.R_reads' HO_328000.out).2.1); (case side3 => exact cY ((Kd.R_reads' HO_328001.out).2.2)); (case side4 => exact (Kd.R_reads' HO_328001.out).2.1); (case side5 => exact cY ((Kd.C_below HR0_0.out HB.out))); (case side6 => exact HC0_0.out); (case side7 => exact cY ((Kd.C_below HR0_1.out HB.out))); (case side8 => exact HC0_1.out); rintro e w70 ⟨rfl, hb⟩; refine ⟨_, rfl, ?_⟩; have n0_ := Aside0.mk (Kd.N_below (by (with_reducible repeat (first | apply Kd.N_alloc | apply Kd.N_drewN | apply Kd.N_drew)); exact HO_24.out) hb); have n1_ := Aside0.mk (Kd.V_below (by (with_reducible repeat (first | apply Kd.V_alloc | apply Kd.V_drewN | apply Kd.V_drew)); exact HO_319004.out) hb); have n2_ := Aside0.mk (Kd.V_below (by (with_reducible repeat (first | apply Kd.V_alloc | apply Kd.V_drewN | apply Kd.V_drew)); exact HO_319005.out) hb); have n3_ := Aside0.mk (Kd.R_below (rY HO_328000.out) hb); have n4_ := Aside0.mk (Kd.R_below (rY HO_328001.out) hb); have n5_ := Aside0.mk (blk_below (bY BK318.out) hb); have n6_ := Aside0.mk (blk_below (bY BK327.out) hb); have n7_ := Aside0.mk (below_step (by repeat (first | (with_reducible first | exact HB.out | apply below_alloc | apply pw_below_drewN | apply below_drew1 | refine below_set ?_ GE318.out | refine below_set ?_ GE327.out) | exact HB.out)) hb); clear HO_24; clear HO_319004; clear HO_319005; clear HO_328000; clear HO_328001; clear BK318; clear BK327; clear HB; have HO_24 := n0_; have HO_319004 := n1_; have HO_319005 := n2_; have HO_328000 := n3_; have HO_328001 := n4_; have BK318 := n5_; have BK327 := n6_; have HB := n7_; clear n0_ n1_ n2_ n3_ n4_ n5_ n6_ n7_; (try clear hb); (try clear hb2); (try clear hk); (try clear hi)))
      go_ret
      exact ⟨by first | rfl | (simp [errW_none, errW_some] <;> rfl) | (simp [*, errW_none, errW_some] <;> rfl), by repeat (first | (with_reducible first | exact HB.out | apply below_alloc | apply pw_below_drewN | apply below_drew1 | refine below_set ?_ GE318.out | refine below_set ?_ GE327.out) | exact HB.out)⟩
     rw [if_pos c30] at H
     have c30b0 : decide (x26_2 < (y334.length : Int)) = true := decide_eq_true c30
     clear c30
     by_cases c31 : 0 ≤ x26_2
     rotate_left
     ·rw [if_neg c31] at H
      exact absurd H (by simp)
     rw [if_pos c31] at H
     have c31b0 : decide (0 ≤ x26_2) = true := decide_eq_true c31
     clear c31
     by_cases c32 : x26_2 < (y334.length : Int)
     rotate_left
     ·rw [if_neg c32] at H
      exact absurd H (by simp)
     rw [if_pos c32] at H
     have c32b0 : decide (x26_2 < (y334.length : Int)) = true := decide_eq_true c32
     clear c32
     replace H := Option.bind_eq_some_iff.mp H
     obtain ⟨t340, A330, H⟩ := H
     have A33 := Aside0.mk A330
     clear A330
     by_cases c34 : t340 = true
     rotate_left
     ·replace c34 := Bool.eq_false_iff.mpr c34
      subst c34
      have H1 : (some false) = some r := by rw [if_neg (show ¬ (false = true) by decide)] at H; exact H
      clear H
      have H := H1
      clear H1
      obtain rfl := Option.some.inj H
      have p338 : 0 ≤ (x26_2 : Int) := of_decide_eq_true (by first | (with_reducible assumption) | assumption)
      have q338 : x26_2 < (y334.length : Int) := of_decide_eq_true (by first | (with_reducible assumption) | assumption)
      obtain ⟨ad338, A338_7, c338_7, e338, hx338_0, hx338_1, hx338_2, hx338_3, hx338_4, hx338_5, hx338_6, hx338_7, hl338_7, hi338_7⟩ := at_T38 (Kd.N_reads' HO_24.out).2.2 x26_2 p338 q338
      cases e338
      obtain ⟨ce338, hce338, hMe338, hcc338⟩ := Kd.N_get HO_24.out z38 x26_2 p338 (by first | exact q338 | exact of_decide_eq_true (by first | (with_reducible assumption) | assumption) | (have e_ := (Kd.N_reads' HO_24.out).1; omega))
      obtain ⟨ua338_7, uc338_7, rfl, ul338_7, ge338_7⟩ := k38_openF hMe338
      have hv338_7 := hcc338 7 _ rfl
      rw [add_field _ _ 7 (by omega)] at hv338_7
      replace hv338_7 := Option.some.inj (hv338_7.symm.trans hx338_7)
      injection hv338_7 with hva_ hvn_ hvc_
      rw [hva_] at ge338_7
      rw [hvc_] at ul338_7
      have HL338_7 := Aside0.mk (show Kd.V (Kd.int .i64) 3 _ w.heap.size _ _ ((rd_T38 y334 x26_2).f7) from Kd.V_mk ul338_7 ge338_7)
      clear hva_ hvn_ hvc_ ge338_7 ul338_7
      clear hcc338 hce338
      have HR338_7 := Aside0.mk hi338_7
      have HC338_7 := Aside0.mk hl338_7
      clear hi338_7 hl338_7
      replace p338 := eq_true p338
      replace q338 := eq_true q338
      go_wp2_with (first | ((with_reducible refine gate_dst (N := 5) rfl ?_); refine box_event ?hg (N := 5) ?hd (cs := #[.int .i64 0, .int .i64 0, .int .i64 0, .int .i64 0, .int .i64 0, .int .i64 0, .int .i64 0, .slice none 0 0]) (t := 38) ?hr ?_; (case hd => rfl); (case hg => rfl); (case hr => first | (go_simp; done) | (go_simp; rfl)); intro gb339 hg w59 hbox hb; have n0_ := Aside0.mk (Kd.N_below (Kd.N_elderB (by (with_reducible repeat (first | apply Kd.N_alloc | apply Kd.N_drewN | apply Kd.N_drew)); exact HO_24.out) gb339 (Nat.le_of_eq hg.symm)) hb); have n1_ := Aside0.mk (Kd.V_below (Kd.V_elderB (by (with_reducible repeat (first | apply Kd.V_alloc | apply Kd.V_drewN | apply Kd.V_drew)); exact HO_319004.out) gb339 (Nat.le_of_eq hg.symm)) hb); have n2_ := Aside0.mk (Kd.V_below (Kd.V_elderB (by (with_reducible repeat (first | apply Kd.V_alloc | apply Kd.V_drewN | apply Kd.V_drew)); exact HO_319005.out) gb339 (Nat.le_of_eq hg.symm)) hb); have n3_ := Aside0.mk (Kd.R_below (rY HO_328000.out) hb); have n4_ := Aside0.mk (Kd.R_below (rY HO_328001.out) hb); have n5_ := Aside0.mk (Kd.V_below (Kd.V_elderB (by (with_reducible repeat (first | apply Kd.V_alloc | apply Kd.V_drewN | apply Kd.V_drew)); exact HL338_7.out) gb339 (Nat.le_of_eq hg.symm)) hb); have n6_ := Aside0.mk (blk_below (bY BK318.out) hb); have n7_ := Aside0.mk (blk_below (bY BK327.out) hb); have n8_ := Aside0.mk (Kd.C_below (by repeat (first | (with_reducible exact HR338_7.out) | (with_reducible refine Kd.C_alloc ?_ _) | (with_reducible refine Kd.C_drewN ?_ _) | (with_reducible refine Kd.C_drew ?_) | exact HR338_7.out)) hb); have n9_ := Aside0.mk (below_step (by repeat (first | (with_reducible first | exact HB.out | apply below_alloc | apply pw_below_drewN | apply below_drew1 | refine below_set ?_ GE318.out | refine below_set ?_ GE327.out) | exact HB.out)) hb); have n10_ := Aside0.mk (hbox); have n11_ := Aside0.mk ((by rw [hg]; exact (below_size (by repeat (first | (with_reducible first | exact HB.out | apply below_alloc | apply pw_below_drewN | apply below_drew1 | refine below_set ?_ GE318.out | refine below_set ?_ GE327.out) | exact HB.out))) : w.heap.size ≤ gb339)); have n12_ := Aside0.mk ((by rw [hg]; exact (below_size (by repeat (first | (with_reducible first | exact HB.out | apply below_alloc | apply pw_below_drewN | apply below_drew1 | refine below_set ?_ GE318.out | refine below_set ?_ GE327.out) | exact HB.out))) : w.heap.size ≤ gb339)); have n13_ := Aside0.mk ((by rw [hg]; exact Nat.ne_of_lt (blk_lt (bY BK318.out)) : gb318 ≠ gb339)); have n14_ := Aside0.mk ((by rw [hg]; exact Nat.ne_of_gt (blk_lt (bY BK318.out)) : gb339 ≠ gb318)); have n15_ := Aside0.mk ((by rw [hg]; exact Nat.ne_of_lt (blk_lt (bY BK327.out)) : gb327 ≠ gb339)); have n16_ := Aside0.mk ((by rw [hg]; exact Nat.ne_of_gt (blk_lt (bY BK327.out)) : gb339 ≠ gb327)); clear HO_24; clear HO_319004; clear HO_319005; clear HO_328000; clear HO_328001; clear HL338_7; clear BK318; clear BK327; clear HR338_7; clear HB; have HO_24 := n0_; have HO_319004 := n1_; have HO_319005 := n2_; have HO_328000 := n3_; have HO_328001 := n4_; have HL338_7 := n5_; have BK318 := n6_; have BK327 := n7_; have HR338_7 := n8_; have HB := n9_; have BK339 := n10_; have GW339 := n11_; have GE339 := n12_; have NB318_339 := n13_; have NB339_318 := n14_; have NB327_339 := n15_; have NB339_327 := n16_; clear n0_ n1_ n2_ n3_ n4_ n5_ n6_ n7_ n8_ n9_ n10_ n11_ n12_ n13_ n14_ n15_ n16_; clear hb hbox hg; have hnb60 := NB339_318.out; have hnc60 := NB318_339.out; have hnb61 := NB339_327.out; have hnc61 := NB327_339.out; have hcz62_0 : w59.cell? ⟨gb339, 0, none⟩ = some (.int .i64 0) := (blk_cell BK339.out 0).trans rfl; have hcz62_1 : w59.cell? ⟨gb339, 1, none⟩ = some (.int .i64 0) := (blk_cell BK339.out 1).trans rfl; have hcz62_2 : w59.cell? ⟨gb339, 2, none⟩ = some (.int .i64 0) := (blk_cell BK339.out 2).trans rfl; have hcz62_3 : w59.cell? ⟨gb339, 3, none⟩ = some (.int .i64 0) := (blk_cell BK339.out 3).trans rfl; have hcz62_4 : w59.cell? ⟨gb339, 4, none⟩ = some (.int .i64 0) := (blk_cell BK339.out 4).trans rfl; have hcz62_5 : w59.cell? ⟨gb339, 5, none⟩ = some (.int .i64 0) := (blk_cell BK339.out 5).trans rfl; have hcz62_6 : w59.cell? ⟨gb339, 6, none⟩ = some (.int .i64 0) := (blk_cell BK339.out 6).trans rfl; have hcz62_7 : w59.cell? ⟨gb339, 7, none⟩ = some (.slice none 0 0) := (blk_cell BK339.out 7).trans rfl; have hfz62_0 := blk_frozen BK339.out 0; have hfz62_1 := blk_frozen BK339.out 1; have hfz62_2 := blk_frozen BK339.out 2; have hfz62_3 := blk_frozen BK339.out 3; have hfz62_4 := blk_frozen BK339.out 4; have hfz62_5 := blk_frozen BK339.out 5; have hfz62_6 := blk_frozen BK339.out 6; have hfz62_7 := blk_frozen BK339.out 7) | ((with_reducible refine gate_callee (f := 43) rfl ?_); refine goesL_ (some 31) rfl rfl Try.func43 (by kernel_rfl) rfl #[.agg #[.int .i64 ((rd_T38 y334 x26_2).f0), .int .i64 ((rd_T38 y334 x26_2).f1), .int .i64 ((rd_T38 y334 x26_2).f2), .int .i64 ((rd_T38 y334 x26_2).f3), .int .i64 ((rd_T38 y334 x26_2).f4), .int .i64 ((rd_T38 y334 x26_2).f5), .int .i64 ((rd_T38 y334 x26_2).f6), .slice A338_7 ((rd_T38 y334 x26_2).f7).length c338_7]] rfl (by (try simp only [List.map_toArray, List.map_cons, List.map_nil]); first | done | rfl) ?_; (with_reducible refine (impl_IsPacket.calls k2 ((rd_T38 y334 x26_2).f0) ((rd_T38 y334 x26_2).f1) ((rd_T38 y334 x26_2).f2) ((rd_T38 y334 x26_2).f3) ((rd_T38 y334 x26_2).f4) ((rd_T38 y334 x26_2).f5) ((rd_T38 y334 x26_2).f6) _ _ ((rd_T38 y334 x26_2).f7) false _ ?side1 ?side2 A33.out).mono ?_); (case side1 => repeat (first | exact ((Kd.V_reads' (by (with_reducible repeat (first | apply Kd.V_alloc | apply Kd.V_drewN | apply Kd.V_drew)); exact (Kd.V_mono (Kd.V_far (p := ⟨gb339, 7, none⟩) (Kd.V_far (p := ⟨gb339, 6, none⟩) (Kd.V_far (p := ⟨gb339, 5, none⟩) (Kd.V_far (p := ⟨gb339, 4, none⟩) (Kd.V_far (p := ⟨gb339, 3, none⟩) (Kd.V_far (p := ⟨gb339, 2, none⟩) (Kd.V_far (p := ⟨gb339, 1, none⟩) (Kd.V_far (p := ⟨gb339, 0, none⟩) (Kd.V_mono HL338_7.out (fun k_ hk => (⟨hk, hk.2⟩ : _ ∧ k_ ≠ gb339))) (fun _ hk => hk.2) (.int .i64 ((rd_T38 y334 x26_2).f0))) (fun _ hk => hk.2) (.int .i64 ((rd_T38 y334 x26_2).f1))) (fun _ hk => hk.2) (.int .i64 ((rd_T38 y334 x26_2).f2))) (fun _ hk => hk.2) (.int .i64 ((rd_T38 y334 x26_2).f3))) (fun _ hk => hk.2) (.int .i64 ((rd_T38 y334 x26_2).f4))) (fun _ hk => hk.2) (.int .i64 ((rd_T38 y334 x26_2).f5))) (fun _ hk => hk.2) (.int .i64 ((rd_T38 y334 x26_2).f6))) (fun _ hk => hk.2) (.slice A338_7 ((rd_T38 y334 x26_2).f7).length c338_7)) (fun _ h_ => h_.1)))).2.2) | (with_reducible refine Kd.C_alloc ?_ _) | (with_reducible refine Kd.C_drewN ?_ _) | (with_reducible refine Kd.C_drew ?_))); (case side2 => exact HC338_7.out); rintro e w63 ⟨rfl, hb⟩; refine ⟨_, rfl, ?_⟩; have n0_ := Aside0.mk (Kd.N_below (by (with_reducible repeat (first | apply Kd.N_alloc | apply Kd.N_drewN | apply Kd.N_drew)); exact (Kd.N_mono (Kd.N_far (p := ⟨gb339, 7, none⟩) (Kd.N_far (p := ⟨gb339, 6, none⟩) (Kd.N_far (p := ⟨gb339, 5, none⟩) (Kd.N_far (p := ⟨gb339, 4, none⟩) (Kd.N_far (p := ⟨gb339, 3, none⟩) (Kd.N_far (p := ⟨gb339, 2, none⟩) (Kd.N_far (p := ⟨gb339, 1, none⟩) (Kd.N_far (p := ⟨gb339, 0, none⟩) (Kd.N_mono HO_24.out (fun k_ hk => (⟨hk, hk.2⟩ : _ ∧ k_ ≠ gb339))) (fun _ hk => hk.2) (.int .i64 ((rd_T38 y334 x26_2).f0))) (fun _ hk => hk.2) (.int .i64 ((rd_T38 y334 x26_2).f1))) (fun _ hk => hk.2) (.int .i64 ((rd_T38 y334 x26_2).f2))) (fun _ hk => hk.2) (.int .i64 ((rd_T38 y334 x26_2).f3))) (fun _ hk => hk.2) (.int .i64 ((rd_T38 y334 x26_2).f4))) (fun _ hk => hk.2) (.int .i64 ((rd_T38 y334 x26_2).f5))) (fun _ hk => hk.2) (.int .i64 ((rd_T38 y334 x26_2).f6))) (fun _ hk => hk.2) (.slice A338_7 ((rd_T38 y334 x26_2).f7).length c338_7)) (fun _ h_ => h_.1))) hb); have n1_ := Aside0.mk (Kd.V_below (by (with_reducible repeat (first | apply Kd.V_alloc | apply Kd.V_drewN | apply Kd.V_drew)); exact (Kd.V_mono (Kd.V_far (p := ⟨gb339, 7, none⟩) (Kd.V_far (p := ⟨gb339, 6, none⟩) (Kd.V_far (p := ⟨gb339, 5, none⟩) (Kd.V_far (p := ⟨gb339, 4, none⟩) (Kd.V_far (p := ⟨gb339, 3, none⟩) (Kd.V_far (p := ⟨gb339, 2, none⟩) (Kd.V_far (p := ⟨gb339, 1, none⟩) (Kd.V_far (p := ⟨gb339, 0, none⟩) (Kd.V_mono HO_319004.out (fun k_ hk => (⟨hk, hk.2⟩ : _ ∧ k_ ≠ gb339))) (fun _ hk => hk.2) (.int .i64 ((rd_T38 y334 x26_2).f0))) (fun _ hk => hk.2) (.int .i64 ((rd_T38 y334 x26_2).f1))) (fun _ hk => hk.2) (.int .i64 ((rd_T38 y334 x26_2).f2))) (fun _ hk => hk.2) (.int .i64 ((rd_T38 y334 x26_2).f3))) (fun _ hk => hk.2) (.int .i64 ((rd_T38 y334 x26_2).f4))) (fun _ hk => hk.2) (.int .i64 ((rd_T38 y334 x26_2).f5))) (fun _ hk => hk.2) (.int .i64 ((rd_T38 y334 x26_2).f6))) (fun _ hk => hk.2) (.slice A338_7 ((rd_T38 y334 x26_2).f7).length c338_7)) (fun _ h_ => h_.1))) hb); have n2_ := Aside0.mk (Kd.V_below (by (with_reducible repeat (first | apply Kd.V_alloc | apply Kd.V_drewN | apply Kd.V_drew)); exact (Kd.V_mono (Kd.V_far (p := ⟨gb339, 7, none⟩) (Kd.V_far (p := ⟨gb339, 6, none⟩) (Kd.V_far (p := ⟨gb339, 5, none⟩) (Kd.V_far (p := ⟨gb339, 4, none⟩) (Kd.V_far (p := ⟨gb339, 3, none⟩) (Kd.V_far (p := ⟨gb339, 2, none⟩) (Kd.V_far (p := ⟨gb339, 1, none⟩) (Kd.V_far (p := ⟨gb339, 0, none⟩) (Kd.V_mono HO_319005.out (fun k_ hk => (⟨hk, hk.2⟩ : _ ∧ k_ ≠ gb339))) (fun _ hk => hk.2) (.int .i64 ((rd_T38 y334 x26_2).f0))) (fun _ hk => hk.2) (.int .i64 ((rd_T38 y334 x26_2).f1))) (fun _ hk => hk.2) (.int .i64 ((rd_T38 y334 x26_2).f2))) (fun _ hk => hk.2) (.int .i64 ((rd_T38 y334 x26_2).f3))) (fun _ hk => hk.2) (.int .i64 ((rd_T38 y334 x26_2).f4))) (fun _ hk => hk.2) (.int .i64 ((rd_T38 y334 x26_2).f5))) (fun _ hk => hk.2) (.int .i64 ((rd_T38 y334 x26_2).f6))) (fun _ hk => hk.2) (.slice A338_7 ((rd_T38 y334 x26_2).f7).length c338_7)) (fun _ h_ => h_.1))) hb); have n3_ := Aside0.mk (Kd.R_below (by (repeat apply rX); exact (Kd.R_mono (Kd.R_far (p := ⟨gb339, 7, none⟩) (Kd.R_far (p := ⟨gb339, 6, none⟩) (Kd.R_far (p := ⟨gb339, 5, none⟩) (Kd.R_far (p := ⟨gb339, 4, none⟩) (Kd.R_far (p := ⟨gb339, 3, none⟩) (Kd.R_far (p := ⟨gb339, 2, none⟩) (Kd.R_far (p := ⟨gb339, 1, none⟩) (Kd.R_far (p := ⟨gb339, 0, none⟩) (Kd.R_types HO_328000.out BK339.out (by decide)) (fun _ hk => hk.2) (.int .i64 ((rd_T38 y334 x26_2).f0))) (fun _ hk => hk.2) (.int .i64 ((rd_T38 y334 x26_2).f1))) (fun _ hk => hk.2) (.int .i64 ((rd_T38 y334 x26_2).f2))) (fun _ hk => hk.2) (.int .i64 ((rd_T38 y334 x26_2).f3))) (fun _ hk => hk.2) (.int .i64 ((rd_T38 y334 x26_2).f4))) (fun _ hk => hk.2) (.int .i64 ((rd_T38 y334 x26_2).f5))) (fun _ hk => hk.2) (.int .i64 ((rd_T38 y334 x26_2).f6))) (fun _ hk => hk.2) (.slice A338_7 ((rd_T38 y334 x26_2).f7).length c338_7)) (fun _ h_ => h_.1))) hb); have n4_ := Aside0.mk (Kd.R_below (by (repeat apply rX); exact (Kd.R_mono (Kd.R_far (p := ⟨gb339, 7, none⟩) (Kd.R_far (p := ⟨gb339, 6, none⟩) (Kd.R_far (p := ⟨gb339, 5, none⟩) (Kd.R_far (p := ⟨gb339, 4, none⟩) (Kd.R_far (p := ⟨gb339, 3, none⟩) (Kd.R_far (p := ⟨gb339, 2, none⟩) (Kd.R_far (p := ⟨gb339, 1, none⟩) (Kd.R_far (p := ⟨gb339, 0, none⟩) (Kd.R_types HO_328001.out BK339.out (by decide)) (fun _ hk => hk.2) (.int .i64 ((rd_T38 y334 x26_2).f0))) (fun _ hk => hk.2) (.int .i64 ((rd_T38 y334 x26_2).f1))) (fun _ hk => hk.2) (.int .i64 ((rd_T38 y334 x26_2).f2))) (fun _ hk => hk.2) (.int .i64 ((rd_T38 y334 x26_2).f3))) (fun _ hk => hk.2) (.int .i64 ((rd_T38 y334 x26_2).f4))) (fun _ hk => hk.2) (.int .i64 ((rd_T38 y334 x26_2).f5))) (fun _ hk => hk.2) (.int .i64 ((rd_T38 y334 x26_2).f6))) (fun _ hk => hk.2) (.slice A338_7 ((rd_T38 y334 x26_2).f7).length c338_7)) (fun _ h_ => h_.1))) hb); have n5_ := Aside0.mk (Kd.V_below (by (with_reducible repeat (first | apply Kd.V_alloc | apply Kd.V_drewN | apply Kd.V_drew)); exact (Kd.V_mono (Kd.V_far (p := ⟨gb339, 7, none⟩) (Kd.V_far (p := ⟨gb339, 6, none⟩) (Kd.V_far (p := ⟨gb339, 5, none⟩) (Kd.V_far (p := ⟨gb339, 4, none⟩) (Kd.V_far (p := ⟨gb339, 3, none⟩) (Kd.V_far (p := ⟨gb339, 2, none⟩) (Kd.V_far (p := ⟨gb339, 1, none⟩) (Kd.V_far (p := ⟨gb339, 0, none⟩) (Kd.V_mono HL338_7.out (fun k_ hk => (⟨hk, hk.2⟩ : _ ∧ k_ ≠ gb339))) (fun _ hk => hk.2) (.int .i64 ((rd_T38 y334 x26_2).f0))) (fun _ hk => hk.2) (.int .i64 ((rd_T38 y334 x26_2).f1))) (fun _ hk => hk.2) (.int .i64 ((rd_T38 y334 x26_2).f2))) (fun _ hk => hk.2) (.int .i64 ((rd_T38 y334 x26_2).f3))) (fun _ hk => hk.2) (.int .i64 ((rd_T38 y334 x26_2).f4))) (fun _ hk => hk.2) (.int .i64 ((rd_T38 y334 x26_2).f5))) (fun _ hk => hk.2) (.int .i64 ((rd_T38 y334 x26_2).f6))) (fun _ hk => hk.2) (.slice A338_7 ((rd_T38 y334 x26_2).f7).length c338_7)) (fun _ h_ => h_.1))) hb); have n6_ := Aside0.mk (blk_below (g := gb318) (o := .cells #[.slice A0_0 l0_0.length c0_0, .slice A0_1 l0_1.length c0_1, .slice A0_2 l0_2.length c0_2, .slice A0_3 l0_3.length c0_3, .slice A0_4 l0_4.length c0_4, .slice A0_5 l0_5.length c0_5] 33 (0, 0)) (by (repeat apply bX); refine blk_far ?_ NB318_339.out _; (repeat apply bX); refine blk_far ?_ NB318_339.out _; (repeat apply bX); refine blk_far ?_ NB318_339.out _; (repeat apply bX); refine blk_far ?_ NB318_339.out _; (repeat apply bX); refine blk_far ?_ NB318_339.out _; (repeat apply bX); refine blk_far ?_ NB318_339.out _; (repeat apply bX); refine blk_far ?_ NB318_339.out _; (repeat apply bX); refine blk_far ?_ NB318_339.out _; (repeat apply bX); exact BK318.out) hb); have n7_ := Aside0.mk (blk_below (g := gb327) (o := .cells #[u328000, u328001] 30 (0, 0)) (by (repeat apply bX); refine blk_far ?_ NB327_339.out _; (repeat apply bX); refine blk_far ?_ NB327_339.out _; (repeat apply bX); refine blk_far ?_ NB327_339.out _; (repeat apply bX); refine blk_far ?_ NB327_339.out _; (repeat apply bX); refine blk_far ?_ NB327_339.out _; (repeat apply bX); refine blk_far ?_ NB327_339.out _; (repeat apply bX); refine blk_far ?_ NB327_339.out _; (repeat apply bX); refine blk_far ?_ NB327_339.out _; (repeat apply bX); exact BK327.out) hb); have n8_ := Aside0.mk (Kd.C_below ((Kd.V_reads' (by (with_reducible repeat (first | apply Kd.V_alloc | apply Kd.V_drewN | apply Kd.V_drew)); exact (Kd.V_mono (Kd.V_far (p := ⟨gb339, 7, none⟩) (Kd.V_far (p := ⟨gb339, 6, none⟩) (Kd.V_far (p := ⟨gb339, 5, none⟩) (Kd.V_far (p := ⟨gb339, 4, none⟩) (Kd.V_far (p := ⟨gb339, 3, none⟩) (Kd.V_far (p := ⟨gb339, 2, none⟩) (Kd.V_far (p := ⟨gb339, 1, none⟩) (Kd.V_far (p := ⟨gb339, 0, none⟩) (Kd.V_mono HL338_7.out (fun k_ hk => (⟨hk, hk.2⟩ : _ ∧ k_ ≠ gb339))) (fun _ hk => hk.2) (.int .i64 ((rd_T38 y334 x26_2).f0))) (fun _ hk => hk.2) (.int .i64 ((rd_T38 y334 x26_2).f1))) (fun _ hk => hk.2) (.int .i64 ((rd_T38 y334 x26_2).f2))) (fun _ hk => hk.2) (.int .i64 ((rd_T38 y334 x26_2).f3))) (fun _ hk => hk.2) (.int .i64 ((rd_T38 y334 x26_2).f4))) (fun _ hk => hk.2) (.int .i64 ((rd_T38 y334 x26_2).f5))) (fun _ hk => hk.2) (.int .i64 ((rd_T38 y334 x26_2).f6))) (fun _ hk => hk.2) (.slice A338_7 ((rd_T38 y334 x26_2).f7).length c338_7)) (fun _ h_ => h_.1)))).2.2) hb); have n9_ := Aside0.mk (blk_below (g := gb339) (o := .cells #[.int .i64 ((rd_T38 y334 x26_2).f0), .int .i64 ((rd_T38 y334 x26_2).f1), .int .i64 ((rd_T38 y334 x26_2).f2), .int .i64 ((rd_T38 y334 x26_2).f3), .int .i64 ((rd_T38 y334 x26_2).f4), .int .i64 ((rd_T38 y334 x26_2).f5), .int .i64 ((rd_T38 y334 x26_2).f6), .slice A338_7 ((rd_T38 y334 x26_2).f7).length c338_7] 38 (0, 0)) (by (repeat apply bX); refine blk_put (cs := #[.int .i64 ((rd_T38 y334 x26_2).f0), .int .i64 ((rd_T38 y334 x26_2).f1), .int .i64 ((rd_T38 y334 x26_2).f2), .int .i64 ((rd_T38 y334 x26_2).f3), .int .i64 ((rd_T38 y334 x26_2).f4), .int .i64 ((rd_T38 y334 x26_2).f5), .int .i64 ((rd_T38 y334 x26_2).f6), .slice none 0 0]) ?_ 7 _ rfl; (repeat apply bX); refine blk_put (cs := #[.int .i64 ((rd_T38 y334 x26_2).f0), .int .i64 ((rd_T38 y334 x26_2).f1), .int .i64 ((rd_T38 y334 x26_2).f2), .int .i64 ((rd_T38 y334 x26_2).f3), .int .i64 ((rd_T38 y334 x26_2).f4), .int .i64 ((rd_T38 y334 x26_2).f5), .int .i64 0, .slice none 0 0]) ?_ 6 _ rfl; (repeat apply bX); refine blk_put (cs := #[.int .i64 ((rd_T38 y334 x26_2).f0), .int .i64 ((rd_T38 y334 x26_2).f1), .int .i64 ((rd_T38 y334 x26_2).f2), .int .i64 ((rd_T38 y334 x26_2).f3), .int .i64 ((rd_T38 y334 x26_2).f4), .int .i64 0, .int .i64 0, .slice none 0 0]) ?_ 5 _ rfl; (repeat apply bX); refine blk_put (cs := #[.int .i64 ((rd_T38 y334 x26_2).f0), .int .i64 ((rd_T38 y334 x26_2).f1), .int .i64 ((rd_T38 y334 x26_2).f2), .int .i64 ((rd_T38 y334 x26_2).f3), .int .i64 0, .int .i64 0, .int .i64 0, .slice none 0 0]) ?_ 4 _ rfl; (repeat apply bX); refine blk_put (cs := #[.int .i64 ((rd_T38 y334 x26_2).f0), .int .i64 ((rd_T38 y334 x26_2).f1), .int .i64 ((rd_T38 y334 x26_2).f2), .int .i64 0, .int .i64 0, .int .i64 0, .int .i64 0, .slice none 0 0]) ?_ 3 _ rfl; (repeat apply bX); refine blk_put (cs := #[.int .i64 ((rd_T38 y334 x26_2).f0), .int .i64 ((rd_T38 y334 x26_2).f1), .int .i64 0, .int .i64 0, .int .i64 0, .int .i64 0, .int .i64 0, .slice none 0 0]) ?_ 2 _ rfl; (repeat apply bX); refine blk_put (cs := #[.int .i64 ((rd_T38 y334 x26_2).f0), .int .i64 0, .int .i64 0, .int .i64 0, .int .i64 0, .int .i64 0, .int .i64 0, .slice none 0 0]) ?_ 1 _ rfl; (repeat apply bX); refine blk_put (cs := #[.int .i64 0, .int .i64 0, .int .i64 0, .int .i64 0, .int .i64 0, .int .i64 0, .int .i64 0, .slice none 0 0]) ?_ 0 _ rfl; (repeat apply bX); exact BK339.out) hb); have n10_ := Aside0.mk (below_step (by repeat (first | (with_reducible first | exact HB.out | apply below_alloc | apply pw_below_drewN | apply below_drew1 | refine below_set ?_ GE318.out | refine below_set ?_ GE327.out | refine below_set ?_ GE339.out) | exact HB.out)) hb); clear HO_24; clear HO_319004; clear HO_319005; clear HO_328000; clear HO_328001; clear HL338_7; clear BK318; clear BK327; clear HR338_7; clear BK339; clear HB; have HO_24 := n0_; have HO_319004 := n1_; have HO_319005 := n2_; have HO_328000 := n3_; have HO_328001 := n4_; have HL338_7 := n5_; have BK318 := n6_; have BK327 := n7_; have HR338_7 := n8_; have BK339 := n9_; have HB := n10_; clear n0_ n1_ n2_ n3_ n4_ n5_ n6_ n7_ n8_ n9_ n10_; (try clear hb); (try clear hb2); (try clear hk); (try clear hi)))
      go_ret
      exact ⟨by first | rfl | (simp [errW_none, errW_some] <;> rfl) | (simp [*, errW_none, errW_some] <;> rfl), by repeat (first | (with_reducible first | exact HB.out | apply below_alloc | apply pw_below_drewN | apply below_drew1 | refine below_set ?_ GE318.out | refine below_set ?_ GE327.out | refine below_set ?_ GE339.out) | exact HB.out)⟩
     subst c34
     have H1 : ((impl_ClassOf.f k2 ((rd_T38 y334 x26_2).f0) ((rd_T38 y334 x26_2).f1) ((rd_T38 y334 x26_2).f2) ((rd_T38 y334 x26_2).f3) ((rd_T38 y334 x26_2).f4) ((rd_T38 y334 x26_2).f5) ((rd_T38 y334 x26_2).f6) ((rd_T38 y334 x26_2).f7)).bind fun t341 => (if 0 ≤ t341 then (if t341 < (x328000_2.length : Int) then ((impl_ClassOf.f k2 ((rd_T38 y334 x26_2).f0) ((rd_T38 y334 x26_2).f1) ((rd_T38 y334 x26_2).f2) ((rd_T38 y334 x26_2).f3) ((rd_T38 y334 x26_2).f4) ((rd_T38 y334 x26_2).f5) ((rd_T38 y334 x26_2).f6) ((rd_T38 y334 x26_2).f7)).bind fun t344 => (if 0 ≤ t344 then (if t344 < (x328001_2.length : Int) then ((impl_PacketUnits.f k2 ((rd_T38 y334 x26_2).f0) ((rd_T38 y334 x26_2).f1) ((rd_T38 y334 x26_2).f2) ((rd_T38 y334 x26_2).f3) ((rd_T38 y334 x26_2).f4) ((rd_T38 y334 x26_2).f5) ((rd_T38 y334 x26_2).f6) ((rd_T38 y334 x26_2).f7)).bind fun t346 => (impl_ChannelOk.l0 k2 y334 (y334.length : Int) (wrap64 (x26_2 + 1)) l0_0 l0_1 l0_2 l0_3 l0_4 l0_5 (x328000_2.set (t341 : Int).toNat (wrap64 ((rd x328000_2 t341) + 1))) (x328001_2.set (t344 : Int).toNat (wrap64 ((rd x328001_2 t344) + t346))))) else (none)) else (none))) else (none)) else (none))) = some r := by rw [if_pos rfl] at H; exact H
     clear H
     have H := H1
     clear H1
     replace H := Option.bind_eq_some_iff.mp H
     obtain ⟨t341, A350, H⟩ := H
     have A35 := Aside0.mk A350
     clear A350
     by_cases c36 : 0 ≤ t341
     rotate_left
     ·rw [if_neg c36] at H
      exact absurd H (by simp)
     rw [if_pos c36] at H
     have c36b0 : decide (0 ≤ t341) = true := decide_eq_true c36
     clear c36
     by_cases c37 : t341 < (x328000_2.length : Int)
     rotate_left
     ·rw [if_neg c37] at H
      exact absurd H (by simp)
     rw [if_pos c37] at H
     have c37b0 : decide (t341 < (x328000_2.length : Int)) = true := decide_eq_true c37
     clear c37
     obtain ⟨y343, hy343⟩ : ∃ y_ : List Int, y_ = (x328000_2.set (t341 : Int).toNat (wrap64 ((rd x328000_2 t341) + 1))) := ⟨_, rfl⟩
     replace H : ((impl_ClassOf.f k2 ((rd_T38 y334 x26_2).f0) ((rd_T38 y334 x26_2).f1) ((rd_T38 y334 x26_2).f2) ((rd_T38 y334 x26_2).f3) ((rd_T38 y334 x26_2).f4) ((rd_T38 y334 x26_2).f5) ((rd_T38 y334 x26_2).f6) ((rd_T38 y334 x26_2).f7)).bind fun t344 => (if 0 ≤ t344 then (if t344 < (x328001_2.length : Int) then ((impl_PacketUnits.f k2 ((rd_T38 y334 x26_2).f0) ((rd_T38 y334 x26_2).f1) ((rd_T38 y334 x26_2).f2) ((rd_T38 y334 x26_2).f3) ((rd_T38 y334 x26_2).f4) ((rd_T38 y334 x26_2).f5) ((rd_T38 y334 x26_2).f6) ((rd_T38 y334 x26_2).f7)).bind fun t346 => (impl_ChannelOk.l0 k2 y334 (y334.length : Int) (wrap64 (x26_2 + 1)) l0_0 l0_1 l0_2 l0_3 l0_4 l0_5 y343 (x328001_2.set (t344 : Int).toNat (wrap64 ((rd x328001_2 t344) + t346))))) else (none)) else (none))) = some r := by first | (rw [hy343]; with_reducible exact H) | (have H2_ := (Option.bind_some _ _).symm.trans H; rw [hy343]; with_reducible exact H2_) | (have H2_ := (Option.bind_some _ _).symm.trans H; with_reducible exact H2_) | with_reducible exact H | (rw [hy343]; exact H) | exact H
     have Ny343 := Aside0.mk hy343
     clear hy343
     have tkA35 : True := trivial
     replace H := Option.bind_eq_some_iff.mp H
     obtain ⟨t344, A390, H⟩ := H
     have A39 := Aside0.mk A390
     clear A390
     by_cases c40 : 0 ≤ t344
     rotate_left
     ·rw [if_neg c40] at H
      exact absurd H (by simp)
     rw [if_pos c40] at H
     have c40b0 : decide (0 ≤ t344) = true := decide_eq_true c40
     clear c40
     by_cases c41 : t344 < (x328001_2.length : Int)
     rotate_left
     ·rw [if_neg c41] at H
      exact absurd H (by simp)
     rw [if_pos c41] at H
     have c41b0 : decide (t344 < (x328001_2.length : Int)) = true := decide_eq_true c41
     clear c41
     replace H := Option.bind_eq_some_iff.mp H
     obtain ⟨t346, A420, H⟩ := H
     have A42 := Aside0.mk A420
     clear A420
     obtain ⟨y347, hy347⟩ : ∃ y_ : List Int, y_ = (x328001_2.set (t344 : Int).toNat (wrap64 ((rd x328001_2 t344) + t346))) := ⟨_, rfl⟩
     replace H : (impl_ChannelOk.l0 k2 y334 (y334.length : Int) (wrap64 (x26_2 + 1)) l0_0 l0_1 l0_2 l0_3 l0_4 l0_5 y343 y347) = some r := by first | (rw [hy347]; with_reducible exact H) | (have H2_ := (Option.bind_some _ _).symm.trans H; rw [hy347]; with_reducible exact H2_) | (have H2_ := (Option.bind_some _ _).symm.trans H; with_reducible exact H2_) | with_reducible exact H | (rw [hy347]; exact H) | exact H
     have Ny347 := Aside0.mk hy347
     clear hy347
     have H' := Aside0.mk H
     clear H
     have p338 : 0 ≤ (x26_2 : Int) := of_decide_eq_true (by first | (with_reducible assumption) | assumption)
     have q338 : x26_2 < (y334.length : Int) := of_decide_eq_true (by first | (with_reducible assumption) | assumption)
     obtain ⟨ad338, A338_7, c338_7, e338, hx338_0, hx338_1, hx338_2, hx338_3, hx338_4, hx338_5, hx338_6, hx338_7, hl338_7, hi338_7⟩ := at_T38 (Kd.N_reads' HO_24.out).2.2 x26_2 p338 q338
     cases e338
     obtain ⟨ce338, hce338, hMe338, hcc338⟩ := Kd.N_get HO_24.out z38 x26_2 p338 (by first | exact q338 | exact of_decide_eq_true (by first | (with_reducible assumption) | assumption) | (have e_ := (Kd.N_reads' HO_24.out).1; omega))
     obtain ⟨ua338_7, uc338_7, rfl, ul338_7, ge338_7⟩ := k38_openF hMe338
     have hv338_7 := hcc338 7 _ rfl
     rw [add_field _ _ 7 (by omega)] at hv338_7
     replace hv338_7 := Option.some.inj (hv338_7.symm.trans hx338_7)
     injection hv338_7 with hva_ hvn_ hvc_
     rw [hva_] at ge338_7
     rw [hvc_] at ul338_7
     have HL338_7 := Aside0.mk (show Kd.V (Kd.int .i64) 3 _ w.heap.size _ _ ((rd_T38 y334 x26_2).f7) from Kd.V_mk ul338_7 ge338_7)
     clear hva_ hvn_ hvc_ ge338_7 ul338_7
     clear hcc338 hce338
     have HR338_7 := Aside0.mk hi338_7
     have HC338_7 := Aside0.mk hl338_7
     clear hi338_7 hl338_7
     replace p338 := eq_true p338
     replace q338 := eq_true q338
     try go_wp2_with (first | ((with_reducible refine gate_dst (N := 5) rfl ?_); refine box_event ?hg (N := 5) ?hd (cs := #[.int .i64 0, .int .i64 0, .int .i64 0, .int .i64 0, .int .i64 0, .int .i64 0, .int .i64 0, .slice none 0 0]) (t := 38) ?hr ?_; (case hd => rfl); (case hg => rfl); (case hr => first | (go_simp; done) | (go_simp; rfl)); intro gb339 hg w44 hbox hb; have n0_ := Aside0.mk (Kd.N_below (Kd.N_elderB (by (with_reducible repeat (first | apply Kd.N_alloc | apply Kd.N_drewN | apply Kd.N_drew)); exact HO_24.out) gb339 (Nat.le_of_eq hg.symm)) hb); have n1_ := Aside0.mk (Kd.V_below (Kd.V_elderB (by (with_reducible repeat (first | apply Kd.V_alloc | apply Kd.V_drewN | apply Kd.V_drew)); exact HO_319004.out) gb339 (Nat.le_of_eq hg.symm)) hb); have n2_ := Aside0.mk (Kd.V_below (Kd.V_elderB (by (with_reducible repeat (first | apply Kd.V_alloc | apply Kd.V_drewN | apply Kd.V_drew)); exact HO_319005.out) gb339 (Nat.le_of_eq hg.symm)) hb); have n3_ := Aside0.mk (Kd.R_below (rY HO_328000.out) hb); have n4_ := Aside0.mk (Kd.R_below (rY HO_328001.out) hb); have n5_ := Aside0.mk (Kd.V_below (Kd.V_elderB (by (with_reducible repeat (first | apply Kd.V_alloc | apply Kd.V_drewN | apply Kd.V_drew)); exact HL338_7.out) gb339 (Nat.le_of_eq hg.symm)) hb); have n6_ := Aside0.mk (blk_below (bY BK318.out) hb); have n7_ := Aside0.mk (blk_below (bY BK327.out) hb); have n8_ := Aside0.mk (Kd.C_below (by repeat (first | (with_reducible exact HR338_7.out) | (with_reducible refine Kd.C_alloc ?_ _) | (with_reducible refine Kd.C_drewN ?_ _) | (with_reducible refine Kd.C_drew ?_) | exact HR338_7.out)) hb); have n9_ := Aside0.mk (below_step (by repeat (first | (with_reducible first | exact HB.out | apply below_alloc | apply pw_below_drewN | apply below_drew1 | refine below_set ?_ GE318.out | refine below_set ?_ GE327.out) | exact HB.out)) hb); have n10_ := Aside0.mk (hbox); have n11_ := Aside0.mk ((by rw [hg]; exact (below_size (by repeat (first | (with_reducible first | exact HB.out | apply below_alloc | apply pw_below_drewN | apply below_drew1 | refine below_set ?_ GE318.out | refine below_set ?_ GE327.out) | exact HB.out))) : w.heap.size ≤ gb339)); have n12_ := Aside0.mk ((by rw [hg]; exact (below_size (by repeat (first | (with_reducible first | exact HB.out | apply below_alloc | apply pw_below_drewN | apply below_drew1 | refine below_set ?_ GE318.out | refine below_set ?_ GE327.out) | exact HB.out))) : w.heap.size ≤ gb339)); have n13_ := Aside0.mk ((by rw [hg]; exact Nat.ne_of_lt (blk_lt (bY BK318.out)) : gb318 ≠ gb339)); have n14_ := Aside0.mk ((by rw [hg]; exact Nat.ne_of_gt (blk_lt (bY BK318.out)) : gb339 ≠ gb318)); have n15_ := Aside0.mk ((by rw [hg]; exact Nat.ne_of_lt (blk_lt (bY BK327.out)) : gb327 ≠ gb339)); have n16_ := Aside0.mk ((by rw [hg]; exact Nat.ne_of_gt (blk_lt (bY BK327.out)) : gb339 ≠ gb327)); clear HO_24; clear HO_319004; clear HO_319005; clear HO_328000; clear HO_328001; clear HL338_7; clear BK318; clear BK327; clear HR338_7; clear HB; have HO_24 := n0_; have HO_319004 := n1_; have HO_319005 := n2_; have HO_328000 := n3_; have HO_328001 := n4_; have HL338_7 := n5_; have BK318 := n6_; have BK327 := n7_; have HR338_7 := n8_; have HB := n9_; have BK339 := n10_; have GW339 := n11_; have GE339 := n12_; have NB318_339 := n13_; have NB339_318 := n14_; have NB327_339 := n15_; have NB339_327 := n16_; clear n0_ n1_ n2_ n3_ n4_ n5_ n6_ n7_ n8_ n9_ n10_ n11_ n12_ n13_ n14_ n15_ n16_; clear hb hbox hg; have hnb45 := NB339_318.out; have hnc45 := NB318_339.out; have hnb46 := NB339_327.out; have hnc46 := NB327_339.out; have hcz47_0 : w44.cell? ⟨gb339, 0, none⟩ = some (.int .i64 0) := (blk_cell BK339.out 0).trans rfl; have hcz47_1 : w44.cell? ⟨gb339, 1, none⟩ = some (.int .i64 0) := (blk_cell BK339.out 1).trans rfl; have hcz47_2 : w44.cell? ⟨gb339, 2, none⟩ = some (.int .i64 0) := (blk_cell BK339.out 2).trans rfl; have hcz47_3 : w44.cell? ⟨gb339, 3, none⟩ = some (.int .i64 0) := (blk_cell BK339.out 3).trans rfl; have hcz47_4 : w44.cell? ⟨gb339, 4, none⟩ = some (.int .i64 0) := (blk_cell BK339.out 4).trans rfl; have hcz47_5 : w44.cell? ⟨gb339, 5, none⟩ = some (.int .i64 0) := (blk_cell BK339.out 5).trans rfl; have hcz47_6 : w44.cell? ⟨gb339, 6, none⟩ = some (.int .i64 0) := (blk_cell BK339.out 6).trans rfl; have hcz47_7 : w44.cell? ⟨gb339, 7, none⟩ = some (.slice none 0 0) := (blk_cell BK339.out 7).trans rfl; have hfz47_0 := blk_frozen BK339.out 0; have hfz47_1 := blk_frozen BK339.out 1; have hfz47_2 := blk_frozen BK339.out 2; have hfz47_3 := blk_frozen BK339.out 3; have hfz47_4 := blk_frozen BK339.out 4; have hfz47_5 := blk_frozen BK339.out 5; have hfz47_6 := blk_frozen BK339.out 6; have hfz47_7 := blk_frozen BK339.out 7) | ((with_reducible refine gate_callee (f := 43) rfl ?_); refine goesL_ (some 31) rfl rfl Try.func43 (by kernel_rfl) rfl #[.agg #[.int .i64 ((rd_T38 y334 x26_2).f0), .int .i64 ((rd_T38 y334 x26_2).f1), .int .i64 ((rd_T38 y334 x26_2).f2), .int .i64 ((rd_T38 y334 x26_2).f3), .int .i64 ((rd_T38 y334 x26_2).f4), .int .i64 ((rd_T38 y334 x26_2).f5), .int .i64 ((rd_T38 y334 x26_2).f6), .slice A338_7 ((rd_T38 y334 x26_2).f7).length c338_7]] rfl (by (try simp only [List.map_toArray, List.map_cons, List.map_nil]); first | done | rfl) ?_; (with_reducible refine (impl_IsPacket.calls k2 ((rd_T38 y334 x26_2).f0) ((rd_T38 y334 x26_2).f1) ((rd_T38 y334 x26_2).f2) ((rd_T38 y334 x26_2).f3) ((rd_T38 y334 x26_2).f4) ((rd_T38 y334 x26_2).f5) ((rd_T38 y334 x26_2).f6) _ _ ((rd_T38 y334 x26_2).f7) true _ ?side1 ?side2 A33.out).mono ?_); (case side1 => repeat (first | exact ((Kd.V_reads' (by (with_reducible repeat (first | apply Kd.V_alloc | apply Kd.V_drewN | apply Kd.V_drew)); exact (Kd.V_mono (Kd.V_far (p := ⟨gb339, 7, none⟩) (Kd.V_far (p := ⟨gb339, 6, none⟩) (Kd.V_far (p := ⟨gb339, 5, none⟩) (Kd.V_far (p := ⟨gb339, 4, none⟩) (Kd.V_far (p := ⟨gb339, 3, none⟩) (Kd.V_far (p := ⟨gb339, 2, none⟩) (Kd.V_far (p := ⟨gb339, 1, none⟩) (Kd.V_far (p := ⟨gb339, 0, none⟩) (Kd.V_mono HL338_7.out (fun k_ hk => (⟨hk, hk.2⟩ : _ ∧ k_ ≠ gb339))) (fun _ hk => hk.2) (.int .i64 ((rd_T38 y334 x26_2).f0))) (fun _ hk => hk.2) (.int .i64 ((rd_T38 y334 x26_2).f1))) (fun _ hk => hk.2) (.int .i64 ((rd_T38 y334 x26_2).f2))) (fun _ hk => hk.2) (.int .i64 ((rd_T38 y334 x26_2).f3))) (fun _ hk => hk.2) (.int .i64 ((rd_T38 y334 x26_2).f4))) (fun _ hk => hk.2) (.int .i64 ((rd_T38 y334 x26_2).f5))) (fun _ hk => hk.2) (.int .i64 ((rd_T38 y334 x26_2).f6))) (fun _ hk => hk.2) (.slice A338_7 ((rd_T38 y334 x26_2).f7).length c338_7)) (fun _ h_ => h_.1)))).2.2) | (with_reducible refine Kd.C_alloc ?_ _) | (with_reducible refine Kd.C_drewN ?_ _) | (with_reducible refine Kd.C_drew ?_))); (case side2 => exact HC338_7.out); rintro e w48 ⟨rfl, hb⟩; refine ⟨_, rfl, ?_⟩; have n0_ := Aside0.mk (Kd.N_below (by (with_reducible repeat (first | apply Kd.N_alloc | apply Kd.N_drewN | apply Kd.N_drew)); exact (Kd.N_mono (Kd.N_far (p := ⟨gb339, 7, none⟩) (Kd.N_far (p := ⟨gb339, 6, none⟩) (Kd.N_far (p := ⟨gb339, 5, none⟩) (Kd.N_far (p := ⟨gb339, 4, none⟩) (Kd.N_far (p := ⟨gb339, 3, none⟩) (Kd.N_far (p := ⟨gb339, 2, none⟩) (Kd.N_far (p := ⟨gb339, 1, none⟩) (Kd.N_far (p := ⟨gb339, 0, none⟩) (Kd.N_mono HO_24.out (fun k_ hk => (⟨hk, hk.2⟩ : _ ∧ k_ ≠ gb339))) (fun _ hk => hk.2) (.int .i64 ((rd_T38 y334 x26_2).f0))) (fun _ hk => hk.2) (.int .i64 ((rd_T38 y334 x26_2).f1))) (fun _ hk => hk.2) (.int .i64 ((rd_T38 y334 x26_2).f2))) (fun _ hk => hk.2) (.int .i64 ((rd_T38 y334 x26_2).f3))) (fun _ hk => hk.2) (.int .i64 ((rd_T38 y334 x26_2).f4))) (fun _ hk => hk.2) (.int .i64 ((rd_T38 y334 x26_2).f5))) (fun _ hk => hk.2) (.int .i64 ((rd_T38 y334 x26_2).f6))) (fun _ hk => hk.2) (.slice A338_7 ((rd_T38 y334 x26_2).f7).length c338_7)) (fun _ h_ => h_.1))) hb); have n1_ := Aside0.mk (Kd.V_below (by (with_reducible repeat (first | apply Kd.V_alloc | apply Kd.V_drewN | apply Kd.V_drew)); exact (Kd.V_mono (Kd.V_far (p := ⟨gb339, 7, none⟩) (Kd.V_far (p := ⟨gb339, 6, none⟩) (Kd.V_far (p := ⟨gb339, 5, none⟩) (Kd.V_far (p := ⟨gb339, 4, none⟩) (Kd.V_far (p := ⟨gb339, 3, none⟩) (Kd.V_far (p := ⟨gb339, 2, none⟩) (Kd.V_far (p := ⟨gb339, 1, none⟩) (Kd.V_far (p := ⟨gb339, 0, none⟩) (Kd.V_mono HO_319004.out (fun k_ hk => (⟨hk, hk.2⟩ : _ ∧ k_ ≠ gb339))) (fun _ hk => hk.2) (.int .i64 ((rd_T38 y334 x26_2).f0))) (fun _ hk => hk.2) (.int .i64 ((rd_T38 y334 x26_2).f1))) (fun _ hk => hk.2) (.int .i64 ((rd_T38 y334 x26_2).f2))) (fun _ hk => hk.2) (.int .i64 ((rd_T38 y334 x26_2).f3))) (fun _ hk => hk.2) (.int .i64 ((rd_T38 y334 x26_2).f4))) (fun _ hk => hk.2) (.int .i64 ((rd_T38 y334 x26_2).f5))) (fun _ hk => hk.2) (.int .i64 ((rd_T38 y334 x26_2).f6))) (fun _ hk => hk.2) (.slice A338_7 ((rd_T38 y334 x26_2).f7).length c338_7)) (fun _ h_ => h_.1))) hb); have n2_ := Aside0.mk (Kd.V_below (by (with_reducible repeat (first | apply Kd.V_alloc | apply Kd.V_drewN | apply Kd.V_drew)); exact (Kd.V_mono (Kd.V_far (p := ⟨gb339, 7, none⟩) (Kd.V_far (p := ⟨gb339, 6, none⟩) (Kd.V_far (p := ⟨gb339, 5, none⟩) (Kd.V_far (p := ⟨gb339, 4, none⟩) (Kd.V_far (p := ⟨gb339, 3, none⟩) (Kd.V_far (p := ⟨gb339, 2, none⟩) (Kd.V_far (p := ⟨gb339, 1, none⟩) (Kd.V_far (p := ⟨gb339, 0, none⟩) (Kd.V_mono HO_319005.out (fun k_ hk => (⟨hk, hk.2⟩ : _ ∧ k_ ≠ gb339))) (fun _ hk => hk.2) (.int .i64 ((rd_T38 y334 x26_2).f0))) (fun _ hk => hk.2) (.int .i64 ((rd_T38 y334 x26_2).f1))) (fun _ hk => hk.2) (.int .i64 ((rd_T38 y334 x26_2).f2))) (fun _ hk => hk.2) (.int .i64 ((rd_T38 y334 x26_2).f3))) (fun _ hk => hk.2) (.int .i64 ((rd_T38 y334 x26_2).f4))) (fun _ hk => hk.2) (.int .i64 ((rd_T38 y334 x26_2).f5))) (fun _ hk => hk.2) (.int .i64 ((rd_T38 y334 x26_2).f6))) (fun _ hk => hk.2) (.slice A338_7 ((rd_T38 y334 x26_2).f7).length c338_7)) (fun _ h_ => h_.1))) hb); have n3_ := Aside0.mk (Kd.R_below (by (repeat apply rX); exact (Kd.R_mono (Kd.R_far (p := ⟨gb339, 7, none⟩) (Kd.R_far (p := ⟨gb339, 6, none⟩) (Kd.R_far (p := ⟨gb339, 5, none⟩) (Kd.R_far (p := ⟨gb339, 4, none⟩) (Kd.R_far (p := ⟨gb339, 3, none⟩) (Kd.R_far (p := ⟨gb339, 2, none⟩) (Kd.R_far (p := ⟨gb339, 1, none⟩) (Kd.R_far (p := ⟨gb339, 0, none⟩) (Kd.R_types HO_328000.out BK339.out (by decide)) (fun _ hk => hk.2) (.int .i64 ((rd_T38 y334 x26_2).f0))) (fun _ hk => hk.2) (.int .i64 ((rd_T38 y334 x26_2).f1))) (fun _ hk => hk.2) (.int .i64 ((rd_T38 y334 x26_2).f2))) (fun _ hk => hk.2) (.int .i64 ((rd_T38 y334 x26_2).f3))) (fun _ hk => hk.2) (.int .i64 ((rd_T38 y334 x26_2).f4))) (fun _ hk => hk.2) (.int .i64 ((rd_T38 y334 x26_2).f5))) (fun _ hk => hk.2) (.int .i64 ((rd_T38 y334 x26_2).f6))) (fun _ hk => hk.2) (.slice A338_7 ((rd_T38 y334 x26_2).f7).length c338_7)) (fun _ h_ => h_.1))) hb); have n4_ := Aside0.mk (Kd.R_below (by (repeat apply rX); exact (Kd.R_mono (Kd.R_far (p := ⟨gb339, 7, none⟩) (Kd.R_far (p := ⟨gb339, 6, none⟩) (Kd.R_far (p := ⟨gb339, 5, none⟩) (Kd.R_far (p := ⟨gb339, 4, none⟩) (Kd.R_far (p := ⟨gb339, 3, none⟩) (Kd.R_far (p := ⟨gb339, 2, none⟩) (Kd.R_far (p := ⟨gb339, 1, none⟩) (Kd.R_far (p := ⟨gb339, 0, none⟩) (Kd.R_types HO_328001.out BK339.out (by decide)) (fun _ hk => hk.2) (.int .i64 ((rd_T38 y334 x26_2).f0))) (fun _ hk => hk.2) (.int .i64 ((rd_T38 y334 x26_2).f1))) (fun _ hk => hk.2) (.int .i64 ((rd_T38 y334 x26_2).f2))) (fun _ hk => hk.2) (.int .i64 ((rd_T38 y334 x26_2).f3))) (fun _ hk => hk.2) (.int .i64 ((rd_T38 y334 x26_2).f4))) (fun _ hk => hk.2) (.int .i64 ((rd_T38 y334 x26_2).f5))) (fun _ hk => hk.2) (.int .i64 ((rd_T38 y334 x26_2).f6))) (fun _ hk => hk.2) (.slice A338_7 ((rd_T38 y334 x26_2).f7).length c338_7)) (fun _ h_ => h_.1))) hb); have n5_ := Aside0.mk (Kd.V_below (by (with_reducible repeat (first | apply Kd.V_alloc | apply Kd.V_drewN | apply Kd.V_drew)); exact (Kd.V_mono (Kd.V_far (p := ⟨gb339, 7, none⟩) (Kd.V_far (p := ⟨gb339, 6, none⟩) (Kd.V_far (p := ⟨gb339, 5, none⟩) (Kd.V_far (p := ⟨gb339, 4, none⟩) (Kd.V_far (p := ⟨gb339, 3, none⟩) (Kd.V_far (p := ⟨gb339, 2, none⟩) (Kd.V_far (p := ⟨gb339, 1, none⟩) (Kd.V_far (p := ⟨gb339, 0, none⟩) (Kd.V_mono HL338_7.out (fun k_ hk => (⟨hk, hk.2⟩ : _ ∧ k_ ≠ gb339))) (fun _ hk => hk.2) (.int .i64 ((rd_T38 y334 x26_2).f0))) (fun _ hk => hk.2) (.int .i64 ((rd_T38 y334 x26_2).f1))) (fun _ hk => hk.2) (.int .i64 ((rd_T38 y334 x26_2).f2))) (fun _ hk => hk.2) (.int .i64 ((rd_T38 y334 x26_2).f3))) (fun _ hk => hk.2) (.int .i64 ((rd_T38 y334 x26_2).f4))) (fun _ hk => hk.2) (.int .i64 ((rd_T38 y334 x26_2).f5))) (fun _ hk => hk.2) (.int .i64 ((rd_T38 y334 x26_2).f6))) (fun _ hk => hk.2) (.slice A338_7 ((rd_T38 y334 x26_2).f7).length c338_7)) (fun _ h_ => h_.1))) hb); have n6_ := Aside0.mk (blk_below (g := gb318) (o := .cells #[.slice A0_0 l0_0.length c0_0, .slice A0_1 l0_1.length c0_1, .slice A0_2 l0_2.length c0_2, .slice A0_3 l0_3.length c0_3, .slice A0_4 l0_4.length c0_4, .slice A0_5 l0_5.length c0_5] 33 (0, 0)) (by (repeat apply bX); refine blk_far ?_ NB318_339.out _; (repeat apply bX); refine blk_far ?_ NB318_339.out _; (repeat apply bX); refine blk_far ?_ NB318_339.out _; (repeat apply bX); refine blk_far ?_ NB318_339.out _; (repeat apply bX); refine blk_far ?_ NB318_339.out _; (repeat apply bX); refine blk_far ?_ NB318_339.out _; (repeat apply bX); refine blk_far ?_ NB318_339.out _; (repeat apply bX); refine blk_far ?_ NB318_339.out _; (repeat apply bX); exact BK318.out) hb); have n7_ := Aside0.mk (blk_below (g := gb327) (o := .cells #[u328000, u328001] 30 (0, 0)) (by (repeat apply bX); refine blk_far ?_ NB327_339.out _; (repeat apply bX); refine blk_far ?_ NB327_339.out _; (repeat apply bX); refine blk_far ?_ NB327_339.out _; (repeat apply bX); refine blk_far ?_ NB327_339.out _; (repeat apply bX); refine blk_far ?_ NB327_339.out _; (repeat apply bX); refine blk_far ?_ NB327_339.out _; (repeat apply bX); refine blk_far ?_ NB327_339.out _; (repeat apply bX); refine blk_far ?_ NB327_339.out _; (repeat apply bX); exact BK327.out) hb); have n8_ := Aside0.mk (Kd.C_below ((Kd.V_reads' (by (with_reducible repeat (first | apply Kd.V_alloc | apply Kd.V_drewN | apply Kd.V_drew)); exact (Kd.V_mono (Kd.V_far (p := ⟨gb339, 7, none⟩) (Kd.V_far (p := ⟨gb339, 6, none⟩) (Kd.V_far (p := ⟨gb339, 5, none⟩) (Kd.V_far (p := ⟨gb339, 4, none⟩) (Kd.V_far (p := ⟨gb339, 3, none⟩) (Kd.V_far (p := ⟨gb339, 2, none⟩) (Kd.V_far (p := ⟨gb339, 1, none⟩) (Kd.V_far (p := ⟨gb339, 0, none⟩) (Kd.V_mono HL338_7.out (fun k_ hk => (⟨hk, hk.2⟩ : _ ∧ k_ ≠ gb339))) (fun _ hk => hk.2) (.int .i64 ((rd_T38 y334 x26_2).f0))) (fun _ hk => hk.2) (.int .i64 ((rd_T38 y334 x26_2).f1))) (fun _ hk => hk.2) (.int .i64 ((rd_T38 y334 x26_2).f2))) (fun _ hk => hk.2) (.int .i64 ((rd_T38 y334 x26_2).f3))) (fun _ hk => hk.2) (.int .i64 ((rd_T38 y334 x26_2).f4))) (fun _ hk => hk.2) (.int .i64 ((rd_T38 y334 x26_2).f5))) (fun _ hk => hk.2) (.int .i64 ((rd_T38 y334 x26_2).f6))) (fun _ hk => hk.2) (.slice A338_7 ((rd_T38 y334 x26_2).f7).length c338_7)) (fun _ h_ => h_.1)))).2.2) hb); have n9_ := Aside0.mk (blk_below (g := gb339) (o := .cells #[.int .i64 ((rd_T38 y334 x26_2).f0), .int .i64 ((rd_T38 y334 x26_2).f1), .int .i64 ((rd_T38 y334 x26_2).f2), .int .i64 ((rd_T38 y334 x26_2).f3), .int .i64 ((rd_T38 y334 x26_2).f4), .int .i64 ((rd_T38 y334 x26_2).f5), .int .i64 ((rd_T38 y334 x26_2).f6), .slice A338_7 ((rd_T38 y334 x26_2).f7).length c338_7] 38 (0, 0)) (by (repeat apply bX); refine blk_put (cs := #[.int .i64 ((rd_T38 y334 x26_2).f0), .int .i64 ((rd_T38 y334 x26_2).f1), .int .i64 ((rd_T38 y334 x26_2).f2), .int .i64 ((rd_T38 y334 x26_2).f3), .int .i64 ((rd_T38 y334 x26_2).f4), .int .i64 ((rd_T38 y334 x26_2).f5), .int .i64 ((rd_T38 y334 x26_2).f6), .slice none 0 0]) ?_ 7 _ rfl; (repeat apply bX); refine blk_put (cs := #[.int .i64 ((rd_T38 y334 x26_2).f0), .int .i64 ((rd_T38 y334 x26_2).f1), .int .i64 ((rd_T38 y334 x26_2).f2), .int .i64 ((rd_T38 y334 x26_2).f3), .int .i64 ((rd_T38 y334 x26_2).f4), .int .i64 ((rd_T38 y334 x26_2).f5), .int .i64 0, .slice none 0 0]) ?_ 6 _ rfl; (repeat apply bX); refine blk_put (cs := #[.int .i64 ((rd_T38 y334 x26_2).f0), .int .i64 ((rd_T38 y334 x26_2).f1), .int .i64 ((rd_T38 y334 x26_2).f2), .int .i64 ((rd_T38 y334 x26_2).f3), .int .i64 ((rd_T38 y334 x26_2).f4), .int .i64 0, .int .i64 0, .slice none 0 0]) ?_ 5 _ rfl; (repeat apply bX); refine blk_put (cs := #[.int .i64 ((rd_T38 y334 x26_2).f0), .int .i64 ((rd_T38 y334 x26_2).f1), .int .i64 ((rd_T38 y334 x26_2).f2), .int .i64 ((rd_T38 y334 x26_2).f3), .int .i64 0, .int .i64 0, .int .i64 0, .slice none 0 0]) ?_ 4 _ rfl; (repeat apply bX); refine blk_put (cs := #[.int .i64 ((rd_T38 y334 x26_2).f0), .int .i64 ((rd_T38 y334 x26_2).f1), .int .i64 ((rd_T38 y334 x26_2).f2), .int .i64 0, .int .i64 0, .int .i64 0, .int .i64 0, .slice none 0 0]) ?_ 3 _ rfl; (repeat apply bX); refine blk_put (cs := #[.int .i64 ((rd_T38 y334 x26_2).f0), .int .i64 ((rd_T38 y334 x26_2).f1), .int .i64 0, .int .i64 0, .int .i64 0, .int .i64 0, .int .i64 0, .slice none 0 0]) ?_ 2 _ rfl; (repeat apply bX); refine blk_put (cs := #[.int .i64 ((rd_T38 y334 x26_2).f0), .int .i64 0, .int .i64 0, .int .i64 0, .int .i64 0, .int .i64 0, .int .i64 0, .slice none 0 0]) ?_ 1 _ rfl; (repeat apply bX); refine blk_put (cs := #[.int .i64 0, .int .i64 0, .int .i64 0, .int .i64 0, .int .i64 0, .int .i64 0, .int .i64 0, .slice none 0 0]) ?_ 0 _ rfl; (repeat apply bX); exact BK339.out) hb); have n10_ := Aside0.mk (below_step (by repeat (first | (with_reducible first | exact HB.out | apply below_alloc | apply pw_below_drewN | apply below_drew1 | refine below_set ?_ GE318.out | refine below_set ?_ GE327.out | refine below_set ?_ GE339.out) | exact HB.out)) hb); clear HO_24; clear HO_319004; clear HO_319005; clear HO_328000; clear HO_328001; clear HL338_7; clear BK318; clear BK327; clear HR338_7; clear BK339; clear HB; have HO_24 := n0_; have HO_319004 := n1_; have HO_319005 := n2_; have HO_328000 := n3_; have HO_328001 := n4_; have HL338_7 := n5_; have BK318 := n6_; have BK327 := n7_; have HR338_7 := n8_; have BK339 := n9_; have HB := n10_; clear n0_ n1_ n2_ n3_ n4_ n5_ n6_ n7_ n8_ n9_ n10_; (try clear hb); (try clear hb2); (try clear hk); (try clear hi)))
     have n0_ := Aside0.mk (Kd.N_drew HO_24.out)
     have n1_ := Aside0.mk (Kd.V_drew HO_319004.out)
     have n2_ := Aside0.mk (Kd.V_drew HO_319005.out)
     have n3_ := Aside0.mk (Kd.R_drew HO_328000.out)
     have n4_ := Aside0.mk (Kd.R_drew HO_328001.out)
     have n5_ := Aside0.mk (Kd.V_drew HL338_7.out)
     have n6_ := Aside0.mk (blk_drew BK318.out)
     have n7_ := Aside0.mk (blk_drew BK327.out)
     have n8_ := Aside0.mk (blk_drew BK339.out)
     have n9_ := Aside0.mk (Kd.C_drew HR338_7.out)
     have n10_ := Aside0.mk (below_drew1 HB.out)
     clear HO_24
     clear HO_319004
     clear HO_319005
     clear HO_328000
     clear HO_328001
     clear HL338_7
     clear BK318
     clear BK327
     clear BK339
     clear HR338_7
     clear HB
     have HO_24 := n0_
     have HO_319004 := n1_
     have HO_319005 := n2_
     have HO_328000 := n3_
     have HO_328001 := n4_
     have HL338_7 := n5_
     have BK318 := n6_
     have BK327 := n7_
     have BK339 := n8_
     have HR338_7 := n9_
     have HB := n10_
     clear n0_ n1_ n2_ n3_ n4_ n5_ n6_ n7_ n8_ n9_ n10_
     have p342 : 0 ≤ (t341 : Int) := of_decide_eq_true (by first | (with_reducible assumption) | assumption)
     have q342 : t341 < (x328000_2.length : Int) := of_decide_eq_true (by first | (with_reducible assumption) | assumption)
     obtain ⟨Ao342, co342, eo342⟩ := Kd.R_slice HO_328000.out
     have HR342_ := HO_328000.out
     rw [eo342] at HR342_
     obtain ⟨ad342, e342, hx342_0⟩ := Kd.at_int (Kd.R_reads' HR342_).2.2 t341 p342 q342
     clear HR342_
     cases e342
     replace p342 := eq_true p342
     replace q342 := eq_true q342
     refine start_ (n := 9) (S := fun w' => w'.cell? ⟨gb327, 0, none⟩ = some (u328000) ∧ w'.cell? ⟨gb327, 1, none⟩ = some (u328001) ∧ w'.cell? ⟨gb339, 0, none⟩ = some (.int .i64 ((rd_T38 y334 x26_2).f0)) ∧ w'.cell? ⟨gb339, 1, none⟩ = some (.int .i64 ((rd_T38 y334 x26_2).f1)) ∧ w'.cell? ⟨gb339, 2, none⟩ = some (.int .i64 ((rd_T38 y334 x26_2).f2)) ∧ w'.cell? ⟨gb339, 3, none⟩ = some (.int .i64 ((rd_T38 y334 x26_2).f3)) ∧ w'.cell? ⟨gb339, 4, none⟩ = some (.int .i64 ((rd_T38 y334 x26_2).f4)) ∧ w'.cell? ⟨gb339, 5, none⟩ = some (.int .i64 ((rd_T38 y334 x26_2).f5)) ∧ w'.cell? ⟨gb339, 6, none⟩ = some (.int .i64 ((rd_T38 y334 x26_2).f6)) ∧ w'.cell? ⟨gb339, 7, none⟩ = some (.slice A338_7 ((rd_T38 y334 x26_2).f7).length c338_7) ∧ w'.cell? (ad342.add (t341).toNat) = some (.int .i64 (rd x328000_2 t341))) (ds := [8]) #[F, F, F, F, F, F, F, F, F] (by kernel_rfl) rfl rfl ⟨(blk_cell BK327.out 0).trans rfl, (blk_cell BK327.out 1).trans rfl, (blk_cell BK339.out 0).trans rfl, (blk_cell BK339.out 1).trans rfl, (blk_cell BK339.out 2).trans rfl, (blk_cell BK339.out 3).trans rfl, (blk_cell BK339.out 4).trans rfl, (blk_cell BK339.out 5).trans rfl, (blk_cell BK339.out 6).trans rfl, (blk_cell BK339.out 7).trans rfl, hx342_0⟩ (fun hHeld => ?_); refine with_tabW impl_ChannelOk.tab9 impl_ChannelOk.bits9 (fun HT_ HW_ => ?_)
     generalize w48.drew = w49 at HO_24 HO_319004 HO_319005 HO_328000 HO_328001 HL338_7 BK318 BK327 BK339 HR338_7 HB hx342_0 hHeld ⊢
     refine pure_ (i := 0) (N := some 33) (v := ?_) (a' := ?_) #[T, F, F, F, F, F, F, F, F] rfl rfl (any_of HT_.out (by kernel_rfl)) (fun _ _ _ h => h) (Or.inl ⟨by rfl, ?_⟩) ?_ ?_
     rotate_left
     ·intro w'
      go_simp
      with_reducible rfl
     rotate_left
     ·simp only [pS]
      rfl
     refine take_ (i := 1) (N := some 34) (v := ?_) (a' := ?_) #[T, T, F, F, F, F, F, F, F] rfl rfl (take_ofW HT_.out HW_.out (by kernel_rfl)) (fun _ _ _ h => h) (Or.inl ⟨by rfl, ?_⟩) hHeld ?_ ?_
     rotate_left
     ·rintro w' ⟨s0, s1, s2, s3, s4, s5, s6, s7, s8, s9, s10⟩
      go_simp
      with_reducible rfl
     rotate_left
     ·simp only [pS]
      rfl
     refine take_ (i := 2) (N := some 35) (v := ?_) (a' := ?_) #[T, T, T, F, F, F, F, F, F] rfl rfl (take_ofW HT_.out HW_.out (by kernel_rfl)) (fun _ _ _ h => h) (Or.inl ⟨by rfl, ?_⟩) hHeld ?_ ?_
     rotate_left
     ·rintro w' ⟨s0, s1, s2, s3, s4, s5, s6, s7, s8, s9, s10⟩
      go_simp
      with_reducible rfl
     rotate_left
     ·simp only [pS]
      rfl
     refine one_ (i := 3) (N := some 36) #[T, T, T, T, F, F, F, F, F] rfl rfl (one_of HT_.out (by kernel_rfl)) (by decide) (fun K hK => ?_)
     refine goes_ Try.func44 (by kernel_rfl) rfl #[.agg #[.int .i64 ((rd_T38 y334 x26_2).f0), .int .i64 ((rd_T38 y334 x26_2).f1), .int .i64 ((rd_T38 y334 x26_2).f2), .int .i64 ((rd_T38 y334 x26_2).f3), .int .i64 ((rd_T38 y334 x26_2).f4), .int .i64 ((rd_T38 y334 x26_2).f5), .int .i64 ((rd_T38 y334 x26_2).f6), .slice A338_7 ((rd_T38 y334 x26_2).f7).length c338_7]] (by rfl) rfl rfl (by (try simp only [List.map_toArray, List.map_cons, List.map_nil]); first | done | rfl) ?_
     with_reducible refine (impl_ClassOf.calls k2 ((rd_T38 y334 x26_2).f0) ((rd_T38 y334 x26_2).f1) ((rd_T38 y334 x26_2).f2) ((rd_T38 y334 x26_2).f3) ((rd_T38 y334 x26_2).f4) ((rd_T38 y334 x26_2).f5) ((rd_T38 y334 x26_2).f6) _ _ ((rd_T38 y334 x26_2).f7) t341 _ ?side1 ?side2 A35.out).mono ?_
     (case side1 => repeat (first | exact (by repeat (first | (with_reducible exact HR338_7.out) | (with_reducible refine Kd.C_alloc ?_ _) | (with_reducible refine Kd.C_drewN ?_ _) | (with_reducible refine Kd.C_drew ?_) | exact HR338_7.out)) | (with_reducible refine Kd.C_alloc ?_ _) | (with_reducible refine Kd.C_drewN ?_ _) | (with_reducible refine Kd.C_drew ?_)))
     (case side2 => exact HC338_7.out)
     rintro e w50 ⟨rfl, hb⟩
     have HS10_ := (hb.cell (World.block_lt_of_cell? _ _ (hHeld.2.2.2.2.2.2.2.2.2.2))).trans (hHeld.2.2.2.2.2.2.2.2.2.2)
     refine ⟨_, rfl, ?_⟩
     have n0_ := Aside0.mk (Kd.N_below (by (with_reducible repeat (first | apply Kd.N_alloc | apply Kd.N_drewN | apply Kd.N_drew)); exact HO_24.out) hb)
     have n1_ := Aside0.mk (Kd.V_below (by (with_reducible repeat (first | apply Kd.V_alloc | apply Kd.V_drewN | apply Kd.V_drew)); exact HO_319004.out) hb)
     have n2_ := Aside0.mk (Kd.V_below (by (with_reducible repeat (first | apply Kd.V_alloc | apply Kd.V_drewN | apply Kd.V_drew)); exact HO_319005.out) hb)
     have n3_ := Aside0.mk (Kd.R_below (rY HO_328000.out) hb)
     have n4_ := Aside0.mk (Kd.R_below (rY HO_328001.out) hb)
     have n5_ := Aside0.mk (Kd.V_below (by (with_reducible repeat (first | apply Kd.V_alloc | apply Kd.V_drewN | apply Kd.V_drew)); exact HL338_7.out) hb)
     have n6_ := Aside0.mk (blk_below (bY BK318.out) hb)
     have n7_ := Aside0.mk (blk_below (bY BK327.out) hb)
     have n8_ := Aside0.mk (Kd.C_below (by repeat (first | (with_reducible exact HR338_7.out) | (with_reducible refine Kd.C_alloc ?_ _) | (with_reducible refine Kd.C_drewN ?_ _) | (with_reducible refine Kd.C_drew ?_) | exact HR338_7.out)) hb)
     have n9_ := Aside0.mk (blk_below (bY BK339.out) hb)
     have n10_ := Aside0.mk (below_step (by repeat (first | (with_reducible first | exact HB.out | apply below_alloc | apply pw_below_drewN | apply below_drew1 | refine below_set ?_ GE318.out | refine below_set ?_ GE327.out | refine below_set ?_ GE339.out) | exact HB.out)) hb)
     clear HO_24
     clear HO_319004
     clear HO_319005
     clear HO_328000
     clear HO_328001
     clear HL338_7
     clear BK318
     clear BK327
     clear HR338_7
     clear BK339
     clear HB
     have HO_24 := n0_
     have HO_319004 := n1_
     have HO_319005 := n2_
     have HO_328000 := n3_
     have HO_328001 := n4_
     have HL338_7 := n5_
     have BK318 := n6_
     have BK327 := n7_
     have HR338_7 := n8_
     have BK339 := n9_
     have HB := n10_
     clear n0_ n1_ n2_ n3_ n4_ n5_ n6_ n7_ n8_ n9_ n10_
     obtain ⟨Ao51, co51, eo51⟩ := Kd.R_slice HO_328000.out
     (first | subst eo51 | (injection eo51 with f1_ f2_ f3_; have f4_ := f1_.symm; have f5_ := f3_.symm; clear f1_ f2_ f3_; subst f4_; subst f5_))
     (try (injection eo342 with f1_ f2_ f3_; subst f1_; subst f3_))
     have p38 : 0 ≤ (t341 : Int) := of_decide_eq_true (by first | (with_reducible assumption) | assumption)
     have q38 : (t341 : Int) < ((x328000_2.length : Int) : Int) := of_decide_eq_true (by first | (with_reducible assumption) | assumption)
     obtain ⟨go38, co38, eo38, gb38, gl38, cl38, HG38⟩ := Kd.R_form HO_328000.out (by omega)
     (first | cases eo38 | (injection eo38 with ea_ en_ ec_; (first | subst ea_ | (injection ea_ with ea_; subst ea_)); subst ec_; clear en_))
     have GB38 := Aside0.mk gb38
     have GG38 := Aside0.mk HG38
     clear gb38 gl38 HG38
     (first | simp only [add_plain] at hx342_0 | skip)
     obtain ⟨hx38_0, hf38_0⟩ := Kd.R_celln 0 HO_328000.out (t341 : Int) p38 q38
     replace p38 := eq_true p38
     replace q38 := eq_true q38
     have HP52 := Kd.R_putn HO_328000.out (t341 : Int) (wrap64 ((rd x328000_2 t341) + 1))
     rw [← Ny343.out] at HP52
     have HQ52 := Aside0.mk HP52
     clear HP52
     refine hK.out _ _ ⟨(blk_cell BK327.out 0).trans rfl, (blk_cell BK327.out 1).trans rfl, (blk_cell BK339.out 0).trans rfl, (blk_cell BK339.out 1).trans rfl, (blk_cell BK339.out 2).trans rfl, (blk_cell BK339.out 3).trans rfl, (blk_cell BK339.out 4).trans rfl, (blk_cell BK339.out 5).trans rfl, (blk_cell BK339.out 6).trans rfl, (blk_cell BK339.out 7).trans rfl, HS10_⟩ (fun hHeld => ?_)
     clear hK K
     refine norm_ (a' := ?_) ?_ ?_
     rotate_left
     ·show Act.put _ (some 36) _ = _
      simp only [pS]
      rfl
     refine pure_ (i := 4) (N := some 37) (v := ?_) (a' := ?_) #[T, T, T, T, T, F, F, F, F] rfl rfl (any_of HT_.out (by kernel_rfl)) (fun _ _ _ h => h) (Or.inl ⟨by rfl, ?_⟩) ?_ ?_
     rotate_left
     ·intro w'
      go_simp
      with_reducible rfl
     rotate_left
     ·simp only [pS]
      rfl
     refine take_ (i := 5) (N := some 38) (v := ?_) (a' := ?_) #[T, T, T, T, T, T, F, F, F] rfl rfl (take_ofW HT_.out HW_.out (by kernel_rfl)) (fun _ _ _ h => h) (Or.inl ⟨by rfl, ?_⟩) hHeld ?_ ?_
     rotate_left
     ·rintro w' ⟨s0, s1, s2, s3, s4, s5, s6, s7, s8, s9, s10⟩
      (try simp only [add_plain, Nat.zero_add] at s10)
      go_simp
      with_reducible rfl
     rotate_left
     ·simp only [pS]
      rfl
     refine pure_ (i := 6) (N := some 39) (v := ?_) (a' := ?_) #[T, T, T, T, T, T, T, F, F] rfl rfl (any_of HT_.out (by kernel_rfl)) (fun _ _ _ h => h) (Or.inl ⟨by rfl, ?_⟩) ?_ ?_
     rotate_left
     ·intro w'
      go_simp
      with_reducible rfl
     rotate_left
     ·simp only [pS]
      rfl
     refine pure_ (i := 7) (N := some 40) (v := ?_) (a' := ?_) #[T, T, T, T, T, T, T, T, F] rfl rfl (any_of HT_.out (by kernel_rfl)) (fun _ _ _ h => h) (Or.inl ⟨by rfl, ?_⟩) ?_ ?_
     rotate_left
     ·intro w'
      go_simp
      with_reducible rfl
     rotate_left
     ·simp only [pS]
      rfl
     refine last_ (i := 8) (N := none) #[T, T, T, T, T, T, T, T, T] rfl rfl (one_of HT_.out (by kernel_rfl)) (by decide) (fun K hK => ?_)
     refine skip_ (w1 := ?_) (by rfl) rfl ?_ ?_
     rotate_left
     ·go_simp
      rfl
     refine hK.out _ _ ?_
     clear hK K
     refine done_ (done_of HT_.out (by kernel_rfl)) ?_
     try go_wp2
     have n0_ : Aside0 (Kd.N k38 38 (w50.setCell ⟨go38, (t341 : Int).toNat, none⟩ (.int .i64 (wrap64 ((rd x328000_2 t341) + 1)))) w.heap.size (fun k_ => ((P0_4_ k_ ∨ P0_5_ k_) ∨ w.heap.size ≤ k_) ∧ some k_ ≠ (.slice (some ⟨go38, 0, none⟩) x328000_2.length co51 : Value).ownBlock ∧ some k_ ≠ (u328001 : Value).ownBlock ∧ k_ ≠ gb318 ∧ k_ ≠ gb327 ∧ k_ ≠ gb339) (.slice (some ad338) y334.length co29) y334) := ⟨by (with_reducible repeat (first | apply Kd.N_alloc | apply Kd.N_drewN | apply Kd.N_drew)); exact Kd.N_mono (Kd.N_far (p := ⟨go38, (t341 : Int).toNat, none⟩) (Kd.N_mono HO_24.out (fun k_ hk => (⟨hk, fun e_ => hk.1.2.1 (by rw [e_]; rfl)⟩ : _ ∧ k_ ≠ go38))) (fun _ hk => hk.2) (.int .i64 (wrap64 ((rd x328000_2 t341) + 1)))) (fun _ hk => ⟨hk.1.1.1, ⟨hk.1.1.2.1, ⟨hk.1.1.2.2.1, ⟨hk.1.1.2.2.2.1, ⟨hk.1.1.2.2.2.2, hk.1.2⟩⟩⟩⟩⟩)⟩
     have n1_ : Aside0 (Kd.V k38 38 (w50.setCell ⟨go38, (t341 : Int).toNat, none⟩ (.int .i64 (wrap64 ((rd x328000_2 t341) + 1)))) w.heap.size (fun k_ => ((P0_4_ k_ ∨ P0_5_ k_) ∨ w.heap.size ≤ k_) ∧ some k_ ≠ (.slice (some ad338) y334.length co29 : Value).ownBlock ∧ some k_ ≠ (.slice (some ⟨go38, 0, none⟩) x328000_2.length co51 : Value).ownBlock ∧ some k_ ≠ (u328001 : Value).ownBlock ∧ k_ ≠ gb318 ∧ k_ ≠ gb327 ∧ k_ ≠ gb339) (.slice A0_4 l0_4.length c0_4) l0_4) := ⟨by (with_reducible repeat (first | apply Kd.V_alloc | apply Kd.V_drewN | apply Kd.V_drew)); exact Kd.V_mono (Kd.V_far (p := ⟨go38, (t341 : Int).toNat, none⟩) (Kd.V_mono HO_319004.out (fun k_ hk => (⟨hk, fun e_ => hk.1.2.2.1 (by rw [e_]; rfl)⟩ : _ ∧ k_ ≠ go38))) (fun _ hk => hk.2) (.int .i64 (wrap64 ((rd x328000_2 t341) + 1)))) (fun _ hk => ⟨hk.1.1.1, ⟨hk.1.1.2.1, ⟨hk.1.1.2.2.1, ⟨hk.1.1.2.2.2.1, ⟨hk.1.1.2.2.2.2.1, ⟨hk.1.1.2.2.2.2.2, hk.1.2⟩⟩⟩⟩⟩⟩)⟩
     have n2_ : Aside0 (Kd.V k38 38 (w50.setCell ⟨go38, (t341 : Int).toNat, none⟩ (.int .i64 (wrap64 ((rd x328000_2 t341) + 1)))) w.heap.size (fun k_ => ((P0_4_ k_ ∨ P0_5_ k_) ∨ w.heap.size ≤ k_) ∧ some k_ ≠ (.slice (some ad338) y334.length co29 : Value).ownBlock ∧ some k_ ≠ (.slice (some ⟨go38, 0, none⟩) x328000_2.length co51 : Value).ownBlock ∧ some k_ ≠ (u328001 : Value).ownBlock ∧ k_ ≠ gb318 ∧ k_ ≠ gb327 ∧ k_ ≠ gb339) (.slice A0_5 l0_5.length c0_5) l0_5) := ⟨by (with_reducible repeat (first | apply Kd.V_alloc | apply Kd.V_drewN | apply Kd.V_drew)); exact Kd.V_mono (Kd.V_far (p := ⟨go38, (t341 : Int).toNat, none⟩) (Kd.V_mono HO_319005.out (fun k_ hk => (⟨hk, fun e_ => hk.1.2.2.1 (by rw [e_]; rfl)⟩ : _ ∧ k_ ≠ go38))) (fun _ hk => hk.2) (.int .i64 (wrap64 ((rd x328000_2 t341) + 1)))) (fun _ hk => ⟨hk.1.1.1, ⟨hk.1.1.2.1, ⟨hk.1.1.2.2.1, ⟨hk.1.1.2.2.2.1, ⟨hk.1.1.2.2.2.2.1, ⟨hk.1.1.2.2.2.2.2, hk.1.2⟩⟩⟩⟩⟩⟩)⟩
     have n3_ : Aside0 (Kd.R (Kd.int .i64) 3 (w50.setCell ⟨go38, (t341 : Int).toNat, none⟩ (.int .i64 (wrap64 ((rd x328000_2 t341) + 1)))) w.heap.size (fun k_ => (w.heap.size ≤ k_) ∧ some k_ ≠ (u328001 : Value).ownBlock) (.slice (some ⟨go38, 0, none⟩) x328000_2.length co51) y343) := ⟨by (repeat apply rX); exact HQ52.out⟩
     have n4_ : Aside0 (Kd.R (Kd.int .i64) 3 (w50.setCell ⟨go38, (t341 : Int).toNat, none⟩ (.int .i64 (wrap64 ((rd x328000_2 t341) + 1)))) w.heap.size (fun k_ => (w.heap.size ≤ k_) ∧ some k_ ≠ (.slice (some ⟨go38, 0, none⟩) x328000_2.length co51 : Value).ownBlock) u328001 x328001_2) := ⟨by (repeat apply rX); exact Kd.R_mono (Kd.R_far (p := ⟨go38, (t341 : Int).toNat, none⟩) (Kd.R_mono HO_328001.out (fun k_ hk => (⟨hk, fun e_ => hk.2 (by rw [e_]; rfl)⟩ : _ ∧ k_ ≠ go38))) (fun _ hk => hk.2) (.int .i64 (wrap64 ((rd x328000_2 t341) + 1)))) (fun _ hk => ⟨hk.1.1, hk.1.2⟩)⟩
     have n5_ : Aside0 (Kd.V (Kd.int .i64) 3 (w50.setCell ⟨go38, (t341 : Int).toNat, none⟩ (.int .i64 (wrap64 ((rd x328000_2 t341) + 1)))) w.heap.size (fun k_ => ((P0_4_ k_ ∨ P0_5_ k_) ∨ w.heap.size ≤ k_) ∧ some k_ ≠ (.slice (some ad338) y334.length co29 : Value).ownBlock ∧ some k_ ≠ (.slice (some ⟨go38, 0, none⟩) x328000_2.length co51 : Value).ownBlock ∧ some k_ ≠ (u328001 : Value).ownBlock ∧ k_ ≠ gb318 ∧ k_ ≠ gb327 ∧ k_ ≠ gb339) (.slice A338_7 ((rd_T38 y334 x26_2).f7).length c338_7) ((rd_T38 y334 x26_2).f7)) := ⟨by (with_reducible repeat (first | apply Kd.V_alloc | apply Kd.V_drewN | apply Kd.V_drew)); exact Kd.V_mono (Kd.V_far (p := ⟨go38, (t341 : Int).toNat, none⟩) (Kd.V_mono HL338_7.out (fun k_ hk => (⟨hk, fun e_ => hk.1.1.2.1 (by rw [e_]; rfl)⟩ : _ ∧ k_ ≠ go38))) (fun _ hk => hk.2) (.int .i64 (wrap64 ((rd x328000_2 t341) + 1)))) (fun _ hk => ⟨hk.1.1.1.1, ⟨hk.1.1.2, ⟨hk.1.1.1.2.1, ⟨hk.1.1.1.2.2.1, ⟨hk.1.1.1.2.2.2.1, ⟨hk.1.1.1.2.2.2.2, hk.1.2⟩⟩⟩⟩⟩⟩)⟩
     have n6_ : Aside0 ((w50.setCell ⟨go38, (t341 : Int).toNat, none⟩ (.int .i64 (wrap64 ((rd x328000_2 t341) + 1)))).heap[gb318]? = some (.cells #[.slice A0_0 l0_0.length c0_0, .slice A0_1 l0_1.length c0_1, .slice A0_2 l0_2.length c0_2, .slice A0_3 l0_3.length c0_3, .slice A0_4 l0_4.length c0_4, .slice A0_5 l0_5.length c0_5] 33 (0, 0))) := ⟨by (repeat apply bX); refine blk_far ?_ (by have h_ := Kd.R_ne HO_328000.out BK318.out (by decide); intro e_; exact h_ (by rw [e_]; rfl)) _; (repeat apply bX); exact BK318.out⟩
     have n7_ : Aside0 ((w50.setCell ⟨go38, (t341 : Int).toNat, none⟩ (.int .i64 (wrap64 ((rd x328000_2 t341) + 1)))).heap[gb327]? = some (.cells #[.slice (some ⟨go38, 0, none⟩) x328000_2.length co51, u328001] 30 (0, 0))) := ⟨by (repeat apply bX); refine blk_far ?_ (by have h_ := Kd.R_ne HO_328000.out BK327.out (by decide); intro e_; exact h_ (by rw [e_]; rfl)) _; (repeat apply bX); exact BK327.out⟩
     have n8_ : Aside0 ((w50.setCell ⟨go38, (t341 : Int).toNat, none⟩ (.int .i64 (wrap64 ((rd x328000_2 t341) + 1)))).heap[gb339]? = some (.cells #[.int .i64 ((rd_T38 y334 x26_2).f0), .int .i64 ((rd_T38 y334 x26_2).f1), .int .i64 ((rd_T38 y334 x26_2).f2), .int .i64 ((rd_T38 y334 x26_2).f3), .int .i64 ((rd_T38 y334 x26_2).f4), .int .i64 ((rd_T38 y334 x26_2).f5), .int .i64 ((rd_T38 y334 x26_2).f6), .slice A338_7 ((rd_T38 y334 x26_2).f7).length c338_7] 38 (0, 0))) := ⟨by (repeat apply bX); refine blk_far ?_ (by have h_ := Kd.R_ne HO_328000.out BK339.out (by decide); intro e_; exact h_ (by rw [e_]; rfl)) _; (repeat apply bX); exact BK339.out⟩
     have n9_ : Aside0 (Below w.heap.size w (w50.setCell ⟨go38, (t341 : Int).toNat, none⟩ (.int .i64 (wrap64 ((rd x328000_2 t341) + 1))))) := ⟨by repeat (first | (with_reducible first | exact HB.out | apply below_alloc | apply pw_below_drewN | apply below_drew1 | refine below_set ?_ GB38.out | refine below_set ?_ GE318.out | refine below_set ?_ GE327.out | refine below_set ?_ GE339.out) | exact HB.out)⟩
     generalize (w50.setCell ⟨go38, (t341 : Int).toNat, none⟩ (.int .i64 (wrap64 ((rd x328000_2 t341) + 1)))) = w53 at n0_ n1_ n2_ n3_ n4_ n5_ n6_ n7_ n8_ n9_ ⊢
     have HO_24 := n0_
     have HO_319004 := n1_
     have HO_319005 := n2_
     have HO_328000 := n3_
     have HO_328001 := n4_
     have HL338_7 := n5_
     have BK318 := n6_
     have BK327 := n7_
     have BK339 := n8_
     have HB := n9_
     clear n0_ n1_ n2_ n3_ n4_ n5_ n6_ n7_ n8_ n9_
     have n0_ := Aside0.mk (Kd.N_drew HO_24.out)
     have n1_ := Aside0.mk (Kd.V_drew HO_319004.out)
     have n2_ := Aside0.mk (Kd.V_drew HO_319005.out)
     have n3_ := Aside0.mk (Kd.R_drew HO_328000.out)
     have n4_ := Aside0.mk (Kd.R_drew HO_328001.out)
     have n5_ := Aside0.mk (Kd.V_drew HL338_7.out)
     have n6_ := Aside0.mk (blk_drew BK318.out)
     have n7_ := Aside0.mk (blk_drew BK327.out)
     have n8_ := Aside0.mk (blk_drew BK339.out)
     have n9_ := Aside0.mk (below_drew1 HB.out)
     clear HO_24
     clear HO_319004
     clear HO_319005
     clear HO_328000
     clear HO_328001
     clear HL338_7
     clear BK318
     clear BK327
     clear BK339
     clear HB
     have HO_24 := n0_
     have HO_319004 := n1_
     have HO_319005 := n2_
     have HO_328000 := n3_
     have HO_328001 := n4_
     have HL338_7 := n5_
     have BK318 := n6_
     have BK327 := n7_
     have BK339 := n8_
     have HB := n9_
     clear n0_ n1_ n2_ n3_ n4_ n5_ n6_ n7_ n8_ n9_
     have p345 : 0 ≤ (t344 : Int) := of_decide_eq_true (by first | (with_reducible assumption) | assumption)
     have q345 : t344 < (x328001_2.length : Int) := of_decide_eq_true (by first | (with_reducible assumption) | assumption)
     obtain ⟨Ao345, co345, eo345⟩ := Kd.R_slice HO_328001.out
     have HR345_ := HO_328001.out
     rw [eo345] at HR345_
     obtain ⟨ad345, e345, hx345_0⟩ := Kd.at_int (Kd.R_reads' HR345_).2.2 t344 p345 q345
     clear HR345_
     cases e345
     replace p345 := eq_true p345
     replace q345 := eq_true q345
     refine start_ (n := 11) (S := fun w' => w'.cell? ⟨gb327, 0, none⟩ = some (.slice (some ⟨go38, 0, none⟩) x328000_2.length co51) ∧ w'.cell? ⟨gb327, 1, none⟩ = some (u328001) ∧ w'.cell? ⟨gb339, 0, none⟩ = some (.int .i64 ((rd_T38 y334 x26_2).f0)) ∧ w'.cell? ⟨gb339, 1, none⟩ = some (.int .i64 ((rd_T38 y334 x26_2).f1)) ∧ w'.cell? ⟨gb339, 2, none⟩ = some (.int .i64 ((rd_T38 y334 x26_2).f2)) ∧ w'.cell? ⟨gb339, 3, none⟩ = some (.int .i64 ((rd_T38 y334 x26_2).f3)) ∧ w'.cell? ⟨gb339, 4, none⟩ = some (.int .i64 ((rd_T38 y334 x26_2).f4)) ∧ w'.cell? ⟨gb339, 5, none⟩ = some (.int .i64 ((rd_T38 y334 x26_2).f5)) ∧ w'.cell? ⟨gb339, 6, none⟩ = some (.int .i64 ((rd_T38 y334 x26_2).f6)) ∧ w'.cell? ⟨gb339, 7, none⟩ = some (.slice A338_7 ((rd_T38 y334 x26_2).f7).length c338_7) ∧ w'.cell? (ad345.add (t344).toNat) = some (.int .i64 (rd x328001_2 t344))) (ds := [10]) #[F, F, F, F, F, F, F, F, F, F, F] (by kernel_rfl) rfl rfl ⟨(blk_cell BK327.out 0).trans rfl, (blk_cell BK327.out 1).trans rfl, (blk_cell BK339.out 0).trans rfl, (blk_cell BK339.out 1).trans rfl, (blk_cell BK339.out 2).trans rfl, (blk_cell BK339.out 3).trans rfl, (blk_cell BK339.out 4).trans rfl, (blk_cell BK339.out 5).trans rfl, (blk_cell BK339.out 6).trans rfl, (blk_cell BK339.out 7).trans rfl, hx345_0⟩ (fun hHeld => ?_); refine with_tabW impl_ChannelOk.tab10 impl_ChannelOk.bits10 (fun HT_ HW_ => ?_)
     generalize w53.drew = w54 at HO_24 HO_319004 HO_319005 HO_328000 HO_328001 HL338_7 BK318 BK327 BK339 HB HQ52 hx345_0 hHeld ⊢
     refine pure_ (i := 0) (N := some 41) (v := ?_) (a' := ?_) #[T, F, F, F, F, F, F, F, F, F, F] rfl rfl (any_of HT_.out (by kernel_rfl)) (fun _ _ _ h => h) (Or.inl ⟨by rfl, ?_⟩) ?_ ?_
     rotate_left
     ·intro w'
      go_simp
      with_reducible rfl
     rotate_left
     ·simp only [pS]
      rfl
     refine take_ (i := 1) (N := some 42) (v := ?_) (a' := ?_) #[T, T, F, F, F, F, F, F, F, F, F] rfl rfl (take_ofW HT_.out HW_.out (by kernel_rfl)) (fun _ _ _ h => h) (Or.inl ⟨by rfl, ?_⟩) hHeld ?_ ?_
     rotate_left
     ·rintro w' ⟨s0, s1, s2, s3, s4, s5, s6, s7, s8, s9, s10⟩
      go_simp
      with_reducible rfl
     rotate_left
     ·simp only [pS]
      rfl
     refine take_ (i := 2) (N := some 43) (v := ?_) (a' := ?_) #[T, T, T, F, F, F, F, F, F, F, F] rfl rfl (take_ofW HT_.out HW_.out (by kernel_rfl)) (fun _ _ _ h => h) (Or.inl ⟨by rfl, ?_⟩) hHeld ?_ ?_
     rotate_left
     ·rintro w' ⟨s0, s1, s2, s3, s4, s5, s6, s7, s8, s9, s10⟩
      go_simp
      with_reducible rfl
     rotate_left
     ·simp only [pS]
      rfl
     refine take_ (i := 6) (N := some 47) (v := ?_) (a' := ?_) #[T, T, T, F, F, F, T, F, F, F, F] rfl rfl (take_ofW HT_.out HW_.out (by kernel_rfl)) (fun _ _ _ h => h) (Or.inl ⟨by rfl, ?_⟩) hHeld ?_ ?_
     rotate_left
     ·rintro w' ⟨s0, s1, s2, s3, s4, s5, s6, s7, s8, s9, s10⟩
      go_simp
      with_reducible rfl
     rotate_left
     ·simp only [pS]
      rfl
     refine one_ (i := 3) (N := some 44) #[T, T, T, T, F, F, T, F, F, F, F] rfl rfl (one_of HT_.out (by kernel_rfl)) (by decide) (fun K hK => ?_)
     refine goes_ Try.func44 (by kernel_rfl) rfl #[.agg #[.int .i64 ((rd_T38 y334 x26_2).f0), .int .i64 ((rd_T38 y334 x26_2).f1), .int .i64 ((rd_T38 y334 x26_2).f2), .int .i64 ((rd_T38 y334 x26_2).f3), .int .i64 ((rd_T38 y334 x26_2).f4), .int .i64 ((rd_T38 y334 x26_2).f5), .int .i64 ((rd_T38 y334 x26_2).f6), .slice A338_7 ((rd_T38 y334 x26_2).f7).length c338_7]] (by rfl) rfl rfl (by (try simp only [List.map_toArray, List.map_cons, List.map_nil]); first | done | rfl) ?_
     with_reducible refine (impl_ClassOf.calls k2 ((rd_T38 y334 x26_2).f0) ((rd_T38 y334 x26_2).f1) ((rd_T38 y334 x26_2).f2) ((rd_T38 y334 x26_2).f3) ((rd_T38 y334 x26_2).f4) ((rd_T38 y334 x26_2).f5) ((rd_T38 y334 x26_2).f6) _ _ ((rd_T38 y334 x26_2).f7) t344 _ ?side1 ?side2 A39.out).mono ?_
     (case side1 => repeat (first | exact ((Kd.V_reads' (by (with_reducible repeat (first | apply Kd.V_alloc | apply Kd.V_drewN | apply Kd.V_drew)); exact HL338_7.out)).2.2) | (with_reducible refine Kd.C_alloc ?_ _) | (with_reducible refine Kd.C_drewN ?_ _) | (with_reducible refine Kd.C_drew ?_)))
     (case side2 => exact HC338_7.out)
     rintro e w55 ⟨rfl, hb⟩
     have HS10_ := (hb.cell (World.block_lt_of_cell? _ _ (hHeld.2.2.2.2.2.2.2.2.2.2))).trans (hHeld.2.2.2.2.2.2.2.2.2.2)
     refine ⟨_, rfl, ?_⟩
     have n0_ := Aside0.mk (Kd.N_below (by (with_reducible repeat (first | apply Kd.N_alloc | apply Kd.N_drewN | apply Kd.N_drew)); exact HO_24.out) hb)
     have n1_ := Aside0.mk (Kd.V_below (by (with_reducible repeat (first | apply Kd.V_alloc | apply Kd.V_drewN | apply Kd.V_drew)); exact HO_319004.out) hb)
     have n2_ := Aside0.mk (Kd.V_below (by (with_reducible repeat (first | apply Kd.V_alloc | apply Kd.V_drewN | apply Kd.V_drew)); exact HO_319005.out) hb)
     have n3_ := Aside0.mk (Kd.R_below (rY HO_328000.out) hb)
     have n4_ := Aside0.mk (Kd.R_below (rY HO_328001.out) hb)
     have n5_ := Aside0.mk (Kd.V_below (by (with_reducible repeat (first | apply Kd.V_alloc | apply Kd.V_drewN | apply Kd.V_drew)); exact HL338_7.out) hb)
     have n6_ := Aside0.mk (blk_below (bY BK318.out) hb)
     have n7_ := Aside0.mk (blk_below (bY BK327.out) hb)
     have n8_ := Aside0.mk (blk_below (bY BK339.out) hb)
     have n9_ := Aside0.mk (below_step (by repeat (first | (with_reducible first | exact HB.out | apply below_alloc | apply pw_below_drewN | apply below_drew1 | refine below_set ?_ GE318.out | refine below_set ?_ GE327.out | refine below_set ?_ GE339.out) | exact HB.out)) hb)
     clear HO_24
     clear HO_319004
     clear HO_319005
     clear HO_328000
     clear HO_328001
     clear HL338_7
     clear BK318
     clear BK327
     clear BK339
     clear HB
     have HO_24 := n0_
     have HO_319004 := n1_
     have HO_319005 := n2_
     have HO_328000 := n3_
     have HO_328001 := n4_
     have HL338_7 := n5_
     have BK318 := n6_
     have BK327 := n7_
     have BK339 := n8_
     have HB := n9_
     clear n0_ n1_ n2_ n3_ n4_ n5_ n6_ n7_ n8_ n9_
     obtain ⟨Ao56, co56, eo56⟩ := Kd.R_slice HO_328001.out
     (first | subst eo56 | (injection eo56 with f1_ f2_ f3_; have f4_ := f1_.symm; have f5_ := f3_.symm; clear f1_ f2_ f3_; subst f4_; subst f5_))
     (try (injection eo345 with f1_ f2_ f3_; subst f1_; subst f3_))
     refine hK.out _ _ ⟨(blk_cell BK327.out 0).trans rfl, (blk_cell BK327.out 1).trans rfl, (blk_cell BK339.out 0).trans rfl, (blk_cell BK339.out 1).trans rfl, (blk_cell BK339.out 2).trans rfl, (blk_cell BK339.out 3).trans rfl, (blk_cell BK339.out 4).trans rfl, (blk_cell BK339.out 5).trans rfl, (blk_cell BK339.out 6).trans rfl, (blk_cell BK339.out 7).trans rfl, HS10_⟩ (fun hHeld => ?_)
     clear hK K
     refine norm_ (a' := ?_) ?_ ?_
     rotate_left
     ·show Act.put _ (some 44) _ = _
      simp only [pS]
      rfl
     refine pure_ (i := 4) (N := some 45) (v := ?_) (a' := ?_) #[T, T, T, T, T, F, T, F, F, F, F] rfl rfl (any_of HT_.out (by kernel_rfl)) (fun _ _ _ h => h) (Or.inl ⟨by rfl, ?_⟩) ?_ ?_
     rotate_left
     ·intro w'
      go_simp
      with_reducible rfl
     rotate_left
     ·simp only [pS]
      rfl
     refine take_ (i := 5) (N := some 46) (v := ?_) (a' := ?_) #[T, T, T, T, T, T, T, F, F, F, F] rfl rfl (take_ofW HT_.out HW_.out (by kernel_rfl)) (fun _ _ _ h => h) (Or.inl ⟨by rfl, ?_⟩) hHeld ?_ ?_
     rotate_left
     ·rintro w' ⟨s0, s1, s2, s3, s4, s5, s6, s7, s8, s9, s10⟩
      (try simp only [add_plain, Nat.zero_add] at s10)
      go_simp
      with_reducible rfl
     rotate_left
     ·simp only [pS]
      rfl
     refine one_ (i := 7) (N := some 48) #[T, T, T, T, T, T, T, T, F, F, F] rfl rfl (one_of HT_.out (by kernel_rfl)) (by decide) (fun K hK => ?_)
     refine goes_ Try.func45 (by kernel_rfl) rfl #[.agg #[.int .i64 ((rd_T38 y334 x26_2).f0), .int .i64 ((rd_T38 y334 x26_2).f1), .int .i64 ((rd_T38 y334 x26_2).f2), .int .i64 ((rd_T38 y334 x26_2).f3), .int .i64 ((rd_T38 y334 x26_2).f4), .int .i64 ((rd_T38 y334 x26_2).f5), .int .i64 ((rd_T38 y334 x26_2).f6), .slice A338_7 ((rd_T38 y334 x26_2).f7).length c338_7]] (by rfl) rfl rfl (by (try simp only [List.map_toArray, List.map_cons, List.map_nil]); first | done | rfl) ?_
     with_reducible refine (impl_PacketUnits.calls k2 ((rd_T38 y334 x26_2).f0) ((rd_T38 y334 x26_2).f1) ((rd_T38 y334 x26_2).f2) ((rd_T38 y334 x26_2).f3) ((rd_T38 y334 x26_2).f4) ((rd_T38 y334 x26_2).f5) ((rd_T38 y334 x26_2).f6) _ _ ((rd_T38 y334 x26_2).f7) t346 _ ?side1 ?side2 A42.out).mono ?_
     (case side1 => repeat (first | exact ((Kd.V_reads' (by (with_reducible repeat (first | apply Kd.V_alloc | apply Kd.V_drewN | apply Kd.V_drew)); exact HL338_7.out)).2.2) | (with_reducible refine Kd.C_alloc ?_ _) | (with_reducible refine Kd.C_drewN ?_ _) | (with_reducible refine Kd.C_drew ?_)))
     (case side2 => exact HC338_7.out)
     rintro e w57 ⟨rfl, hb⟩
     have HS10_ := (hb.cell (World.block_lt_of_cell? _ _ (hHeld.2.2.2.2.2.2.2.2.2.2))).trans (hHeld.2.2.2.2.2.2.2.2.2.2)
     refine ⟨_, rfl, ?_⟩
     have n0_ := Aside0.mk (Kd.N_below (by (with_reducible repeat (first | apply Kd.N_alloc | apply Kd.N_drewN | apply Kd.N_drew)); exact HO_24.out) hb)
     have n1_ := Aside0.mk (Kd.V_below (by (with_reducible repeat (first | apply Kd.V_alloc | apply Kd.V_drewN | apply Kd.V_drew)); exact HO_319004.out) hb)
     have n2_ := Aside0.mk (Kd.V_below (by (with_reducible repeat (first | apply Kd.V_alloc | apply Kd.V_drewN | apply Kd.V_drew)); exact HO_319005.out) hb)
     have n3_ := Aside0.mk (Kd.R_below (rY HO_328000.out) hb)
     have n4_ := Aside0.mk (Kd.R_below (rY HO_328001.out) hb)
     have n5_ := Aside0.mk (Kd.V_below (by (with_reducible repeat (first | apply Kd.V_alloc | apply Kd.V_drewN | apply Kd.V_drew)); exact HL338_7.out) hb)
     have n6_ := Aside0.mk (blk_below (bY BK318.out) hb)
     have n7_ := Aside0.mk (blk_below (bY BK327.out) hb)
     have n8_ := Aside0.mk (blk_below (bY BK339.out) hb)
     have n9_ := Aside0.mk (below_step (by repeat (first | (with_reducible first | exact HB.out | apply below_alloc | apply pw_below_drewN | apply below_drew1 | refine below_set ?_ GE318.out | refine below_set ?_ GE327.out | refine below_set ?_ GE339.out) | exact HB.out)) hb)
     clear HO_24
     clear HO_319004
     clear HO_319005
     clear HO_328000
     clear HO_328001
     clear HL338_7
     clear BK318
     clear BK327
     clear BK339
     clear HB
     have HO_24 := n0_
     have HO_319004 := n1_
     have HO_319005 := n2_
     have HO_328000 := n3_
     have HO_328001 := n4_
     have HL338_7 := n5_
     have BK318 := n6_
     have BK327 := n7_
     have BK339 := n8_
     have HB := n9_
     clear n0_ n1_ n2_ n3_ n4_ n5_ n6_ n7_ n8_ n9_
     have p43 : 0 ≤ (t344 : Int) := of_decide_eq_true (by first | (with_reducible assumption) | assumption)
     have q43 : (t344 : Int) < ((x328001_2.length : Int) : Int) := of_decide_eq_true (by first | (with_reducible assumption) | assumption)
     obtain ⟨go43, co43, eo43, gb43, gl43, cl43, HG43⟩ := Kd.R_form HO_328001.out (by omega)
     (first | cases eo43 | (injection eo43 with ea_ en_ ec_; (first | subst ea_ | (injection ea_ with ea_; subst ea_)); subst ec_; clear en_))
     have GB43 := Aside0.mk gb43
     have GG43 := Aside0.mk HG43
     clear gb43 gl43 HG43
     (first | simp only [add_plain] at hx345_0 | skip)
     obtain ⟨hx43_0, hf43_0⟩ := Kd.R_celln 0 HO_328001.out (t344 : Int) p43 q43
     replace p43 := eq_true p43
     replace q43 := eq_true q43
     have HP58 := Kd.R_putn HO_328001.out (t344 : Int) (wrap64 ((rd x328001_2 t344) + t346))
     rw [← Ny347.out] at HP58
     have HQ58 := Aside0.mk HP58
     clear HP58
     refine hK.out _ _ ⟨(blk_cell BK327.out 0).trans rfl, (blk_cell BK327.out 1).trans rfl, (blk_cell BK339.out 0).trans rfl, (blk_cell BK339.out 1).trans rfl, (blk_cell BK339.out 2).trans rfl, (blk_cell BK339.out 3).trans rfl, (blk_cell BK339.out 4).trans rfl, (blk_cell BK339.out 5).trans rfl, (blk_cell BK339.out 6).trans rfl, (blk_cell BK339.out 7).trans rfl, HS10_⟩ (fun hHeld => ?_)
     clear hK K
     refine norm_ (a' := ?_) ?_ ?_
     rotate_left
     ·show Act.put _ (some 48) _ = _
      simp only [pS]
      rfl
     refine pure_ (i := 8) (N := some 49) (v := ?_) (a' := ?_) #[T, T, T, T, T, T, T, T, T, F, F] rfl rfl (any_of HT_.out (by kernel_rfl)) (fun _ _ _ h => h) (Or.inl ⟨by rfl, ?_⟩) ?_ ?_
     rotate_left
     ·intro w'
      go_simp
      with_reducible rfl
     rotate_left
     ·simp only [pS]
      rfl
     refine pure_ (i := 9) (N := some 50) (v := ?_) (a' := ?_) #[T, T, T, T, T, T, T, T, T, T, F] rfl rfl (any_of HT_.out (by kernel_rfl)) (fun _ _ _ h => h) (Or.inl ⟨by rfl, ?_⟩) ?_ ?_
     rotate_left
     ·intro w'
      go_simp
      with_reducible rfl
     rotate_left
     ·simp only [pS]
      rfl
     refine last_ (i := 10) (N := none) #[T, T, T, T, T, T, T, T, T, T, T] rfl rfl (one_of HT_.out (by kernel_rfl)) (by decide) (fun K hK => ?_)
     refine skip_ (w1 := ?_) (by rfl) rfl ?_ ?_
     rotate_left
     ·go_simp
      rfl
     refine hK.out _ _ ?_
     clear hK K
     refine done_ (done_of HT_.out (by kernel_rfl)) ?_
     try go_wp2
     go_roundg k2
     case measure => have := HJ1.out; have := HK2.out; omega
     case rel => exact ⟨(wrap64 (x26_2 + 1)), (y343), (y347), (.slice (some ⟨go38, 0, none⟩) x328000_2.length co51), (.slice (some ⟨go43, 0, none⟩) x328001_2.length co56), (by first | rfl | (simp; done) | (simp [*]; done)), H', ⟨by have := HJ1.out; have := HK2.out; omega⟩, ⟨by (with_reducible repeat (first | apply Kd.N_alloc | apply Kd.N_drewN | apply Kd.N_drew)); exact Kd.N_mono (Kd.N_far (p := ⟨go43, (t344 : Int).toNat, none⟩) (Kd.N_mono HO_24.out (fun k_ hk => (⟨hk, fun e_ => hk.2.2.1 (by rw [e_]; rfl)⟩ : _ ∧ k_ ≠ go43))) (fun _ hk => hk.2) (.int .i64 (wrap64 ((rd x328001_2 t344) + t346)))) (fun _ hk => ⟨hk.1.1, ⟨hk.1.2.1, ⟨hk.1.2.2.1, ⟨hk.1.2.2.2.1, hk.1.2.2.2.2.1⟩⟩⟩⟩)⟩, ⟨by (with_reducible repeat (first | apply Kd.V_alloc | apply Kd.V_drewN | apply Kd.V_drew)); exact Kd.V_mono (Kd.V_far (p := ⟨go43, (t344 : Int).toNat, none⟩) (Kd.V_mono HO_319004.out (fun k_ hk => (⟨hk, fun e_ => hk.2.2.2.1 (by rw [e_]; rfl)⟩ : _ ∧ k_ ≠ go43))) (fun _ hk => hk.2) (.int .i64 (wrap64 ((rd x328001_2 t344) + t346)))) (fun _ hk => ⟨hk.1.1, ⟨hk.1.2.1, ⟨hk.1.2.2.1, ⟨hk.1.2.2.2.1, ⟨hk.1.2.2.2.2.1, hk.1.2.2.2.2.2.1⟩⟩⟩⟩⟩)⟩, ⟨by (with_reducible repeat (first | apply Kd.V_alloc | apply Kd.V_drewN | apply Kd.V_drew)); exact Kd.V_mono (Kd.V_far (p := ⟨go43, (t344 : Int).toNat, none⟩) (Kd.V_mono HO_319005.out (fun k_ hk => (⟨hk, fun e_ => hk.2.2.2.1 (by rw [e_]; rfl)⟩ : _ ∧ k_ ≠ go43))) (fun _ hk => hk.2) (.int .i64 (wrap64 ((rd x328001_2 t344) + t346)))) (fun _ hk => ⟨hk.1.1, ⟨hk.1.2.1, ⟨hk.1.2.2.1, ⟨hk.1.2.2.2.1, ⟨hk.1.2.2.2.2.1, hk.1.2.2.2.2.2.1⟩⟩⟩⟩⟩)⟩, ⟨by (repeat apply rX); exact Kd.R_mono (Kd.R_far (p := ⟨go43, (t344 : Int).toNat, none⟩) (Kd.R_mono HO_328000.out (fun k_ hk => (⟨hk, fun e_ => hk.2 (by rw [e_]; rfl)⟩ : _ ∧ k_ ≠ go43))) (fun _ hk => hk.2) (.int .i64 (wrap64 ((rd x328001_2 t344) + t346)))) (fun _ hk => ⟨hk.1.1, hk.1.2⟩)⟩, ⟨by (repeat apply rX); exact HQ58.out⟩, ⟨by (repeat apply bX); refine blk_far ?_ (by have h_ := Kd.R_ne HO_328001.out BK318.out (by decide); intro e_; exact h_ (by rw [e_]; rfl)) _; (repeat apply bX); exact BK318.out⟩, ⟨by (repeat apply bX); refine blk_far ?_ (by have h_ := Kd.R_ne HO_328001.out BK327.out (by decide); intro e_; exact h_ (by rw [e_]; rfl)) _; (repeat apply bX); exact BK327.out⟩, ⟨by repeat (first | (with_reducible first | exact HB.out | apply below_alloc | apply pw_below_drewN | apply below_drew1 | refine below_set ?_ GB43.out | refine below_set ?_ GE318.out | refine below_set ?_ GE327.out | refine below_set ?_ GE339.out) | exact HB.out)⟩⟩
end Go.Proofs.Ytlombfmebinjbaa.PFnExactChannelOk
