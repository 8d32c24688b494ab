-- Written by a program of this session (wip/xp): not trusted, Lean checks it.
import Derived.Test.YtlombfmebinjbaaPFnExactTellCreditsx0
import Derived.Test.YtlombfmebinjbaaPFnExactTellCreditsx13
import Derived.Test.YtlombfmebinjbaaPFnExactTellCreditsx14
import Derived.Test.YtlombfmebinjbaaPFnExactTellCreditsx16
import Derived.Test.YtlombfmebinjbaaPFnExactTellCreditsx17
namespace Go.Proofs.Ytlombfmebinjbaa.PFnExactTellCredits
open Go.RowKit Go.Proofs.YtlombfmebinjbaaW.PrintWords Go.Proofs.YtlombfmebinjbaaW.PrintLast Go.Proofs.YtlombfmebinjbaaW.PrintMore
attribute [local go_sem] max2_int min2_int max_two min_two max_three min_three max_four min_four   -- for this text's walks alone
set_option linter.unusedVariables false
set_option linter.unusedSimpArgs false

/-! ### slices.Grow, slices.Concat at rows of packets, told by hand -/
section
variable {P : Program} {ops : Array Oper} {rest : List Oper} {o : Oper} {a : Act} {Q : Exit → Act → World → Prop}
theorem lit2_event {W : World} (hgd : o.guard = none) {N : Tmp} (_hd : o.dst = some N) {cs : Array Value} {t : TypeId}
  (hrun : (execOp a.eval o).run P W = .ok (.value (.slice (some ⟨W.heap.size, 0, none⟩) 2 2)) (W.alloc (.cells cs t (0, 0))))
  (h : ∀ g w1, w1.heap[g]? = some (.cells cs t (0, 0)) → Below W.heap.size W w1 → (∀ k, (Value.slice (some ⟨g, 0, none⟩) 2 2).ownBlock = some k → W.heap.size ≤ k) → wpList P ops Q rest (a.put o.dst (.slice (some ⟨g, 0, none⟩) 2 2)) w1) : wpList P ops Q (o :: rest) a W :=
 Kd.event_run hgd hrun (h _ _ (blk_new W _) (ba_ (Below.refl _ _) _) (fun k hk => by
  have e : W.heap.size = k := by simpa [Value.ownBlock] using hk
  omega))
end
set_option maxHeartbeats 2000000 in
set_option maxRecDepth 100000 in
theorem slices_Grow.calls (n : Int) (w : World) (h0 : 0 ≤ n) (h1 : n ≤ 1759218604441) : Calls Try.prog 78 #[.slice none 0 0, .int .i64 n] w fun e w' => ∃ v, e = .returned v ∧ Kd.S k38 38 w' w.heap.size (fun k => w.heap.size ≤ k) v [] ∧ Below w.heap.size w w' := by
 have c0 : decide (n < 0) = false := decide_eq_false (by omega)
 have HB := A_.mk (Below.refl w.heap.size w)
 by_cases hn : 0 < n
 case pos =>
  have c1 : decide (0 < n) = true := decide_eq_true hn
  have c2 : decide (n > 0) = true := decide_eq_true hn
  have e1 : wrap64 n = n := by unfold wrap64; omega
  have c3 : decide (0 < wrap64 n) = true := by rw [e1]; exact c1
  have E1 := A_.mk e1
  clear e1 c1 c2
  have HN := A_.mk hn
  have H1 := A_.mk h1
  clear hn h0 h1
  go_enter Try.func78, Try.ntmps78
  go_wp2_with ((with_reducible refine gate_builtin (b := .append) (xs := #[.tmp 20, .tmp 21]) rfl ?_); at_builtin; refine Kd.S_append_zeros k38 (w0 := w) w.heap.size rfl (.tmp 20) (.tmp 21) 31 3 38 (.agg #[(.int .i64 0), (.int .i64 0), (.int .i64 0), (.int .i64 0), (.int .i64 0), (.int .i64 0), (.int .i64 0), (.slice none 0 0)]) 80 rfl Try.underlying31 Try.underlying3 info38 rfl (by decide) (by omega) (.slice none 0 0) [] z38 (wrap64 n) (fun k => w.heap.size ≤ k) rfl rfl ?az (fun _ h => h) ?aO ?a0 ?aB ?aS ?aL ?_; (case az => exact k38_mkM _ _ _ z38 (Kd.R_nil _ _ _ _ _)); (case aO => exact Kd.S_nil _ _ _ _ _); (case a0 => rw [E1.out]; exact Int.le_of_lt HN.out); (case aB => exact HB.out); (case aS => exact Nat.le_refl _); (case aL => rw [E1.out]; have := H1.out; have := HN.out; simp only [List.length_nil]; omega); intro v1 w1 ho hb hg hat; have HO := A_.mk ho; have HB1 := A_.mk hb; clear ho hb hg hat; obtain ⟨A1, c1_, e1⟩ := Kd.S_slice HO.out; subst e1)
  go_ret
  exact ⟨_, rfl, by simpa using Kd.S_take HO.out (Nat.zero_le _), HB1.out⟩
 case neg =>
  obtain rfl : n = 0 := by omega
  clear hn h0 h1
  go_enter Try.func78, Try.ntmps78
  go_wp2
  go_ret
  exact ⟨_, rfl, Kd.S_nil _ _ _ _ _, HB.out⟩
def slices_Concat.f (l0 l1 : List S38) : List S38 := l0 ++ l1
set_option maxHeartbeats 4000000 in
set_option maxRecDepth 100000 in
theorem slices_Concat.calls (g : Nat) (A0 : Option Addr) (c0 : Nat) (l0 : List S38) (A1 : Option Addr) (c1 : Nat) (l1 : List S38) (P : Nat → Prop) (b0 b1 : Nat) (w : World) (hbk : w.heap[g]? = some (.cells #[.slice A0 l0.length c0, .slice A1 l1.length c1] 31 (0, 0))) (hs0 : Kd.V k38 38 w b0 P (.slice A0 l0.length c0) l0) (hs1 : Kd.V k38 38 w b1 P (.slice A1 l1.length c1) l1) (hl : l0.length + l1.length < 1759218604441) :
  Calls Try.prog 42 #[.slice (some ⟨g, 0, none⟩) 2 2] w fun e w' => ∃ v, e = .returned v ∧ Kd.N k38 38 w' w.heap.size (fun k => P k ∨ w.heap.size ≤ k) v (l0 ++ l1) ∧ Below w.heap.size w w' := by
 have HV0 := A_.mk hs0
 have HV1 := A_.mk hs1
 have HBK := A_.mk hbk
 have HL := A_.mk hl
 have HB := A_.mk (Below.refl w.heap.size w)
 clear hs0 hs1 hbk hl
 go_enter Try.func42, Try.ntmps42
 go_wp2
 go_loopg [3, 11] 2 (fun kq v3 v11 w' => A_ (Below w.heap.size w w') ∧ ((kq = 2 ∧ v3 = .int .i64 0 ∧ v11 = .int .i64 0) ∨ (kq = 1 ∧ v3 = .int .i64 (wrap64 (l0.length : Int)) ∧ v11 = .int .i64 1) ∨ (kq = 0 ∧ v3 = .int .i64 (wrap64 (wrap64 (l0.length : Int) + (l1.length : Int))) ∧ v11 = .int .i64 2)))
 case atStart => exact ⟨⟨beY HB.out⟩, .inl ⟨rfl, rfl, rfl⟩⟩
 case round =>
  clear HB
  obtain ⟨HB, (⟨rfl, rfl, rfl⟩ | ⟨rfl, rfl, rfl⟩ | ⟨rfl, rfl, rfl⟩)⟩ := hrel
  ·have BK := A_.mk (bb_ HBK.out HB.out)
   have hx0 : wr.cell? ⟨g, 0, none⟩ = some (.slice A0 l0.length c0) := (bc_ BK.out 0).trans rfl
   have hf0 := bf_ BK.out 0
   have d1 : decide (wrap64 (l0.length : Int) < 0) = false := decide_eq_false (by have := HL.out; unfold wrap64; omega)
   go_wp2
   go_roundg 1
   case measure => omega
   case rel => exact ⟨HB, .inr (.inl ⟨rfl, by first | rfl | simp, rfl⟩)⟩
  ·have BK := A_.mk (bb_ HBK.out HB.out)
   have hx1 : wr.cell? ⟨g, 1, none⟩ = some (.slice A1 l1.length c1) := (bc_ BK.out 1).trans rfl
   have hf1 := bf_ BK.out 1
   have d1 : decide (wrap64 (wrap64 (l0.length : Int) + (l1.length : Int)) < 0) = false := decide_eq_false (by have := HL.out; unfold wrap64; omega)
   go_wp2
   go_roundg 0
   case measure => omega
   case rel => exact ⟨HB, .inr (.inr ⟨rfl, rfl, rfl⟩)⟩
  ·go_wp2_with fail
   have e2 : wrap64 (wrap64 (l0.length : Int) + (l1.length : Int)) = (l0.length : Int) + (l1.length : Int) := by have := HL.out; unfold wrap64; omega
   refine (slices_Grow.calls (wrap64 (wrap64 (l0.length : Int) + (l1.length : Int))) _ (by rw [e2]; omega) (by rw [e2]; have := HL.out; omega)).mono ?_
   rintro e w2 ⟨v6, rfl, ho, hb⟩
   have HO := A_.mk (Kd.N_mono (ok' := fun k => P k ∨ w.heap.size ≤ k) (Kd.S_N (Kd.S_lower ho (bz_ HB.out))) (fun k hk => .inr (Nat.le_trans (bz_ HB.out) hk)))
   have HB' := A_.mk (bt_ HB.out hb)
   clear HB ho hb e2
   have HB := HB'
   clear HB'
   obtain ⟨A6, c6, e6⟩ := Kd.N_slice HO.out
   subst e6
   go_wp2
   go_loopg [6, 27] 2 (fun kq v6 v27 w' => A_ (Below w.heap.size w w') ∧ ((kq = 2 ∧ A_ (Kd.N k38 38 w' w.heap.size (fun k => P k ∨ w.heap.size ≤ k) v6 ([] : List S38)) ∧ v27 = .int .i64 0) ∨ (kq = 1 ∧ A_ (Kd.N k38 38 w' w.heap.size (fun k => P k ∨ w.heap.size ≤ k) v6 l0) ∧ v27 = .int .i64 1) ∨ (kq = 0 ∧ A_ (Kd.N k38 38 w' w.heap.size (fun k => P k ∨ w.heap.size ≤ k) v6 (l0 ++ l1)) ∧ v27 = .int .i64 2)))
   case atStart => exact ⟨⟨beY HB.out⟩, .inl ⟨rfl, ⟨by (with_reducible repeat (first | apply Kd.N_alloc | apply Kd.N_drewN | apply Kd.N_drew)); exact HO.out⟩, rfl⟩⟩
   case round =>
    clear HB HO
    obtain ⟨HB, (⟨rfl, HO, rfl⟩ | ⟨rfl, HO, rfl⟩ | ⟨rfl, HO, rfl⟩)⟩ := hrel
    ·have BK := A_.mk (bb_ HBK.out HB.out)
     have hx0 := (bc_ BK.out 0).trans rfl
     have hf0 := bf_ BK.out 0
     obtain ⟨A7, c7, e7⟩ := Kd.N_slice HO.out
     subst e7
     go_wp2_with ((with_reducible refine gate_builtin (b := .append) (xs := #[.tmp 31, .tmp 32]) rfl ?_); at_builtin; refine Kd.N_append_rows k38 (w0 := w) w.heap.size rfl (.tmp 31) (.tmp 32) 31 38 (.agg #[(.int .i64 0), (.int .i64 0), (.int .i64 0), (.int .i64 0), (.int .i64 0), (.int .i64 0), (.int .i64 0), (.slice none 0 0)]) 80 rfl Try.underlying31 info38 rfl (by decide) (by omega) _ ([] : List S38) l0 _ _ _ (fun k => P k ∨ w.heap.size ≤ k) (fun k => P k ∧ some k ≠ Value.ownBlock _) rfl rfl ?aO ?aR (fun _ hk => ⟨.inl hk.1, hk.2⟩) (fun k hk => .inr (Nat.le_trans (bz_ HB.out) hk)) ?aB ?aS ?aL ?_; (case aO => exact HO.out); (case aR => exact Kd.V_F (Kd.V_elder' HV0.out (Kd.N_base HO.out) HB.out)); (case aB => exact HB.out); (case aS => exact bz_ HB.out); (case aL => have := HL.out; (try simp only [List.length_nil]); omega); intro v2 w3 ho hb hg hat; have HO' := A_.mk ho; have HB' := A_.mk hb; clear ho hb hg hat HO HB; have HO := HO'; have HB := HB'; clear HO' HB')
     go_roundg 1
     case measure => omega
     case rel => exact ⟨HB, .inr (.inl ⟨rfl, HO, rfl⟩)⟩
    ·have BK := A_.mk (bb_ HBK.out HB.out)
     have hx1 := (bc_ BK.out 1).trans rfl
     have hf1 := bf_ BK.out 1
     obtain ⟨A7, c7, e7⟩ := Kd.N_slice HO.out
     subst e7
     go_wp2_with ((with_reducible refine gate_builtin (b := .append) (xs := #[.tmp 31, .tmp 32]) rfl ?_); at_builtin; refine Kd.N_append_rows k38 (w0 := w) w.heap.size rfl (.tmp 31) (.tmp 32) 31 38 (.agg #[(.int .i64 0), (.int .i64 0), (.int .i64 0), (.int .i64 0), (.int .i64 0), (.int .i64 0), (.int .i64 0), (.slice none 0 0)]) 80 rfl Try.underlying31 info38 rfl (by decide) (by omega) _ l0 l1 _ _ _ (fun k => P k ∨ w.heap.size ≤ k) (fun k => P k ∧ some k ≠ Value.ownBlock _) rfl rfl ?aO ?aR (fun _ hk => ⟨.inl hk.1, hk.2⟩) (fun k hk => .inr (Nat.le_trans (bz_ HB.out) hk)) ?aB ?aS ?aL ?_; (case aO => exact HO.out); (case aR => exact Kd.V_F (Kd.V_elder' HV1.out (Kd.N_base HO.out) HB.out)); (case aB => exact HB.out); (case aS => exact bz_ HB.out); (case aL => have := HL.out; (try simp only [List.length_nil]); omega); intro v2 w3 ho hb hg hat; have HO' := A_.mk ho; have HB' := A_.mk hb; clear ho hb hg hat HO HB; have HO := HO'; have HB := HB'; clear HO' HB')
     go_roundg 0
     case measure => omega
     case rel => exact ⟨HB, .inr (.inr ⟨rfl, HO, rfl⟩)⟩
    ·obtain ⟨A7, c7, e7⟩ := Kd.N_slice HO.out
     subst e7
     go_wp2
     go_ret
     exact ⟨_, rfl, HO.out, HB.out⟩
/-! ### impl_ChannelOk: function 11 -/
mutual
def impl_ChannelOk.j0 : Nat → Bool → List Int → List Int → List Int → List Int → List (S38) → List (S38) → Option (Bool)
 | 0, _, _, _, _, _, _, _ => none
 | k + 1, x15, x278000, x278001, x278002, x278003, x278004, x278005 => if x15 = true then (some false) else ((impl_copyCredits.f x278002 x278003).bind fun bt280 => ((some (([] : List (S38)) : List (S38))).bind fun y287 => (if y287.length + x278004.length < 1759218604441 then ((some (y287 ++ x278004 : List (S38))).bind fun y290 => (if y290.length + x278005.length < 1759218604441 then ((some (y290 ++ x278005 : List (S38))).bind fun y293 => (impl_ChannelOk.l0 k y293 (y293.length : Int) 0 x278000 x278001 x278002 x278003 x278004 x278005 bt280.1 bt280.2)) else (none))) else (none))))
def impl_ChannelOk.l0 : Nat → List (S38) → Int → Int → List Int → List Int → List Int → List Int → List (S38) → List (S38) → List Int → List Int → Option (Bool)
 | 0, _, _, _, _, _, _, _, _, _, _, _ => none
 | k + 1, x24, x25, x26, x278000, x278001, x278002, x278003, x278004, x278005, x287000, x287001 => if x26 < x25 then (if 0 ≤ x26 then (if x26 < (x24.length : Int) then ((impl_IsPacket.f k ((rd_T38 x24 x26).f0) ((rd_T38 x24 x26).f1) ((rd_T38 x24 x26).f2) ((rd_T38 x24 x26).f3) ((rd_T38 x24 x26).f4) ((rd_T38 x24 x26).f5) ((rd_T38 x24 x26).f6) ((rd_T38 x24 x26).f7)).bind fun t299 => (if t299 = true then ((impl_ClassOf.f k ((rd_T38 x24 x26).f0) ((rd_T38 x24 x26).f1) ((rd_T38 x24 x26).f2) ((rd_T38 x24 x26).f3) ((rd_T38 x24 x26).f4) ((rd_T38 x24 x26).f5) ((rd_T38 x24 x26).f6) ((rd_T38 x24 x26).f7)).bind fun t300 => (if 0 ≤ t300 then (if t300 < (x287000.length : Int) then ((impl_ClassOf.f k ((rd_T38 x24 x26).f0) ((rd_T38 x24 x26).f1) ((rd_T38 x24 x26).f2) ((rd_T38 x24 x26).f3) ((rd_T38 x24 x26).f4) ((rd_T38 x24 x26).f5) ((rd_T38 x24 x26).f6) ((rd_T38 x24 x26).f7)).bind fun t303 => (if 0 ≤ t303 then (if t303 < (x287001.length : Int) then ((impl_PacketUnits.f k ((rd_T38 x24 x26).f0) ((rd_T38 x24 x26).f1) ((rd_T38 x24 x26).f2) ((rd_T38 x24 x26).f3) ((rd_T38 x24 x26).f4) ((rd_T38 x24 x26).f5) ((rd_T38 x24 x26).f6) ((rd_T38 x24 x26).f7)).bind fun t305 => (impl_ChannelOk.l0 k x24 x25 (wrap64 (x26 + 1)) x278000 x278001 x278002 x278003 x278004 x278005 (x287000.set (t300 : Int).toNat (wrap64 ((rd x287000 t300) + 1))) (x287001.set (t303 : Int).toNat (wrap64 ((rd x287001 t303) + t305))))) else (none)) else (none))) else (none)) else (none))) else (some false))) else (none)) else (none)) else ((impl_SameCredits.f k x287000 x287001 x278000 x278001).bind fun t296 => (some t296))
end
def impl_ChannelOk.f (k : Nat) (l0_0 : List Int) (l0_1 : List Int) (l0_2 : List Int) (l0_3 : List Int) (l0_4 : List (S38)) (l0_5 : List (S38)) : Option (Bool) := (impl_CreditsOk.f k l0_0 l0_1).bind fun t278 => (if t278 = true then ((impl_CreditsOk.f k l0_2 l0_3).bind fun t279 => (impl_ChannelOk.j0 k (!t279) l0_0 l0_1 l0_2 l0_3 l0_4 l0_5)) else (impl_ChannelOk.j0 k true l0_0 l0_1 l0_2 l0_3 l0_4 l0_5))
def impl_ChannelOk.T9 : Bool × List (List Nat × List Nat) := (true, [([], []), ([0], [0]), ([], []), ([2], [2]), ([1, 3], [1, 3]), ([4], [4]), ([5], [5]), ([1, 3, 0, 1, 2, 3, 4, 5, 6], [1, 3]), ([7, 6, 3, 0, 1, 2, 3, 4, 5, 6], [6, 7])])
def impl_ChannelOk.B9 : List Nat := [0, 1, 0, 4, 15, 31, 63, 127, 255]
theorem impl_ChannelOk.tab9 : rtab .any (opsOf Try.f11 9) = impl_ChannelOk.T9 := by kernel_rfl
theorem impl_ChannelOk.bits9 : waitsOk impl_ChannelOk.T9.2 impl_ChannelOk.B9 = true := by kernel_rfl
def impl_ChannelOk.T10 : Bool × List (List Nat × List Nat) := (true, [([], []), ([0], [0]), ([], []), ([2], [2]), ([1, 3], [1, 3]), ([4], [4]), ([], []), ([6, 3], [6]), ([5, 7], [5, 7]), ([1, 3, 0, 1, 2, 3, 4, 5, 6, 7, 8], [1, 3]), ([9, 8, 7, 0, 1, 2, 3, 4, 5, 6, 7, 8], [8, 9])])
def impl_ChannelOk.B10 : List Nat := [0, 1, 0, 4, 15, 31, 0, 76, 255, 511, 1023]
theorem impl_ChannelOk.tab10 : rtab .any (opsOf Try.f11 10) = impl_ChannelOk.T10 := by kernel_rfl
theorem impl_ChannelOk.bits10 : waitsOk impl_ChannelOk.T10.2 impl_ChannelOk.B10 = true := by kernel_rfl
set_option maxHeartbeats 8000000 in
set_option maxRecDepth 100000 in
theorem impl_ChannelOk.calls (k : Nat) (A0_0 : Option Addr) (c0_0 : Nat) (l0_0 : List Int) (A0_1 : Option Addr) (c0_1 : Nat) (l0_1 : List Int) (A0_2 : Option Addr) (c0_2 : Nat) (l0_2 : List Int) (A0_3 : Option Addr) (c0_3 : Nat) (l0_3 : List Int) (P0_4_ : Nat → Prop) (A0_4 : Option Addr) (c0_4 : Nat) (l0_4 : List (S38)) (P0_5_ : Nat → Prop) (A0_5 : Option Addr) (c0_5 : Nat) (l0_5 : List (S38)) (r : Bool) (w : World) (hr0_0 : Kd.C (Kd.int .i64) w A0_0 l0_0.length l0_0) (hc0_0 : l0_0.length ≤ c0_0) (hr0_1 : Kd.C (Kd.int .i64) w A0_1 l0_1.length l0_1) (hc0_1 : l0_1.length ≤ c0_1) (hr0_2 : Kd.C (Kd.int .i64) w A0_2 l0_2.length l0_2) (hc0_2 : l0_2.length ≤ c0_2) (hr0_3 : Kd.C (Kd.int .i64) w A0_3 l0_3.length l0_3) (hc0_3 : l0_3.length ≤ c0_3) (hs0_4 : Kd.V k38 38 w w.heap.size (fun k_ => P0_4_ k_) (.slice A0_4 l0_4.length c0_4) l0_4) (hs0_5 : Kd.V k38 38 w w.heap.size (fun k_ => P0_5_ k_) (.slice A0_5 l0_5.length c0_5) l0_5) (h : impl_ChannelOk.f k l0_0 l0_1 l0_2 l0_3 l0_4 l0_5 = some r) :
  Calls Try.prog 11 #[.agg #[.slice A0_0 l0_0.length c0_0, .slice A0_1 l0_1.length c0_1, .slice A0_2 l0_2.length c0_2, .slice A0_3 l0_3.length c0_3, .slice A0_4 l0_4.length c0_4, .slice A0_5 l0_5.length c0_5]] w fun e w' => e = .returned (.bool r) ∧ Below w.heap.size w w' := by
 have hu33 := Try.underlying33
 have hu30 := Try.underlying30
 have hu38 := Try.underlying38
 have HR0_0 := A_.mk hr0_0
 have HC0_0 := A_.mk hc0_0
 clear hr0_0 hc0_0
 have HR0_1 := A_.mk hr0_1
 have HC0_1 := A_.mk hc0_1
 clear hr0_1 hc0_1
 have HR0_2 := A_.mk hr0_2
 have HC0_2 := A_.mk hc0_2
 clear hr0_2 hc0_2
 have HR0_3 := A_.mk hr0_3
 have HC0_3 := A_.mk hc0_3
 clear hr0_3 hc0_3
 have HO0_4 := A_.mk (show Kd.V k38 38 w w.heap.size (fun k_ => ((P0_4_ k_ ∨ P0_5_ k_) ∨ w.heap.size ≤ k_)) (.slice A0_4 l0_4.length c0_4) l0_4 from Kd.V_mono hs0_4 (fun k_ hk => .inl (.inl hk)))
 have HO0_5 := A_.mk (show Kd.V k38 38 w w.heap.size (fun k_ => ((P0_4_ k_ ∨ P0_5_ k_) ∨ w.heap.size ≤ k_)) (.slice A0_5 l0_5.length c0_5) l0_5 from Kd.V_mono hs0_5 (fun k_ hk => .inl (.inr hk)))
 have HB := A_.mk (Below.refl w.heap.size w)
 have H : ((impl_CreditsOk.f k l0_0 l0_1).bind fun t278 => (if t278 = true then ((impl_CreditsOk.f k l0_2 l0_3).bind fun t279 => (impl_ChannelOk.j0 k (!t279) l0_0 l0_1 l0_2 l0_3 l0_4 l0_5)) else (impl_ChannelOk.j0 k true l0_0 l0_1 l0_2 l0_3 l0_4 l0_5))) = some r := h
 clear h
 have HC2 := A_.mk H
 clear H
 go_enter Try.func11, Try.ntmps11
 go_upto_region 1 with (first | ((with_reducible refine gd_ (N := 1) rfl ?_); refine by_ 1 (cs := #[.slice A0_0 l0_0.length c0_0, .slice A0_1 l0_1.length c0_1, .slice A0_2 l0_2.length c0_2, .slice A0_3 l0_3.length c0_3, .slice A0_4 l0_4.length c0_4, .slice A0_5 l0_5.length c0_5]) (t := 33) ?_; intro gb277 hg w3 hbox hb; have n0_ := A_.mk (Kd.V_below (Kd.V_elderB (by (with_reducible repeat (first | apply Kd.V_alloc | apply Kd.V_drewN | apply Kd.V_drew)); exact HO0_4.out) gb277 (Nat.le_of_eq hg.symm)) hb); have n1_ := A_.mk (Kd.V_below (Kd.V_elderB (by (with_reducible repeat (first | apply Kd.V_alloc | apply Kd.V_drewN | apply Kd.V_drew)); exact HO0_5.out) gb277 (Nat.le_of_eq hg.symm)) hb); have n2_ := A_.mk (bt_ (beY HB.out) hb); have n3_ := A_.mk (hbox); have n4_ := A_.mk ((by rw [hg]; exact (bz_ (beY HB.out)) : w.heap.size ≤ gb277)); have n5_ := A_.mk ((by rw [hg]; exact (bz_ (beY HB.out)) : w.heap.size ≤ gb277)); clear HO0_4 HO0_5 HB; have HO0_4 := n0_; have HO0_5 := n1_; have HB := n2_; have BK277 := n3_; have GW277 := n4_; have GE277 := n5_; clear n0_ n1_ n2_ n3_ n4_ n5_ hb hbox hg))
 (try simp only [Act.put, List.setIfInBounds_toArray, List.set_cons_zero, List.set_cons_succ])
 go_cut [15] (fun v15 wc => ∃ (kq : Nat) (x15_1 : Bool), v15 = .bool x15_1 ∧ A_ (impl_ChannelOk.j0 kq x15_1 l0_0 l0_1 l0_2 l0_3 l0_4 l0_5 = some r) ∧ A_ (kq ≤ k) ∧ A_ (Kd.V k38 38 wc w.heap.size (fun k_ => ((P0_4_ k_ ∨ P0_5_ k_) ∨ w.heap.size ≤ k_) ∧ k_ ≠ gb277) (.slice A0_4 l0_4.length c0_4) l0_4) ∧ A_ (Kd.V k38 38 wc w.heap.size (fun k_ => ((P0_4_ k_ ∨ P0_5_ k_) ∨ w.heap.size ≤ k_) ∧ k_ ≠ gb277) (.slice A0_5 l0_5.length c0_5) l0_5) ∧ A_ (wc.heap[gb277]? = some (.cells #[(.slice A0_0 l0_0.length c0_0), (.slice A0_1 l0_1.length c0_1), (.slice A0_2 l0_2.length c0_2), (.slice A0_3 l0_3.length c0_3), (.slice A0_4 l0_4.length c0_4), (.slice A0_5 l0_5.length c0_5)] 33 (0, 0))) ∧ A_ (Below w.heap.size w wc))
 case first =>
  have H := HC2.out
  clear HC2
  replace H := ob_ H
  obtain ⟨t278, A40, H⟩ := H
  have A4 := A_.mk A40
  clear A40
  by_cases c5 : t278 = true
  rotate_left
  ·replace c5 := Bool.eq_false_iff.mpr c5
   subst c5
   have H1 : (impl_ChannelOk.j0 k true l0_0 l0_1 l0_2 l0_3 l0_4 l0_5) = some r := by rw [if_neg (show ¬ (false = true) by decide)] at H; exact H
   clear H
   have H := H1
   clear H1
   have H' := A_.mk H
   clear H
   obtain ⟨hcz11_0, hcz11_1, hcz11_2, hcz11_3, hcz11_4, hcz11_5, hfz11_0, hfz11_1, hfz11_2, hfz11_3, hfz11_4, hfz11_5⟩ := b6 BK277.out
   go_wp2_with (first | ((with_reducible refine gc_ (f := 40) rfl ?_); refine gl_ (some 8) Try.func40 #[.agg #[.slice A0_0 l0_0.length c0_0, .slice A0_1 l0_1.length c0_1]] ?_; (with_reducible refine (impl_CreditsOk.calls k _ _ l0_0 _ _ l0_1 false _ ?side1 ?side2 ?side3 ?side4 A4.out).mono ?_); (case side1 => exact cY ((Kd.C_below HR0_0.out HB.out))); (case side2 => exact HC0_0.out); (case side3 => exact cY ((Kd.C_below HR0_1.out HB.out))); (case side4 => exact HC0_1.out); rintro e w12 ⟨rfl, hb⟩; refine ⟨_, rfl, ?_⟩; have n0_ := A_.mk (Kd.V_below (by (with_reducible repeat (first | apply Kd.V_alloc | apply Kd.V_drewN | apply Kd.V_drew)); exact HO0_4.out) hb); have n1_ := A_.mk (Kd.V_below (by (with_reducible repeat (first | apply Kd.V_alloc | apply Kd.V_drewN | apply Kd.V_drew)); exact HO0_5.out) hb); have n2_ := A_.mk (bb_ (bY BK277.out) hb); have n3_ := A_.mk (bt_ (by repeat (first | (with_reducible first | exact HB.out | apply ba_ | apply bd_ | apply be_ | refine bs_ ?_ GE277.out) | exact HB.out)) hb); clear HO0_4 HO0_5 BK277 HB; have HO0_4 := n0_; have HO0_5 := n1_; have BK277 := n2_; have HB := n3_; clear n0_ n1_ n2_ n3_; (try clear hb); (try clear hb2); (try clear hk); (try clear hi)))
   go_meet
   case rel => exact ⟨_, (true), (by first | rfl | (simp; done) | (simp [*]; done)), H', ⟨by first | omega | exact Nat.le_refl _⟩, ⟨by (with_reducible repeat (first | apply Kd.V_alloc | apply Kd.V_drewN | apply Kd.V_drew)); exact HO0_4.out⟩, ⟨by (with_reducible repeat (first | apply Kd.V_alloc | apply Kd.V_drewN | apply Kd.V_drew)); exact HO0_5.out⟩, ⟨by (repeat apply bX); exact BK277.out⟩, ⟨by repeat (first | (with_reducible first | exact HB.out | apply ba_ | apply bd_ | apply be_ | refine bs_ ?_ GE277.out) | exact HB.out)⟩⟩
  subst c5
  have H1 : ((impl_CreditsOk.f k l0_2 l0_3).bind fun t279 => (impl_ChannelOk.j0 k (!t279) l0_0 l0_1 l0_2 l0_3 l0_4 l0_5)) = some r := by rw [if_pos rfl] at H; exact H
  clear H
  have H := H1
  clear H1
  replace H := ob_ H
  obtain ⟨t279, A60, H⟩ := H
  have A6 := A_.mk A60
  clear A60
  have H' := A_.mk H
  clear H
  obtain ⟨hcz7_0, hcz7_1, hcz7_2, hcz7_3, hcz7_4, hcz7_5, hfz7_0, hfz7_1, hfz7_2, hfz7_3, hfz7_4, hfz7_5⟩ := b6 BK277.out
  go_wp2_with (first | ((with_reducible refine gc_ (f := 40) rfl ?_); refine gl_ (some 8) Try.func40 #[.agg #[.slice A0_0 l0_0.length c0_0, .slice A0_1 l0_1.length c0_1]] ?_; (with_reducible refine (impl_CreditsOk.calls k _ _ l0_0 _ _ l0_1 true _ ?side1 ?side2 ?side3 ?side4 A4.out).mono ?_); (case side1 => exact cY ((Kd.C_below HR0_0.out HB.out))); (case side2 => exact HC0_0.out); (case side3 => exact cY ((Kd.C_below HR0_1.out HB.out))); (case side4 => exact HC0_1.out); rintro e w8 ⟨rfl, hb⟩; refine ⟨_, rfl, ?_⟩; have n0_ := A_.mk (Kd.V_below (by (with_reducible repeat (first | apply Kd.V_alloc | apply Kd.V_drewN | apply Kd.V_drew)); exact HO0_4.out) hb); have n1_ := A_.mk (Kd.V_below (by (with_reducible repeat (first | apply Kd.V_alloc | apply Kd.V_drewN | apply Kd.V_drew)); exact HO0_5.out) hb); have n2_ := A_.mk (bb_ (bY BK277.out) hb); have n3_ := A_.mk (bt_ (by repeat (first | (with_reducible first | exact HB.out | apply ba_ | apply bd_ | apply be_ | refine bs_ ?_ GE277.out) | exact HB.out)) hb); clear HO0_4 HO0_5 BK277 HB; have HO0_4 := n0_; have HO0_5 := n1_; have BK277 := n2_; have HB := n3_; clear n0_ n1_ n2_ n3_; (try clear hb); (try clear hb2); (try clear hk); (try clear hi); have hcz9_0 : w8.cell? ⟨gb277, 0, none⟩ = some (.slice A0_0 l0_0.length c0_0) := (bc_ BK277.out 0).trans rfl; have hcz9_1 : w8.cell? ⟨gb277, 1, none⟩ = some (.slice A0_1 l0_1.length c0_1) := (bc_ BK277.out 1).trans rfl; have hcz9_2 : w8.cell? ⟨gb277, 2, none⟩ = some (.slice A0_2 l0_2.length c0_2) := (bc_ BK277.out 2).trans rfl; have hcz9_3 : w8.cell? ⟨gb277, 3, none⟩ = some (.slice A0_3 l0_3.length c0_3) := (bc_ BK277.out 3).trans rfl; have hcz9_4 : w8.cell? ⟨gb277, 4, none⟩ = some (.slice A0_4 l0_4.length c0_4) := (bc_ BK277.out 4).trans rfl; have hcz9_5 : w8.cell? ⟨gb277, 5, none⟩ = some (.slice A0_5 l0_5.length c0_5) := (bc_ BK277.out 5).trans rfl; have hfz9_0 := bf_ BK277.out 0; have hfz9_1 := bf_ BK277.out 1; have hfz9_2 := bf_ BK277.out 2; have hfz9_3 := bf_ BK277.out 3; have hfz9_4 := bf_ BK277.out 4; have hfz9_5 := bf_ BK277.out 5) | (go_at_call 40; (with_reducible refine (impl_CreditsOk.calls k _ _ l0_2 _ _ l0_3 t279 _ ?side1 ?side2 ?side3 ?side4 A6.out).mono ?_); (case side1 => exact cY ((Kd.C_below HR0_2.out HB.out))); (case side2 => exact HC0_2.out); (case side3 => exact cY ((Kd.C_below HR0_3.out HB.out))); (case side4 => exact HC0_3.out); rintro e w10 ⟨rfl, hb⟩; have n0_ := A_.mk (Kd.V_below (by (with_reducible repeat (first | apply Kd.V_alloc | apply Kd.V_drewN | apply Kd.V_drew)); exact HO0_4.out) hb); have n1_ := A_.mk (Kd.V_below (by (with_reducible repeat (first | apply Kd.V_alloc | apply Kd.V_drewN | apply Kd.V_drew)); exact HO0_5.out) hb); have n2_ := A_.mk (bb_ (bY BK277.out) hb); have n3_ := A_.mk (bt_ (by repeat (first | (with_reducible first | exact HB.out | apply ba_ | apply bd_ | apply be_ | refine bs_ ?_ GE277.out) | exact HB.out)) hb); clear HO0_4 HO0_5 BK277 HB; have HO0_4 := n0_; have HO0_5 := n1_; have BK277 := n2_; have HB := n3_; clear n0_ n1_ n2_ n3_; (try clear hb); (try clear hb2); (try clear hk); (try clear hi)))
  go_meet
  case rel => exact ⟨_, (!t279), (by first | rfl | (simp; done) | (simp [*]; done)), H', ⟨by first | omega | exact Nat.le_refl _⟩, ⟨by (with_reducible repeat (first | apply Kd.V_alloc | apply Kd.V_drewN | apply Kd.V_drew)); exact HO0_4.out⟩, ⟨by (with_reducible repeat (first | apply Kd.V_alloc | apply Kd.V_drewN | apply Kd.V_drew)); exact HO0_5.out⟩, ⟨by (repeat apply bX); exact BK277.out⟩, ⟨by repeat (first | (with_reducible first | exact HB.out | apply ba_ | apply bd_ | apply be_ | refine bs_ ?_ GE277.out) | exact HB.out)⟩⟩
 case rest =>
  clear HC2
  obtain ⟨kq, x15_1, rfl, HA, HJ1, HO_278004, HO_278005, BK277, HB⟩ := hcut
  cases kq with
  | zero => exact absurd HA.out (by simp [impl_ChannelOk.j0])
  | succ kj1 =>
   have H := HA.out
   clear HA
   simp only [impl_ChannelOk.j0] at H
   by_cases c13 : x15_1 = true
   ·subst c13
    have H1 : (some false) = some r := by rw [if_pos rfl] at H; exact H
    clear H
    have H := H1
    clear H1
    obtain rfl := Option.some.inj H
    go_wp2
    go_ret
    exact ⟨by first | rfl | (simp [errW_none, errW_some] <;> rfl) | (simp [*, errW_none, errW_some] <;> rfl), by repeat (first | (with_reducible first | exact HB.out | apply ba_ | apply bd_ | apply be_ | refine bs_ ?_ GE277.out) | exact HB.out)⟩
   replace c13 := Bool.eq_false_iff.mpr c13
   subst c13
   have H1 : ((impl_copyCredits.f l0_2 l0_3).bind fun bt280 => ((some (([] : List (S38)) : List (S38))).bind fun y287 => (if y287.length + l0_4.length < 1759218604441 then ((some (y287 ++ l0_4 : List (S38))).bind fun y290 => (if y290.length + l0_5.length < 1759218604441 then ((some (y290 ++ l0_5 : List (S38))).bind fun y293 => (impl_ChannelOk.l0 kj1 y293 (y293.length : Int) 0 l0_0 l0_1 l0_2 l0_3 l0_4 l0_5 bt280.1 bt280.2)) else (none))) else (none)))) = some r := by rw [if_neg (show ¬ (false = true) by decide)] at H; exact H
   clear H
   have H := H1
   clear H1
   replace H := ob_ H
   obtain ⟨⟨t280, t283⟩, A140, H⟩ := H
   replace H : ((some (([] : List (S38)) : List (S38))).bind fun y287 => (if y287.length + l0_4.length < 1759218604441 then ((some (y287 ++ l0_4 : List (S38))).bind fun y290 => (if y290.length + l0_5.length < 1759218604441 then ((some (y290 ++ l0_5 : List (S38))).bind fun y293 => (impl_ChannelOk.l0 kj1 y293 (y293.length : Int) 0 l0_0 l0_1 l0_2 l0_3 l0_4 l0_5 t280 t283)) else (none))) else (none))) = some r := H
   have A14 := A_.mk A140
   clear A140
   obtain ⟨y287, hy287⟩ : ∃ y_ : List (S38), y_ = (([] : List (S38))) := ⟨_, rfl⟩
   replace H : (if y287.length + l0_4.length < 1759218604441 then ((some (y287 ++ l0_4 : List (S38))).bind fun y290 => (if y290.length + l0_5.length < 1759218604441 then ((some (y290 ++ l0_5 : List (S38))).bind fun y293 => (impl_ChannelOk.l0 kj1 y293 (y293.length : Int) 0 l0_0 l0_1 l0_2 l0_3 l0_4 l0_5 t280 t283)) else (none))) else (none)) = some r := by first | (rw [hy287]; with_reducible exact H) | (have H2_ := (Option.bind_some _ _).symm.trans H; rw [hy287]; with_reducible exact H2_) | (have H2_ := (Option.bind_some _ _).symm.trans H; with_reducible exact H2_) | with_reducible exact H | (rw [hy287]; exact H) | exact H
   have Ny287 := A_.mk hy287
   clear hy287
   by_cases c15 : y287.length + l0_4.length < 1759218604441
   rotate_left
   ·rw [if_neg c15] at H
    exact absurd H (by simp)
   rw [if_pos c15] at H
   have LMc15 := A_.mk c15
   clear c15
   obtain ⟨y290, hy290⟩ : ∃ y_ : List (S38), y_ = (y287 ++ l0_4) := ⟨_, rfl⟩
   replace H : (if y290.length + l0_5.length < 1759218604441 then ((some (y290 ++ l0_5 : List (S38))).bind fun y293 => (impl_ChannelOk.l0 kj1 y293 (y293.length : Int) 0 l0_0 l0_1 l0_2 l0_3 l0_4 l0_5 t280 t283)) else (none)) = some r := by first | (rw [hy290]; with_reducible exact H) | (have H2_ := (Option.bind_some _ _).symm.trans H; rw [hy290]; with_reducible exact H2_) | (have H2_ := (Option.bind_some _ _).symm.trans H; with_reducible exact H2_) | with_reducible exact H | (rw [hy290]; exact H) | exact H
   have Ny290 := A_.mk hy290
   clear hy290
   by_cases c16 : y290.length + l0_5.length < 1759218604441
   rotate_left
   ·rw [if_neg c16] at H
    exact absurd H (by simp)
   rw [if_pos c16] at H
   have LMc16 := A_.mk c16
   clear c16
   obtain ⟨y293, hy293⟩ : ∃ y_ : List (S38), y_ = (y290 ++ l0_5) := ⟨_, rfl⟩
   replace H : (impl_ChannelOk.l0 kj1 y293 (y293.length : Int) 0 l0_0 l0_1 l0_2 l0_3 l0_4 l0_5 t280 t283) = some r := by first | (rw [hy293]; with_reducible exact H) | (have H2_ := (Option.bind_some _ _).symm.trans H; rw [hy293]; with_reducible exact H2_) | (have H2_ := (Option.bind_some _ _).symm.trans H; with_reducible exact H2_) | with_reducible exact H | (rw [hy293]; exact H) | exact H
   have Ny293 := A_.mk hy293
   clear hy293
   have H' := A_.mk H
   clear H
   obtain ⟨hcz17_0, hcz17_1, hcz17_2, hcz17_3, hcz17_4, hcz17_5, hfz17_0, hfz17_1, hfz17_2, hfz17_3, hfz17_4, hfz17_5⟩ := b6 BK277.out
   go_wp2_with (first | ((with_reducible refine gc_ (f := 41) rfl ?_); refine gl_ (some 18) Try.func41 #[.agg #[.slice A0_2 l0_2.length c0_2, .slice A0_3 l0_3.length c0_3]] ?_; (with_reducible refine (impl_copyCredits.calls _ _ l0_2 _ _ l0_3 t280 t283 _ ?side1 ?side2 ?side3 ?side4 A14.out).mono ?_); (case side1 => exact cY ((Kd.C_below HR0_2.out HB.out))); (case side2 => exact HC0_2.out); (case side3 => exact cY ((Kd.C_below HR0_3.out HB.out))); (case side4 => exact HC0_3.out); rintro e w18 ⟨v281, v284, rfl, ho0, ho1, hb⟩; refine ⟨_, rfl, ?_⟩; have n0_ := A_.mk (Kd.V_mono (Kd.V_told (Kd.V_told (Kd.V_old (by (with_reducible repeat (first | apply Kd.V_alloc | apply Kd.V_drewN | apply Kd.V_drew)); exact HO_278004.out) hb) (Kd.R_base ho0)) (Kd.R_base ho1)) (fun _ h_ => h_.1)); have n1_ := A_.mk (Kd.V_mono (Kd.V_told (Kd.V_told (Kd.V_old (by (with_reducible repeat (first | apply Kd.V_alloc | apply Kd.V_drewN | apply Kd.V_drew)); exact HO_278005.out) hb) (Kd.R_base ho0)) (Kd.R_base ho1)) (fun _ h_ => h_.1)); have n2_ := A_.mk (Kd.R_lower (Kd.R_newM (M := fun k_ => (w.heap.size ≤ k_)) ho0 (bz_ (by repeat (first | (with_reducible first | exact HB.out | apply ba_ | apply bd_ | apply be_ | refine bs_ ?_ GE277.out) | exact HB.out))) (fun k_ h_ => h_)) (bz_ (by repeat (first | (with_reducible first | exact HB.out | apply ba_ | apply bd_ | apply be_ | refine bs_ ?_ GE277.out) | exact HB.out)))); have n3_ := A_.mk (Kd.R_lower (Kd.R_newM (M := fun k_ => (w.heap.size ≤ k_)) ho1 (bz_ (by repeat (first | (with_reducible first | exact HB.out | apply ba_ | apply bd_ | apply be_ | refine bs_ ?_ GE277.out) | exact HB.out))) (fun k_ h_ => h_)) (bz_ (by repeat (first | (with_reducible first | exact HB.out | apply ba_ | apply bd_ | apply be_ | refine bs_ ?_ GE277.out) | exact HB.out)))); have n4_ := A_.mk (bb_ (bY BK277.out) hb); have n5_ := A_.mk (bt_ (by repeat (first | (with_reducible first | exact HB.out | apply ba_ | apply bd_ | apply be_ | refine bs_ ?_ GE277.out) | exact HB.out)) hb); clear HO_278004 HO_278005 BK277 HB; have HO_278004 := n0_; have HO_278005 := n1_; have HO282 := n2_; have HO285 := n3_; have BK277 := n4_; have HB := n5_; clear n0_ n1_ n2_ n3_ n4_ n5_; (try clear hb); (try clear hb2); (try clear hk); (try clear hi); (try clear ho0); (try clear ho1)) | ((with_reducible refine gd_ (N := 3) rfl ?_); refine by_ 3 (cs := #[.slice none 0 0, .slice none 0 0]) (t := 30) ?_; intro gb286 hg w19 hbox hb; have n0_ := A_.mk (Kd.V_below (Kd.V_elderB (by (with_reducible repeat (first | apply Kd.V_alloc | apply Kd.V_drewN | apply Kd.V_drew)); exact HO_278004.out) gb286 (Nat.le_of_eq hg.symm)) hb); have n1_ := A_.mk (Kd.V_below (Kd.V_elderB (by (with_reducible repeat (first | apply Kd.V_alloc | apply Kd.V_drewN | apply Kd.V_drew)); exact HO_278005.out) gb286 (Nat.le_of_eq hg.symm)) hb); have n2_ := A_.mk (Kd.R_below (rY HO282.out) hb); have n3_ := A_.mk (Kd.R_below (rY HO285.out) hb); have n4_ := A_.mk (bb_ (bY BK277.out) hb); have n5_ := A_.mk (bt_ (by repeat (first | (with_reducible first | exact HB.out | apply ba_ | apply bd_ | apply be_ | refine bs_ ?_ GE277.out) | exact HB.out)) hb); have n6_ := A_.mk (hbox); have n7_ := A_.mk ((by rw [hg]; exact (bz_ (by repeat (first | (with_reducible first | exact HB.out | apply ba_ | apply bd_ | apply be_ | refine bs_ ?_ GE277.out) | exact HB.out))) : w.heap.size ≤ gb286)); have n8_ := A_.mk ((by rw [hg]; exact (bz_ (by repeat (first | (with_reducible first | exact HB.out | apply ba_ | apply bd_ | apply be_ | refine bs_ ?_ GE277.out) | exact HB.out))) : w.heap.size ≤ gb286)); have n9_ := A_.mk ((by rw [hg]; exact Nat.ne_of_lt (blk_lt (bY BK277.out)) : gb277 ≠ gb286)); have n10_ := A_.mk ((by rw [hg]; exact Nat.ne_of_gt (blk_lt (bY BK277.out)) : gb286 ≠ gb277)); clear HO_278004 HO_278005 HO282 HO285 BK277 HB; have HO_278004 := n0_; have HO_278005 := n1_; have HO282 := n2_; have HO285 := n3_; have BK277 := n4_; have HB := n5_; have BK286 := n6_; have GW286 := n7_; have GE286 := n8_; have NB277_286 := n9_; have NB286_277 := n10_; clear n0_ n1_ n2_ n3_ n4_ n5_ n6_ n7_ n8_ n9_ n10_ hb hbox hg; obtain ⟨Ao20, co20, eo20⟩ := Kd.R_slice HO282.out; subst eo20; have hnb21 := NB286_277.out; have hnc21 := NB277_286.out; have hcz22_0 : w19.cell? ⟨gb286, 0, none⟩ = some (.slice none 0 0) := (bc_ BK286.out 0).trans rfl; have hcz22_1 : w19.cell? ⟨gb286, 1, none⟩ = some (.slice none 0 0) := (bc_ BK286.out 1).trans rfl; have hfz22_0 := bf_ BK286.out 0; have hfz22_1 := bf_ BK286.out 1; obtain ⟨Ao23, co23, eo23⟩ := Kd.R_slice HO285.out; subst eo23; have hcz24_0 : w19.cell? ⟨gb277, 0, none⟩ = some (.slice A0_0 l0_0.length c0_0) := (bc_ BK277.out 0).trans rfl; have hcz24_1 : w19.cell? ⟨gb277, 1, none⟩ = some (.slice A0_1 l0_1.length c0_1) := (bc_ BK277.out 1).trans rfl; have hcz24_2 : w19.cell? ⟨gb277, 2, none⟩ = some (.slice A0_2 l0_2.length c0_2) := (bc_ BK277.out 2).trans rfl; have hcz24_3 : w19.cell? ⟨gb277, 3, none⟩ = some (.slice A0_3 l0_3.length c0_3) := (bc_ BK277.out 3).trans rfl; have hcz24_4 : w19.cell? ⟨gb277, 4, none⟩ = some (.slice A0_4 l0_4.length c0_4) := (bc_ BK277.out 4).trans rfl; have hcz24_5 : w19.cell? ⟨gb277, 5, none⟩ = some (.slice A0_5 l0_5.length c0_5) := (bc_ BK277.out 5).trans rfl; have hfz24_0 := bf_ BK277.out 0; have hfz24_1 := bf_ BK277.out 1; have hfz24_2 := bf_ BK277.out 2; have hfz24_3 := bf_ BK277.out 3; have hfz24_4 := bf_ BK277.out 4; have hfz24_5 := bf_ BK277.out 5) | ((with_reducible refine gd_ (N := 23) rfl ?_); refine lit2_event ?hg (N := 23) ?hd (cs := #[.slice A0_4 l0_4.length c0_4, .slice A0_5 l0_5.length c0_5]) (t := 31) ?hr ?_; (case hd => rfl); (case hg => rfl); (case hr => first | (go_simp; done) | (go_simp; rfl)); intro g288 w25 hbox hb hbs_; have n0_ := A_.mk (Kd.V_elder' (by (with_reducible repeat (first | apply Kd.V_alloc | apply Kd.V_drewN | apply Kd.V_drew)); exact (Kd.V_mono (Kd.V_far (p := ⟨gb286, 1, none⟩) (Kd.V_far (p := ⟨gb286, 0, none⟩) (Kd.V_mono HO_278004.out (fun k_ hk => (⟨hk, hk.2⟩ : _ ∧ k_ ≠ gb286))) (fun _ hk => hk.2) (.slice Ao20 t280.length co20)) (fun _ hk => hk.2) (.slice Ao23 t283.length co23)) (fun _ h_ => h_.1))) hbs_ hb); have n1_ := A_.mk (Kd.V_elder' (by (with_reducible repeat (first | apply Kd.V_alloc | apply Kd.V_drewN | apply Kd.V_drew)); exact (Kd.V_mono (Kd.V_far (p := ⟨gb286, 1, none⟩) (Kd.V_far (p := ⟨gb286, 0, none⟩) (Kd.V_mono HO_278005.out (fun k_ hk => (⟨hk, hk.2⟩ : _ ∧ k_ ≠ gb286))) (fun _ hk => hk.2) (.slice Ao20 t280.length co20)) (fun _ hk => hk.2) (.slice Ao23 t283.length co23)) (fun _ h_ => h_.1))) hbs_ hb); have n2_ := A_.mk (Kd.R_below (by (repeat apply rX); exact (Kd.R_mono (Kd.R_far (p := ⟨gb286, 1, none⟩) (Kd.R_far (p := ⟨gb286, 0, none⟩) (Kd.R_types HO282.out BK286.out (by decide)) (fun _ hk => hk.2) (.slice Ao20 t280.length co20)) (fun _ hk => hk.2) (.slice Ao23 t283.length co23)) (fun _ h_ => h_.1))) hb); have n3_ := A_.mk (Kd.R_below (by (repeat apply rX); exact (Kd.R_mono (Kd.R_far (p := ⟨gb286, 1, none⟩) (Kd.R_far (p := ⟨gb286, 0, none⟩) (Kd.R_types HO285.out BK286.out (by decide)) (fun _ hk => hk.2) (.slice Ao20 t280.length co20)) (fun _ hk => hk.2) (.slice Ao23 t283.length co23)) (fun _ h_ => h_.1))) hb); have n4_ := A_.mk hbox; have n5_ := A_.mk (bb_ (g := gb277) (o := .cells #[.slice A0_0 l0_0.length c0_0, .slice A0_1 l0_1.length c0_1, .slice A0_2 l0_2.length c0_2, .slice A0_3 l0_3.length c0_3, .slice A0_4 l0_4.length c0_4, .slice A0_5 l0_5.length c0_5] 33 (0, 0)) (by (repeat apply bX); refine blk_far ?_ NB277_286.out _; (repeat apply bX); refine blk_far ?_ NB277_286.out _; (repeat apply bX); exact BK277.out) hb); have n6_ := A_.mk (bb_ (g := gb286) (o := .cells #[.slice Ao20 t280.length co20, .slice Ao23 t283.length co23] 30 (0, 0)) (by (repeat apply bX); refine bp_ (cs := #[.slice Ao20 t280.length co20, .slice none 0 0]) ?_ 1 _ rfl; (repeat apply bX); refine bp_ (cs := #[.slice none 0 0, .slice none 0 0]) ?_ 0 _ rfl; (repeat apply bX); exact BK286.out) hb); have n7_ := A_.mk (bt_ (by repeat (first | (with_reducible first | exact HB.out | apply ba_ | apply bd_ | apply be_ | refine bs_ ?_ GE277.out | refine bs_ ?_ GE286.out) | exact HB.out)) hb); clear HO_278004 HO_278005 HO282 HO285 BK277 BK286 HB; have HO_278004 := n0_; have HO_278005 := n1_; have HO282 := n2_; have HO285 := n3_; have HO289 := n4_; have BK277 := n5_; have BK286 := n6_; have HB := n7_; clear n0_ n1_ n2_ n3_ n4_ n5_ n6_ n7_ hb hbox hbs_))
   have fr_ : ∀ k_, w25.heap.size ≤ k_ → (fun k_ => ((P0_4_ k_ ∨ P0_5_ k_) ∨ w.heap.size ≤ k_) ∧ some k_ ≠ (.slice Ao20 t280.length co20 : Value).ownBlock ∧ some k_ ≠ (.slice Ao23 t283.length co23 : Value).ownBlock ∧ k_ ≠ gb277 ∧ k_ ≠ gb286) k_ := (fun k_ hk => ⟨(.inr (Nat.le_trans (bz_ (by repeat (first | (with_reducible first | exact HB.out | apply ba_ | apply bd_ | apply be_ | refine bs_ ?_ GE277.out | refine bs_ ?_ GE286.out) | exact HB.out))) hk)), Kd.fresh' (Kd.R_lt (rY HO282.out)) k_ hk, Kd.fresh' (Kd.R_lt (rY HO285.out)) k_ hk, Kd.freshB (g := gb277) (o := .cells #[.slice A0_0 l0_0.length c0_0, .slice A0_1 l0_1.length c0_1, .slice A0_2 l0_2.length c0_2, .slice A0_3 l0_3.length c0_3, .slice A0_4 l0_4.length c0_4, .slice A0_5 l0_5.length c0_5] 33 (0, 0)) (bY BK277.out) k_ hk, Kd.freshB (g := gb286) (o := .cells #[.slice Ao20 t280.length co20, .slice Ao23 t283.length co23] 30 (0, 0)) (bY BK286.out) k_ hk⟩)
   (with_reducible refine (slices_Concat.calls g288 A0_4 c0_4 l0_4 A0_5 c0_5 l0_5 (fun k_ => ((P0_4_ k_ ∨ P0_5_ k_) ∨ w.heap.size ≤ k_) ∧ some k_ ≠ (.slice Ao20 t280.length co20 : Value).ownBlock ∧ some k_ ≠ (.slice Ao23 t283.length co23 : Value).ownBlock ∧ k_ ≠ gb277 ∧ k_ ≠ gb286) w.heap.size w.heap.size _ ?side1 ?side2 ?side3 ?side4).mono ?_)
   (case side1 => exact (bY HO289.out))
   (case side2 => exact Kd.V_mono HO_278004.out (fun _ hk => ⟨hk.1.1.1.1.1, ⟨hk.1.1.1.2, ⟨hk.1.1.2, ⟨hk.1.1.1.1.2, hk.1.2⟩⟩⟩⟩))
   (case side3 => exact Kd.V_mono HO_278005.out (fun _ hk => ⟨hk.1.1.1.1.1, ⟨hk.1.1.1.2, ⟨hk.1.1.2, ⟨hk.1.1.1.1.2, hk.1.2⟩⟩⟩⟩))
   (case side4 => have h_ := LMc16.out; rw [Ny290.out, Ny287.out] at h_; simp only [List.nil_append] at h_; omega)
   rintro e w28 ⟨v294, rfl, ho, hb⟩
   replace ho := Kd.N_mono (ok' := (fun k_ => ((P0_4_ k_ ∨ P0_5_ k_) ∨ w.heap.size ≤ k_) ∧ some k_ ≠ (.slice Ao20 t280.length co20 : Value).ownBlock ∧ some k_ ≠ (.slice Ao23 t283.length co23 : Value).ownBlock ∧ k_ ≠ gb277 ∧ k_ ≠ gb286)) ho (fun k_ hk => hk.elim (fun h_ => h_) (fr_ k_))
   rw [show l0_4 ++ l0_5 = y293 from by rw [Ny293.out, Ny290.out, Ny287.out]; rfl] at ho
   have n0_ := A_.mk (Kd.V_mono (ok' := fun k_ => (fun k_ => ((P0_4_ k_ ∨ P0_5_ k_) ∨ w.heap.size ≤ k_) ∧ some k_ ≠ (.slice Ao20 t280.length co20 : Value).ownBlock ∧ some k_ ≠ (.slice Ao23 t283.length co23 : Value).ownBlock ∧ k_ ≠ gb277 ∧ k_ ≠ gb286) k_ ∧ some k_ ≠ (v294 : Value).ownBlock) (Kd.V_elder' HO_278004.out (Kd.N_base ho) hb) (fun _ hk => ⟨⟨hk.1.1.1.1.1.1, ⟨hk.1.1.1.1.2, ⟨hk.1.1.1.2, ⟨hk.1.1.1.1.1.2, hk.1.1.2⟩⟩⟩⟩, hk.2⟩))
   have n1_ := A_.mk (Kd.V_mono (ok' := fun k_ => (fun k_ => ((P0_4_ k_ ∨ P0_5_ k_) ∨ w.heap.size ≤ k_) ∧ some k_ ≠ (.slice Ao20 t280.length co20 : Value).ownBlock ∧ some k_ ≠ (.slice Ao23 t283.length co23 : Value).ownBlock ∧ k_ ≠ gb277 ∧ k_ ≠ gb286) k_ ∧ some k_ ≠ (v294 : Value).ownBlock) (Kd.V_elder' HO_278005.out (Kd.N_base ho) hb) (fun _ hk => ⟨⟨hk.1.1.1.1.1.1, ⟨hk.1.1.1.1.2, ⟨hk.1.1.1.2, ⟨hk.1.1.1.1.1.2, hk.1.1.2⟩⟩⟩⟩, hk.2⟩))
   have n2_ := A_.mk (bb_ (bY BK277.out) hb)
   have n3_ := A_.mk (Kd.R_below (rY HO282.out) hb)
   have n4_ := A_.mk (Kd.R_below (rY HO285.out) hb)
   have n5_ := A_.mk (bb_ (bY BK286.out) hb)
   have n6_ := A_.mk (bt_ (by repeat (first | (with_reducible first | exact HB.out | apply ba_ | apply bd_ | apply be_ | refine bs_ ?_ GE277.out | refine bs_ ?_ GE286.out) | exact HB.out)) hb)
   have n7_ := A_.mk (Kd.N_lower ho (bz_ (by repeat (first | (with_reducible first | exact HB.out | apply ba_ | apply bd_ | apply be_ | refine bs_ ?_ GE277.out | refine bs_ ?_ GE286.out) | exact HB.out))))
   clear HO_278004 HO_278005 BK277 HO282 HO285 BK286 HB HO289
   have HO_278004 := n0_
   have HO_278005 := n1_
   have BK277 := n2_
   have HO282 := n3_
   have HO285 := n4_
   have BK286 := n5_
   have HB := n6_
   have HO295 := n7_
   clear n0_ n1_ n2_ n3_ n4_ n5_ n6_ n7_ ho hb fr_
   obtain ⟨Ao29, co29, eo29⟩ := Kd.N_slice HO295.out
   subst eo29
   go_wp2
   go_loopg [26] kj1 (fun kq v26 w' => ∃ (x26_2 : Int) (x287000_2 : List Int) (x287001_2 : List Int) (u287000 : Value) (u287001 : Value), v26 = .int .i64 x26_2 ∧ A_ (impl_ChannelOk.l0 kq y293 (y293.length : Int) x26_2 l0_0 l0_1 l0_2 l0_3 l0_4 l0_5 x287000_2 x287001_2 = some r) ∧ A_ (kq ≤ kj1) ∧ A_ (Kd.N k38 38 w' w.heap.size (fun k_ => ((P0_4_ k_ ∨ P0_5_ k_) ∨ w.heap.size ≤ k_) ∧ some k_ ≠ (u287000 : Value).ownBlock ∧ some k_ ≠ (u287001 : Value).ownBlock ∧ k_ ≠ gb277 ∧ k_ ≠ gb286) (.slice Ao29 y293.length co29) y293) ∧ A_ (Kd.V k38 38 w' w.heap.size (fun k_ => ((P0_4_ k_ ∨ P0_5_ k_) ∨ w.heap.size ≤ k_) ∧ some k_ ≠ ((.slice Ao29 y293.length co29) : Value).ownBlock ∧ some k_ ≠ (u287000 : Value).ownBlock ∧ some k_ ≠ (u287001 : Value).ownBlock ∧ k_ ≠ gb277 ∧ k_ ≠ gb286) (.slice A0_4 l0_4.length c0_4) l0_4) ∧ A_ (Kd.V k38 38 w' w.heap.size (fun k_ => ((P0_4_ k_ ∨ P0_5_ k_) ∨ w.heap.size ≤ k_) ∧ some k_ ≠ ((.slice Ao29 y293.length co29) : Value).ownBlock ∧ some k_ ≠ (u287000 : Value).ownBlock ∧ some k_ ≠ (u287001 : Value).ownBlock ∧ k_ ≠ gb277 ∧ k_ ≠ gb286) (.slice A0_5 l0_5.length c0_5) l0_5) ∧ A_ (Kd.R (Kd.int .i64) 3 w' w.heap.size (fun k_ => (w.heap.size ≤ k_) ∧ some k_ ≠ (u287001 : Value).ownBlock) u287000 x287000_2) ∧ A_ (Kd.R (Kd.int .i64) 3 w' w.heap.size (fun k_ => (w.heap.size ≤ k_) ∧ some k_ ≠ (u287000 : Value).ownBlock) u287001 x287001_2) ∧ A_ (w'.heap[gb277]? = some (.cells #[(.slice A0_0 l0_0.length c0_0), (.slice A0_1 l0_1.length c0_1), (.slice A0_2 l0_2.length c0_2), (.slice A0_3 l0_3.length c0_3), (.slice A0_4 l0_4.length c0_4), (.slice A0_5 l0_5.length c0_5)] 33 (0, 0))) ∧ A_ (w'.heap[gb286]? = some (.cells #[u287000, u287001] 30 (0, 0))) ∧ A_ (Below w.heap.size w w'))
   case atStart => exact ⟨(0), (t280), (t283), (.slice Ao20 t280.length co20), (.slice Ao23 t283.length co23), (by first | rfl | (simp; done) | (simp [*]; done)), H', ⟨Nat.le_refl _⟩, ⟨by (with_reducible repeat (first | apply Kd.N_alloc | apply Kd.N_drewN | apply Kd.N_drew)); exact HO295.out⟩, ⟨by (with_reducible repeat (first | apply Kd.V_alloc | apply Kd.V_drewN | apply Kd.V_drew)); exact Kd.V_mono HO_278004.out (fun _ hk => ⟨hk.1.1, ⟨hk.2, ⟨hk.1.2.1, ⟨hk.1.2.2.1, ⟨hk.1.2.2.2.1, hk.1.2.2.2.2⟩⟩⟩⟩⟩)⟩, ⟨by (with_reducible repeat (first | apply Kd.V_alloc | apply Kd.V_drewN | apply Kd.V_drew)); exact Kd.V_mono HO_278005.out (fun _ hk => ⟨hk.1.1, ⟨hk.2, ⟨hk.1.2.1, ⟨hk.1.2.2.1, ⟨hk.1.2.2.2.1, hk.1.2.2.2.2⟩⟩⟩⟩⟩)⟩, ⟨by (repeat apply rX); exact HO282.out⟩, ⟨by (repeat apply rX); exact HO285.out⟩, ⟨by (repeat apply bX); exact BK277.out⟩, ⟨by (repeat apply bX); exact BK286.out⟩, ⟨by repeat (first | (with_reducible first | exact HB.out | apply ba_ | apply bd_ | apply be_ | refine bs_ ?_ GE277.out | refine bs_ ?_ GE286.out) | exact HB.out)⟩⟩
   case round =>
    clear H'
    obtain ⟨x26_2, x287000_2, x287001_2, u287000, u287001, rfl, HA, HK2, HO_24, HO_278004, HO_278005, HO_287000, HO_287001, BK277, BK286, HB⟩ := hrel
    cases gk with
    | zero => exact absurd HA.out (by simp [impl_ChannelOk.l0])
    | succ k2 =>
     have H := HA.out
     clear HA
     simp only [impl_ChannelOk.l0] at H
     by_cases c30 : x26_2 < (y293.length : Int)
     rotate_left
     ·rw [if_neg c30] at H
      have c30b0 : decide (x26_2 < (y293.length : Int)) = false := decide_eq_false c30
      clear c30
      replace H := ob_ H
      obtain ⟨t296, A640, H⟩ := H
      have A64 := A_.mk A640
      clear A640
      obtain rfl := Option.some.inj H
      have hnb65 := NB286_277.out
      have hnc65 := NB277_286.out
      obtain ⟨hcz66_0, hcz66_1, hfz66_0, hfz66_1⟩ := b2 BK286.out
      obtain ⟨hcz67_0, hcz67_1, hcz67_2, hcz67_3, hcz67_4, hcz67_5, hfz67_0, hfz67_1, hfz67_2, hfz67_3, hfz67_4, hfz67_5⟩ := b6 BK277.out
      obtain ⟨Ao68, co68, eo68⟩ := Kd.R_slice HO_287000.out
      subst eo68
      obtain ⟨Ao69, co69, eo69⟩ := Kd.R_slice HO_287001.out
      subst eo69
      go_wp2_with (first | ((with_reducible refine gc_ (f := 30) rfl ?_); refine gl_ (some 55) Try.func30 #[.agg #[.slice Ao68 x287000_2.length co68, .slice Ao69 x287001_2.length co69], .agg #[.slice A0_0 l0_0.length c0_0, .slice A0_1 l0_1.length c0_1]] ?_; (with_reducible refine (impl_SameCredits.calls k2 _ _ x287000_2 _ _ x287001_2 _ _ l0_0 _ _ l0_1 t296 _ ?side1 ?side2 ?side3 ?side4 ?side5 ?side6 ?side7 ?side8 A64.out).mono ?_); (case side1 => exact cY ((Kd.R_reads' HO_287000.out).2.2)); (case side2 => exact (Kd.R_reads' HO_287000.out).2.1); (case side3 => exact cY ((Kd.R_reads' HO_287001.out).2.2)); (case side4 => exact (Kd.R_reads' HO_287001.out).2.1); (case side5 => exact cY ((Kd.C_below HR0_0.out HB.out))); (case side6 => exact HC0_0.out); (case side7 => exact cY ((Kd.C_below HR0_1.out HB.out))); (case side8 => exact HC0_1.out); rintro e w70 ⟨rfl, hb⟩; refine ⟨_, rfl, ?_⟩; have n0_ := A_.mk (Kd.N_below (by (with_reducible repeat (first | apply Kd.N_alloc | apply Kd.N_drewN | apply Kd.N_drew)); exact HO_24.out) hb); have n1_ := A_.mk (Kd.V_below (by (with_reducible repeat (first | apply Kd.V_alloc | apply Kd.V_drewN | apply Kd.V_drew)); exact HO_278004.out) hb); have n2_ := A_.mk (Kd.V_below (by (with_reducible repeat (first | apply Kd.V_alloc | apply Kd.V_drewN | apply Kd.V_drew)); exact HO_278005.out) hb); have n3_ := A_.mk (Kd.R_below (rY HO_287000.out) hb); have n4_ := A_.mk (Kd.R_below (rY HO_287001.out) hb); have n5_ := A_.mk (bb_ (bY BK277.out) hb); have n6_ := A_.mk (bb_ (bY BK286.out) hb); have n7_ := A_.mk (bt_ (by repeat (first | (with_reducible first | exact HB.out | apply ba_ | apply bd_ | apply be_ | refine bs_ ?_ GE277.out | refine bs_ ?_ GE286.out) | exact HB.out)) hb); clear HO_24 HO_278004 HO_278005 HO_287000 HO_287001 BK277 BK286 HB; have HO_24 := n0_; have HO_278004 := n1_; have HO_278005 := n2_; have HO_287000 := n3_; have HO_287001 := n4_; have BK277 := n5_; have BK286 := n6_; have HB := n7_; clear n0_ n1_ n2_ n3_ n4_ n5_ n6_ n7_; (try clear hb); (try clear hb2); (try clear hk); (try clear hi)))
      go_ret
      exact ⟨by first | rfl | (simp [errW_none, errW_some] <;> rfl) | (simp [*, errW_none, errW_some] <;> rfl), by repeat (first | (with_reducible first | exact HB.out | apply ba_ | apply bd_ | apply be_ | refine bs_ ?_ GE277.out | refine bs_ ?_ GE286.out) | exact HB.out)⟩
     rw [if_pos c30] at H
     have c30b0 : decide (x26_2 < (y293.length : Int)) = true := decide_eq_true c30
     clear c30
     by_cases c31 : 0 ≤ x26_2
     rotate_left
     ·rw [if_neg c31] at H
      exact absurd H (by simp)
     rw [if_pos c31] at H
     have c31b0 : decide (0 ≤ x26_2) = true := decide_eq_true c31
     clear c31
     by_cases c32 : x26_2 < (y293.length : Int)
     rotate_left
     ·rw [if_neg c32] at H
      exact absurd H (by simp)
     rw [if_pos c32] at H
     have c32b0 : decide (x26_2 < (y293.length : Int)) = true := decide_eq_true c32
     clear c32
     replace H := ob_ H
     obtain ⟨t299, A330, H⟩ := H
     have A33 := A_.mk A330
     clear A330
     by_cases c34 : t299 = true
     rotate_left
     ·replace c34 := Bool.eq_false_iff.mpr c34
      subst c34
      have H1 : (some false) = some r := by rw [if_neg (show ¬ (false = true) by decide)] at H; exact H
      clear H
      have H := H1
      clear H1
      obtain rfl := Option.some.inj H
      have p297 : 0 ≤ (x26_2 : Int) := od_
      have q297 : x26_2 < (y293.length : Int) := od_
      obtain ⟨ad297, A297_7, c297_7, e297, hx297_0, hx297_1, hx297_2, hx297_3, hx297_4, hx297_5, hx297_6, hx297_7, hl297_7, hi297_7⟩ := at_T38 (Kd.N_reads' HO_24.out).2.2 x26_2 p297 q297
      cases e297
      obtain ⟨ce297, hce297, hMe297, hcc297⟩ := Kd.N_get HO_24.out z38 x26_2 p297 (by first | exact q297 | exact od_ | (have e_ := (Kd.N_reads' HO_24.out).1; omega))
      obtain ⟨ua297_7, uc297_7, rfl, ul297_7, ge297_7⟩ := k38_openF hMe297
      have hv297_7 := hcc297 7 _ rfl
      rw [add_field _ _ 7 (by omega)] at hv297_7
      replace hv297_7 := Option.some.inj (hv297_7.symm.trans hx297_7)
      injection hv297_7 with hva_ hvn_ hvc_
      rw [hva_] at ge297_7
      rw [hvc_] at ul297_7
      have HL297_7 := A_.mk (show Kd.V (Kd.int .i64) 3 _ w.heap.size _ _ ((rd_T38 y293 x26_2).f7) from Kd.V_mk ul297_7 ge297_7)
      clear hva_ hvn_ hvc_ ge297_7 ul297_7 hcc297 hce297
      have HR297_7 := A_.mk hi297_7
      have HC297_7 := A_.mk hl297_7
      clear hi297_7 hl297_7
      replace p297 := eq_true p297
      replace q297 := eq_true q297
      go_wp2_with (first | ((with_reducible refine gd_ (N := 5) rfl ?_); refine by_ 5 (cs := #[.int .i64 0, .int .i64 0, .int .i64 0, .int .i64 0, .int .i64 0, .int .i64 0, .int .i64 0, .slice none 0 0]) (t := 38) ?_; intro gb298 hg w59 hbox hb; have n0_ := A_.mk (Kd.N_below (Kd.N_elderB (by (with_reducible repeat (first | apply Kd.N_alloc | apply Kd.N_drewN | apply Kd.N_drew)); exact HO_24.out) gb298 (Nat.le_of_eq hg.symm)) hb); have n1_ := A_.mk (Kd.V_below (Kd.V_elderB (by (with_reducible repeat (first | apply Kd.V_alloc | apply Kd.V_drewN | apply Kd.V_drew)); exact HO_278004.out) gb298 (Nat.le_of_eq hg.symm)) hb); have n2_ := A_.mk (Kd.V_below (Kd.V_elderB (by (with_reducible repeat (first | apply Kd.V_alloc | apply Kd.V_drewN | apply Kd.V_drew)); exact HO_278005.out) gb298 (Nat.le_of_eq hg.symm)) hb); have n3_ := A_.mk (Kd.R_below (rY HO_287000.out) hb); have n4_ := A_.mk (Kd.R_below (rY HO_287001.out) hb); have n5_ := A_.mk (Kd.V_below (Kd.V_elderB (by (with_reducible repeat (first | apply Kd.V_alloc | apply Kd.V_drewN | apply Kd.V_drew)); exact HL297_7.out) gb298 (Nat.le_of_eq hg.symm)) hb); have n6_ := A_.mk (bb_ (bY BK277.out) hb); have n7_ := A_.mk (bb_ (bY BK286.out) hb); have n8_ := A_.mk (Kd.C_below (by repeat (first | (with_reducible exact HR297_7.out) | (with_reducible refine Kd.C_alloc ?_ _) | (with_reducible refine Kd.C_drewN ?_ _) | (with_reducible refine Kd.C_drew ?_) | exact HR297_7.out)) hb); have n9_ := A_.mk (bt_ (by repeat (first | (with_reducible first | exact HB.out | apply ba_ | apply bd_ | apply be_ | refine bs_ ?_ GE277.out | refine bs_ ?_ GE286.out) | exact HB.out)) hb); have n10_ := A_.mk (hbox); have n11_ := A_.mk ((by rw [hg]; exact (bz_ (by repeat (first | (with_reducible first | exact HB.out | apply ba_ | apply bd_ | apply be_ | refine bs_ ?_ GE277.out | refine bs_ ?_ GE286.out) | exact HB.out))) : w.heap.size ≤ gb298)); have n12_ := A_.mk ((by rw [hg]; exact (bz_ (by repeat (first | (with_reducible first | exact HB.out | apply ba_ | apply bd_ | apply be_ | refine bs_ ?_ GE277.out | refine bs_ ?_ GE286.out) | exact HB.out))) : w.heap.size ≤ gb298)); have n13_ := A_.mk ((by rw [hg]; exact Nat.ne_of_lt (blk_lt (bY BK277.out)) : gb277 ≠ gb298)); have n14_ := A_.mk ((by rw [hg]; exact Nat.ne_of_gt (blk_lt (bY BK277.out)) : gb298 ≠ gb277)); have n15_ := A_.mk ((by rw [hg]; exact Nat.ne_of_lt (blk_lt (bY BK286.out)) : gb286 ≠ gb298)); have n16_ := A_.mk ((by rw [hg]; exact Nat.ne_of_gt (blk_lt (bY BK286.out)) : gb298 ≠ gb286)); clear HO_24 HO_278004 HO_278005 HO_287000 HO_287001 HL297_7 BK277 BK286 HR297_7 HB; have HO_24 := n0_; have HO_278004 := n1_; have HO_278005 := n2_; have HO_287000 := n3_; have HO_287001 := n4_; have HL297_7 := n5_; have BK277 := n6_; have BK286 := n7_; have HR297_7 := n8_; have HB := n9_; have BK298 := n10_; have GW298 := n11_; have GE298 := n12_; have NB277_298 := n13_; have NB298_277 := n14_; have NB286_298 := n15_; have NB298_286 := n16_; clear n0_ n1_ n2_ n3_ n4_ n5_ n6_ n7_ n8_ n9_ n10_ n11_ n12_ n13_ n14_ n15_ n16_ hb hbox hg; have hnb60 := NB298_277.out; have hnc60 := NB277_298.out; have hnb61 := NB298_286.out; have hnc61 := NB286_298.out; have hcz62_0 : w59.cell? ⟨gb298, 0, none⟩ = some (.int .i64 0) := (bc_ BK298.out 0).trans rfl; have hcz62_1 : w59.cell? ⟨gb298, 1, none⟩ = some (.int .i64 0) := (bc_ BK298.out 1).trans rfl; have hcz62_2 : w59.cell? ⟨gb298, 2, none⟩ = some (.int .i64 0) := (bc_ BK298.out 2).trans rfl; have hcz62_3 : w59.cell? ⟨gb298, 3, none⟩ = some (.int .i64 0) := (bc_ BK298.out 3).trans rfl; have hcz62_4 : w59.cell? ⟨gb298, 4, none⟩ = some (.int .i64 0) := (bc_ BK298.out 4).trans rfl; have hcz62_5 : w59.cell? ⟨gb298, 5, none⟩ = some (.int .i64 0) := (bc_ BK298.out 5).trans rfl; have hcz62_6 : w59.cell? ⟨gb298, 6, none⟩ = some (.int .i64 0) := (bc_ BK298.out 6).trans rfl; have hcz62_7 : w59.cell? ⟨gb298, 7, none⟩ = some (.slice none 0 0) := (bc_ BK298.out 7).trans rfl; have hfz62_0 := bf_ BK298.out 0; have hfz62_1 := bf_ BK298.out 1; have hfz62_2 := bf_ BK298.out 2; have hfz62_3 := bf_ BK298.out 3; have hfz62_4 := bf_ BK298.out 4; have hfz62_5 := bf_ BK298.out 5; have hfz62_6 := bf_ BK298.out 6; have hfz62_7 := bf_ BK298.out 7) | ((with_reducible refine gc_ (f := 43) rfl ?_); refine gl_ (some 31) Try.func43 #[.agg #[.int .i64 ((rd_T38 y293 x26_2).f0), .int .i64 ((rd_T38 y293 x26_2).f1), .int .i64 ((rd_T38 y293 x26_2).f2), .int .i64 ((rd_T38 y293 x26_2).f3), .int .i64 ((rd_T38 y293 x26_2).f4), .int .i64 ((rd_T38 y293 x26_2).f5), .int .i64 ((rd_T38 y293 x26_2).f6), .slice A297_7 ((rd_T38 y293 x26_2).f7).length c297_7]] ?_; (with_reducible refine (impl_IsPacket.calls k2 ((rd_T38 y293 x26_2).f0) ((rd_T38 y293 x26_2).f1) ((rd_T38 y293 x26_2).f2) ((rd_T38 y293 x26_2).f3) ((rd_T38 y293 x26_2).f4) ((rd_T38 y293 x26_2).f5) ((rd_T38 y293 x26_2).f6) _ _ ((rd_T38 y293 x26_2).f7) false _ ?side1 ?side2 A33.out).mono ?_); (case side1 => repeat (first | exact ((Kd.V_reads' (by (with_reducible repeat (first | apply Kd.V_alloc | apply Kd.V_drewN | apply Kd.V_drew)); exact (Kd.V_mono (Kd.V_far (p := ⟨gb298, 7, none⟩) (Kd.V_far (p := ⟨gb298, 6, none⟩) (Kd.V_far (p := ⟨gb298, 5, none⟩) (Kd.V_far (p := ⟨gb298, 4, none⟩) (Kd.V_far (p := ⟨gb298, 3, none⟩) (Kd.V_far (p := ⟨gb298, 2, none⟩) (Kd.V_far (p := ⟨gb298, 1, none⟩) (Kd.V_far (p := ⟨gb298, 0, none⟩) (Kd.V_mono HL297_7.out (fun k_ hk => (⟨hk, hk.2⟩ : _ ∧ k_ ≠ gb298))) (fun _ hk => hk.2) (.int .i64 ((rd_T38 y293 x26_2).f0))) (fun _ hk => hk.2) (.int .i64 ((rd_T38 y293 x26_2).f1))) (fun _ hk => hk.2) (.int .i64 ((rd_T38 y293 x26_2).f2))) (fun _ hk => hk.2) (.int .i64 ((rd_T38 y293 x26_2).f3))) (fun _ hk => hk.2) (.int .i64 ((rd_T38 y293 x26_2).f4))) (fun _ hk => hk.2) (.int .i64 ((rd_T38 y293 x26_2).f5))) (fun _ hk => hk.2) (.int .i64 ((rd_T38 y293 x26_2).f6))) (fun _ hk => hk.2) (.slice A297_7 ((rd_T38 y293 x26_2).f7).length c297_7)) (fun _ h_ => h_.1)))).2.2) | (with_reducible refine Kd.C_alloc ?_ _) | (with_reducible refine Kd.C_drewN ?_ _) | (with_reducible refine Kd.C_drew ?_))); (case side2 => exact HC297_7.out); rintro e w63 ⟨rfl, hb⟩; refine ⟨_, rfl, ?_⟩; have n0_ := A_.mk (Kd.N_below (by (with_reducible repeat (first | apply Kd.N_alloc | apply Kd.N_drewN | apply Kd.N_drew)); exact (Kd.N_mono (Kd.N_far (p := ⟨gb298, 7, none⟩) (Kd.N_far (p := ⟨gb298, 6, none⟩) (Kd.N_far (p := ⟨gb298, 5, none⟩) (Kd.N_far (p := ⟨gb298, 4, none⟩) (Kd.N_far (p := ⟨gb298, 3, none⟩) (Kd.N_far (p := ⟨gb298, 2, none⟩) (Kd.N_far (p := ⟨gb298, 1, none⟩) (Kd.N_far (p := ⟨gb298, 0, none⟩) (Kd.N_mono HO_24.out (fun k_ hk => (⟨hk, hk.2⟩ : _ ∧ k_ ≠ gb298))) (fun _ hk => hk.2) (.int .i64 ((rd_T38 y293 x26_2).f0))) (fun _ hk => hk.2) (.int .i64 ((rd_T38 y293 x26_2).f1))) (fun _ hk => hk.2) (.int .i64 ((rd_T38 y293 x26_2).f2))) (fun _ hk => hk.2) (.int .i64 ((rd_T38 y293 x26_2).f3))) (fun _ hk => hk.2) (.int .i64 ((rd_T38 y293 x26_2).f4))) (fun _ hk => hk.2) (.int .i64 ((rd_T38 y293 x26_2).f5))) (fun _ hk => hk.2) (.int .i64 ((rd_T38 y293 x26_2).f6))) (fun _ hk => hk.2) (.slice A297_7 ((rd_T38 y293 x26_2).f7).length c297_7)) (fun _ h_ => h_.1))) hb); have n1_ := A_.mk (Kd.V_below (by (with_reducible repeat (first | apply Kd.V_alloc | apply Kd.V_drewN | apply Kd.V_drew)); exact (Kd.V_mono (Kd.V_far (p := ⟨gb298, 7, none⟩) (Kd.V_far (p := ⟨gb298, 6, none⟩) (Kd.V_far (p := ⟨gb298, 5, none⟩) (Kd.V_far (p := ⟨gb298, 4, none⟩) (Kd.V_far (p := ⟨gb298, 3, none⟩) (Kd.V_far (p := ⟨gb298, 2, none⟩) (Kd.V_far (p := ⟨gb298, 1, none⟩) (Kd.V_far (p := ⟨gb298, 0, none⟩) (Kd.V_mono HO_278004.out (fun k_ hk => (⟨hk, hk.2⟩ : _ ∧ k_ ≠ gb298))) (fun _ hk => hk.2) (.int .i64 ((rd_T38 y293 x26_2).f0))) (fun _ hk => hk.2) (.int .i64 ((rd_T38 y293 x26_2).f1))) (fun _ hk => hk.2) (.int .i64 ((rd_T38 y293 x26_2).f2))) (fun _ hk => hk.2) (.int .i64 ((rd_T38 y293 x26_2).f3))) (fun _ hk => hk.2) (.int .i64 ((rd_T38 y293 x26_2).f4))) (fun _ hk => hk.2) (.int .i64 ((rd_T38 y293 x26_2).f5))) (fun _ hk => hk.2) (.int .i64 ((rd_T38 y293 x26_2).f6))) (fun _ hk => hk.2) (.slice A297_7 ((rd_T38 y293 x26_2).f7).length c297_7)) (fun _ h_ => h_.1))) hb); have n2_ := A_.mk (Kd.V_below (by (with_reducible repeat (first | apply Kd.V_alloc | apply Kd.V_drewN | apply Kd.V_drew)); exact (Kd.V_mono (Kd.V_far (p := ⟨gb298, 7, none⟩) (Kd.V_far (p := ⟨gb298, 6, none⟩) (Kd.V_far (p := ⟨gb298, 5, none⟩) (Kd.V_far (p := ⟨gb298, 4, none⟩) (Kd.V_far (p := ⟨gb298, 3, none⟩) (Kd.V_far (p := ⟨gb298, 2, none⟩) (Kd.V_far (p := ⟨gb298, 1, none⟩) (Kd.V_far (p := ⟨gb298, 0, none⟩) (Kd.V_mono HO_278005.out (fun k_ hk => (⟨hk, hk.2⟩ : _ ∧ k_ ≠ gb298))) (fun _ hk => hk.2) (.int .i64 ((rd_T38 y293 x26_2).f0))) (fun _ hk => hk.2) (.int .i64 ((rd_T38 y293 x26_2).f1))) (fun _ hk => hk.2) (.int .i64 ((rd_T38 y293 x26_2).f2))) (fun _ hk => hk.2) (.int .i64 ((rd_T38 y293 x26_2).f3))) (fun _ hk => hk.2) (.int .i64 ((rd_T38 y293 x26_2).f4))) (fun _ hk => hk.2) (.int .i64 ((rd_T38 y293 x26_2).f5))) (fun _ hk => hk.2) (.int .i64 ((rd_T38 y293 x26_2).f6))) (fun _ hk => hk.2) (.slice A297_7 ((rd_T38 y293 x26_2).f7).length c297_7)) (fun _ h_ => h_.1))) hb); have n3_ := A_.mk (Kd.R_below (by (repeat apply rX); exact (Kd.R_mono (Kd.R_far (p := ⟨gb298, 7, none⟩) (Kd.R_far (p := ⟨gb298, 6, none⟩) (Kd.R_far (p := ⟨gb298, 5, none⟩) (Kd.R_far (p := ⟨gb298, 4, none⟩) (Kd.R_far (p := ⟨gb298, 3, none⟩) (Kd.R_far (p := ⟨gb298, 2, none⟩) (Kd.R_far (p := ⟨gb298, 1, none⟩) (Kd.R_far (p := ⟨gb298, 0, none⟩) (Kd.R_types HO_287000.out BK298.out (by decide)) (fun _ hk => hk.2) (.int .i64 ((rd_T38 y293 x26_2).f0))) (fun _ hk => hk.2) (.int .i64 ((rd_T38 y293 x26_2).f1))) (fun _ hk => hk.2) (.int .i64 ((rd_T38 y293 x26_2).f2))) (fun _ hk => hk.2) (.int .i64 ((rd_T38 y293 x26_2).f3))) (fun _ hk => hk.2) (.int .i64 ((rd_T38 y293 x26_2).f4))) (fun _ hk => hk.2) (.int .i64 ((rd_T38 y293 x26_2).f5))) (fun _ hk => hk.2) (.int .i64 ((rd_T38 y293 x26_2).f6))) (fun _ hk => hk.2) (.slice A297_7 ((rd_T38 y293 x26_2).f7).length c297_7)) (fun _ h_ => h_.1))) hb); have n4_ := A_.mk (Kd.R_below (by (repeat apply rX); exact (Kd.R_mono (Kd.R_far (p := ⟨gb298, 7, none⟩) (Kd.R_far (p := ⟨gb298, 6, none⟩) (Kd.R_far (p := ⟨gb298, 5, none⟩) (Kd.R_far (p := ⟨gb298, 4, none⟩) (Kd.R_far (p := ⟨gb298, 3, none⟩) (Kd.R_far (p := ⟨gb298, 2, none⟩) (Kd.R_far (p := ⟨gb298, 1, none⟩) (Kd.R_far (p := ⟨gb298, 0, none⟩) (Kd.R_types HO_287001.out BK298.out (by decide)) (fun _ hk => hk.2) (.int .i64 ((rd_T38 y293 x26_2).f0))) (fun _ hk => hk.2) (.int .i64 ((rd_T38 y293 x26_2).f1))) (fun _ hk => hk.2) (.int .i64 ((rd_T38 y293 x26_2).f2))) (fun _ hk => hk.2) (.int .i64 ((rd_T38 y293 x26_2).f3))) (fun _ hk => hk.2) (.int .i64 ((rd_T38 y293 x26_2).f4))) (fun _ hk => hk.2) (.int .i64 ((rd_T38 y293 x26_2).f5))) (fun _ hk => hk.2) (.int .i64 ((rd_T38 y293 x26_2).f6))) (fun _ hk => hk.2) (.slice A297_7 ((rd_T38 y293 x26_2).f7).length c297_7)) (fun _ h_ => h_.1))) hb); have n5_ := A_.mk (Kd.V_below (by (with_reducible repeat (first | apply Kd.V_alloc | apply Kd.V_drewN | apply Kd.V_drew)); exact (Kd.V_mono (Kd.V_far (p := ⟨gb298, 7, none⟩) (Kd.V_far (p := ⟨gb298, 6, none⟩) (Kd.V_far (p := ⟨gb298, 5, none⟩) (Kd.V_far (p := ⟨gb298, 4, none⟩) (Kd.V_far (p := ⟨gb298, 3, none⟩) (Kd.V_far (p := ⟨gb298, 2, none⟩) (Kd.V_far (p := ⟨gb298, 1, none⟩) (Kd.V_far (p := ⟨gb298, 0, none⟩) (Kd.V_mono HL297_7.out (fun k_ hk => (⟨hk, hk.2⟩ : _ ∧ k_ ≠ gb298))) (fun _ hk => hk.2) (.int .i64 ((rd_T38 y293 x26_2).f0))) (fun _ hk => hk.2) (.int .i64 ((rd_T38 y293 x26_2).f1))) (fun _ hk => hk.2) (.int .i64 ((rd_T38 y293 x26_2).f2))) (fun _ hk => hk.2) (.int .i64 ((rd_T38 y293 x26_2).f3))) (fun _ hk => hk.2) (.int .i64 ((rd_T38 y293 x26_2).f4))) (fun _ hk => hk.2) (.int .i64 ((rd_T38 y293 x26_2).f5))) (fun _ hk => hk.2) (.int .i64 ((rd_T38 y293 x26_2).f6))) (fun _ hk => hk.2) (.slice A297_7 ((rd_T38 y293 x26_2).f7).length c297_7)) (fun _ h_ => h_.1))) hb); have n6_ := A_.mk (bb_ (g := gb277) (o := .cells #[.slice A0_0 l0_0.length c0_0, .slice A0_1 l0_1.length c0_1, .slice A0_2 l0_2.length c0_2, .slice A0_3 l0_3.length c0_3, .slice A0_4 l0_4.length c0_4, .slice A0_5 l0_5.length c0_5] 33 (0, 0)) (by (repeat apply bX); refine blk_far ?_ NB277_298.out _; (repeat apply bX); refine blk_far ?_ NB277_298.out _; (repeat apply bX); refine blk_far ?_ NB277_298.out _; (repeat apply bX); refine blk_far ?_ NB277_298.out _; (repeat apply bX); refine blk_far ?_ NB277_298.out _; (repeat apply bX); refine blk_far ?_ NB277_298.out _; (repeat apply bX); refine blk_far ?_ NB277_298.out _; (repeat apply bX); refine blk_far ?_ NB277_298.out _; (repeat apply bX); exact BK277.out) hb); have n7_ := A_.mk (bb_ (g := gb286) (o := .cells #[u287000, u287001] 30 (0, 0)) (by (repeat apply bX); refine blk_far ?_ NB286_298.out _; (repeat apply bX); refine blk_far ?_ NB286_298.out _; (repeat apply bX); refine blk_far ?_ NB286_298.out _; (repeat apply bX); refine blk_far ?_ NB286_298.out _; (repeat apply bX); refine blk_far ?_ NB286_298.out _; (repeat apply bX); refine blk_far ?_ NB286_298.out _; (repeat apply bX); refine blk_far ?_ NB286_298.out _; (repeat apply bX); refine blk_far ?_ NB286_298.out _; (repeat apply bX); exact BK286.out) hb); have n8_ := A_.mk (Kd.C_below ((Kd.V_reads' (by (with_reducible repeat (first | apply Kd.V_alloc | apply Kd.V_drewN | apply Kd.V_drew)); exact (Kd.V_mono (Kd.V_far (p := ⟨gb298, 7, none⟩) (Kd.V_far (p := ⟨gb298, 6, none⟩) (Kd.V_far (p := ⟨gb298, 5, none⟩) (Kd.V_far (p := ⟨gb298, 4, none⟩) (Kd.V_far (p := ⟨gb298, 3, none⟩) (Kd.V_far (p := ⟨gb298, 2, none⟩) (Kd.V_far (p := ⟨gb298, 1, none⟩) (Kd.V_far (p := ⟨gb298, 0, none⟩) (Kd.V_mono HL297_7.out (fun k_ hk => (⟨hk, hk.2⟩ : _ ∧ k_ ≠ gb298))) (fun _ hk => hk.2) (.int .i64 ((rd_T38 y293 x26_2).f0))) (fun _ hk => hk.2) (.int .i64 ((rd_T38 y293 x26_2).f1))) (fun _ hk => hk.2) (.int .i64 ((rd_T38 y293 x26_2).f2))) (fun _ hk => hk.2) (.int .i64 ((rd_T38 y293 x26_2).f3))) (fun _ hk => hk.2) (.int .i64 ((rd_T38 y293 x26_2).f4))) (fun _ hk => hk.2) (.int .i64 ((rd_T38 y293 x26_2).f5))) (fun _ hk => hk.2) (.int .i64 ((rd_T38 y293 x26_2).f6))) (fun _ hk => hk.2) (.slice A297_7 ((rd_T38 y293 x26_2).f7).length c297_7)) (fun _ h_ => h_.1)))).2.2) hb); have n9_ := A_.mk (bb_ (g := gb298) (o := .cells #[.int .i64 ((rd_T38 y293 x26_2).f0), .int .i64 ((rd_T38 y293 x26_2).f1), .int .i64 ((rd_T38 y293 x26_2).f2), .int .i64 ((rd_T38 y293 x26_2).f3), .int .i64 ((rd_T38 y293 x26_2).f4), .int .i64 ((rd_T38 y293 x26_2).f5), .int .i64 ((rd_T38 y293 x26_2).f6), .slice A297_7 ((rd_T38 y293 x26_2).f7).length c297_7] 38 (0, 0)) (by (repeat apply bX); refine bp_ (cs := #[.int .i64 ((rd_T38 y293 x26_2).f0), .int .i64 ((rd_T38 y293 x26_2).f1), .int .i64 ((rd_T38 y293 x26_2).f2), .int .i64 ((rd_T38 y293 x26_2).f3), .int .i64 ((rd_T38 y293 x26_2).f4), .int .i64 ((rd_T38 y293 x26_2).f5), .int .i64 ((rd_T38 y293 x26_2).f6), .slice none 0 0]) ?_ 7 _ rfl; (repeat apply bX); refine bp_ (cs := #[.int .i64 ((rd_T38 y293 x26_2).f0), .int .i64 ((rd_T38 y293 x26_2).f1), .int .i64 ((rd_T38 y293 x26_2).f2), .int .i64 ((rd_T38 y293 x26_2).f3), .int .i64 ((rd_T38 y293 x26_2).f4), .int .i64 ((rd_T38 y293 x26_2).f5), .int .i64 0, .slice none 0 0]) ?_ 6 _ rfl; (repeat apply bX); refine bp_ (cs := #[.int .i64 ((rd_T38 y293 x26_2).f0), .int .i64 ((rd_T38 y293 x26_2).f1), .int .i64 ((rd_T38 y293 x26_2).f2), .int .i64 ((rd_T38 y293 x26_2).f3), .int .i64 ((rd_T38 y293 x26_2).f4), .int .i64 0, .int .i64 0, .slice none 0 0]) ?_ 5 _ rfl; (repeat apply bX); refine bp_ (cs := #[.int .i64 ((rd_T38 y293 x26_2).f0), .int .i64 ((rd_T38 y293 x26_2).f1), .int .i64 ((rd_T38 y293 x26_2).f2), .int .i64 ((rd_T38 y293 x26_2).f3), .int .i64 0, .int .i64 0, .int .i64 0, .slice none 0 0]) ?_ 4 _ rfl; (repeat apply bX); refine bp_ (cs := #[.int .i64 ((rd_T38 y293 x26_2).f0), .int .i64 ((rd_T38 y293 x26_2).f1), .int .i64 ((rd_T38 y293 x26_2).f2), .int .i64 0, .int .i64 0, .int .i64 0, .int .i64 0, .slice none 0 0]) ?_ 3 _ rfl; (repeat apply bX); refine bp_ (cs := #[.int .i64 ((rd_T38 y293 x26_2).f0), .int .i64 ((rd_T38 y293 x26_2).f1), .int .i64 0, .int .i64 0, .int .i64 0, .int .i64 0, .int .i64 0, .slice none 0 0]) ?_ 2 _ rfl; (repeat apply bX); refine bp_ (cs := #[.int .i64 ((rd_T38 y293 x26_2).f0), .int .i64 0, .int .i64 0, .int .i64 0, .int .i64 0, .int .i64 0, .int .i64 0, .slice none 0 0]) ?_ 1 _ rfl; (repeat apply bX); refine bp_ (cs := #[.int .i64 0, .int .i64 0, .int .i64 0, .int .i64 0, .int .i64 0, .int .i64 0, .int .i64 0, .slice none 0 0]) ?_ 0 _ rfl; (repeat apply bX); exact BK298.out) hb); have n10_ := A_.mk (bt_ (by repeat (first | (with_reducible first | exact HB.out | apply ba_ | apply bd_ | apply be_ | refine bs_ ?_ GE277.out | refine bs_ ?_ GE286.out | refine bs_ ?_ GE298.out) | exact HB.out)) hb); clear HO_24 HO_278004 HO_278005 HO_287000 HO_287001 HL297_7 BK277 BK286 HR297_7 BK298 HB; have HO_24 := n0_; have HO_278004 := n1_; have HO_278005 := n2_; have HO_287000 := n3_; have HO_287001 := n4_; have HL297_7 := n5_; have BK277 := n6_; have BK286 := n7_; have HR297_7 := n8_; have BK298 := n9_; have HB := n10_; clear n0_ n1_ n2_ n3_ n4_ n5_ n6_ n7_ n8_ n9_ n10_; (try clear hb); (try clear hb2); (try clear hk); (try clear hi)))
      go_ret
      exact ⟨by first | rfl | (simp [errW_none, errW_some] <;> rfl) | (simp [*, errW_none, errW_some] <;> rfl), by repeat (first | (with_reducible first | exact HB.out | apply ba_ | apply bd_ | apply be_ | refine bs_ ?_ GE277.out | refine bs_ ?_ GE286.out | refine bs_ ?_ GE298.out) | exact HB.out)⟩
     subst c34
     have H1 : ((impl_ClassOf.f k2 ((rd_T38 y293 x26_2).f0) ((rd_T38 y293 x26_2).f1) ((rd_T38 y293 x26_2).f2) ((rd_T38 y293 x26_2).f3) ((rd_T38 y293 x26_2).f4) ((rd_T38 y293 x26_2).f5) ((rd_T38 y293 x26_2).f6) ((rd_T38 y293 x26_2).f7)).bind fun t300 => (if 0 ≤ t300 then (if t300 < (x287000_2.length : Int) then ((impl_ClassOf.f k2 ((rd_T38 y293 x26_2).f0) ((rd_T38 y293 x26_2).f1) ((rd_T38 y293 x26_2).f2) ((rd_T38 y293 x26_2).f3) ((rd_T38 y293 x26_2).f4) ((rd_T38 y293 x26_2).f5) ((rd_T38 y293 x26_2).f6) ((rd_T38 y293 x26_2).f7)).bind fun t303 => (if 0 ≤ t303 then (if t303 < (x287001_2.length : Int) then ((impl_PacketUnits.f k2 ((rd_T38 y293 x26_2).f0) ((rd_T38 y293 x26_2).f1) ((rd_T38 y293 x26_2).f2) ((rd_T38 y293 x26_2).f3) ((rd_T38 y293 x26_2).f4) ((rd_T38 y293 x26_2).f5) ((rd_T38 y293 x26_2).f6) ((rd_T38 y293 x26_2).f7)).bind fun t305 => (impl_ChannelOk.l0 k2 y293 (y293.length : Int) (wrap64 (x26_2 + 1)) l0_0 l0_1 l0_2 l0_3 l0_4 l0_5 (x287000_2.set (t300 : Int).toNat (wrap64 ((rd x287000_2 t300) + 1))) (x287001_2.set (t303 : Int).toNat (wrap64 ((rd x287001_2 t303) + t305))))) else (none)) else (none))) else (none)) else (none))) = some r := by rw [if_pos rfl] at H; exact H
     clear H
     have H := H1
     clear H1
     replace H := ob_ H
     obtain ⟨t300, A350, H⟩ := H
     have A35 := A_.mk A350
     clear A350
     by_cases c36 : 0 ≤ t300
     rotate_left
     ·rw [if_neg c36] at H
      exact absurd H (by simp)
     rw [if_pos c36] at H
     have c36b0 : decide (0 ≤ t300) = true := decide_eq_true c36
     clear c36
     by_cases c37 : t300 < (x287000_2.length : Int)
     rotate_left
     ·rw [if_neg c37] at H
      exact absurd H (by simp)
     rw [if_pos c37] at H
     have c37b0 : decide (t300 < (x287000_2.length : Int)) = true := decide_eq_true c37
     clear c37
     obtain ⟨y302, hy302⟩ : ∃ y_ : List Int, y_ = (x287000_2.set (t300 : Int).toNat (wrap64 ((rd x287000_2 t300) + 1))) := ⟨_, rfl⟩
     replace H : ((impl_ClassOf.f k2 ((rd_T38 y293 x26_2).f0) ((rd_T38 y293 x26_2).f1) ((rd_T38 y293 x26_2).f2) ((rd_T38 y293 x26_2).f3) ((rd_T38 y293 x26_2).f4) ((rd_T38 y293 x26_2).f5) ((rd_T38 y293 x26_2).f6) ((rd_T38 y293 x26_2).f7)).bind fun t303 => (if 0 ≤ t303 then (if t303 < (x287001_2.length : Int) then ((impl_PacketUnits.f k2 ((rd_T38 y293 x26_2).f0) ((rd_T38 y293 x26_2).f1) ((rd_T38 y293 x26_2).f2) ((rd_T38 y293 x26_2).f3) ((rd_T38 y293 x26_2).f4) ((rd_T38 y293 x26_2).f5) ((rd_T38 y293 x26_2).f6) ((rd_T38 y293 x26_2).f7)).bind fun t305 => (impl_ChannelOk.l0 k2 y293 (y293.length : Int) (wrap64 (x26_2 + 1)) l0_0 l0_1 l0_2 l0_3 l0_4 l0_5 y302 (x287001_2.set (t303 : Int).toNat (wrap64 ((rd x287001_2 t303) + t305))))) else (none)) else (none))) = some r := by first | (rw [hy302]; with_reducible exact H) | (have H2_ := (Option.bind_some _ _).symm.trans H; rw [hy302]; with_reducible exact H2_) | (have H2_ := (Option.bind_some _ _).symm.trans H; with_reducible exact H2_) | with_reducible exact H | (rw [hy302]; exact H) | exact H
     have Ny302 := A_.mk hy302
     clear hy302
     have tkA35 : True := trivial
     replace H := ob_ H
     obtain ⟨t303, A390, H⟩ := H
     have A39 := A_.mk A390
     clear A390
     by_cases c40 : 0 ≤ t303
     rotate_left
     ·rw [if_neg c40] at H
      exact absurd H (by simp)
     rw [if_pos c40] at H
     have c40b0 : decide (0 ≤ t303) = true := decide_eq_true c40
     clear c40
     by_cases c41 : t303 < (x287001_2.length : Int)
     rotate_left
     ·rw [if_neg c41] at H
      exact absurd H (by simp)
     rw [if_pos c41] at H
     have c41b0 : decide (t303 < (x287001_2.length : Int)) = true := decide_eq_true c41
     clear c41
     replace H := ob_ H
     obtain ⟨t305, A420, H⟩ := H
     have A42 := A_.mk A420
     clear A420
     obtain ⟨y306, hy306⟩ : ∃ y_ : List Int, y_ = (x287001_2.set (t303 : Int).toNat (wrap64 ((rd x287001_2 t303) + t305))) := ⟨_, rfl⟩
     replace H : (impl_ChannelOk.l0 k2 y293 (y293.length : Int) (wrap64 (x26_2 + 1)) l0_0 l0_1 l0_2 l0_3 l0_4 l0_5 y302 y306) = some r := by first | (rw [hy306]; with_reducible exact H) | (have H2_ := (Option.bind_some _ _).symm.trans H; rw [hy306]; with_reducible exact H2_) | (have H2_ := (Option.bind_some _ _).symm.trans H; with_reducible exact H2_) | with_reducible exact H | (rw [hy306]; exact H) | exact H
     have Ny306 := A_.mk hy306
     clear hy306
     have H' := A_.mk H
     clear H
     have p297 : 0 ≤ (x26_2 : Int) := od_
     have q297 : x26_2 < (y293.length : Int) := od_
     obtain ⟨ad297, A297_7, c297_7, e297, hx297_0, hx297_1, hx297_2, hx297_3, hx297_4, hx297_5, hx297_6, hx297_7, hl297_7, hi297_7⟩ := at_T38 (Kd.N_reads' HO_24.out).2.2 x26_2 p297 q297
     cases e297
     obtain ⟨ce297, hce297, hMe297, hcc297⟩ := Kd.N_get HO_24.out z38 x26_2 p297 (by first | exact q297 | exact od_ | (have e_ := (Kd.N_reads' HO_24.out).1; omega))
     obtain ⟨ua297_7, uc297_7, rfl, ul297_7, ge297_7⟩ := k38_openF hMe297
     have hv297_7 := hcc297 7 _ rfl
     rw [add_field _ _ 7 (by omega)] at hv297_7
     replace hv297_7 := Option.some.inj (hv297_7.symm.trans hx297_7)
     injection hv297_7 with hva_ hvn_ hvc_
     rw [hva_] at ge297_7
     rw [hvc_] at ul297_7
     have HL297_7 := A_.mk (show Kd.V (Kd.int .i64) 3 _ w.heap.size _ _ ((rd_T38 y293 x26_2).f7) from Kd.V_mk ul297_7 ge297_7)
     clear hva_ hvn_ hvc_ ge297_7 ul297_7 hcc297 hce297
     have HR297_7 := A_.mk hi297_7
     have HC297_7 := A_.mk hl297_7
     clear hi297_7 hl297_7
     replace p297 := eq_true p297
     replace q297 := eq_true q297
     try go_wp2_with (first | ((with_reducible refine gd_ (N := 5) rfl ?_); refine by_ 5 (cs := #[.int .i64 0, .int .i64 0, .int .i64 0, .int .i64 0, .int .i64 0, .int .i64 0, .int .i64 0, .slice none 0 0]) (t := 38) ?_; intro gb298 hg w44 hbox hb; have n0_ := A_.mk (Kd.N_below (Kd.N_elderB (by (with_reducible repeat (first | apply Kd.N_alloc | apply Kd.N_drewN | apply Kd.N_drew)); exact HO_24.out) gb298 (Nat.le_of_eq hg.symm)) hb); have n1_ := A_.mk (Kd.V_below (Kd.V_elderB (by (with_reducible repeat (first | apply Kd.V_alloc | apply Kd.V_drewN | apply Kd.V_drew)); exact HO_278004.out) gb298 (Nat.le_of_eq hg.symm)) hb); have n2_ := A_.mk (Kd.V_below (Kd.V_elderB (by (with_reducible repeat (first | apply Kd.V_alloc | apply Kd.V_drewN | apply Kd.V_drew)); exact HO_278005.out) gb298 (Nat.le_of_eq hg.symm)) hb); have n3_ := A_.mk (Kd.R_below (rY HO_287000.out) hb); have n4_ := A_.mk (Kd.R_below (rY HO_287001.out) hb); have n5_ := A_.mk (Kd.V_below (Kd.V_elderB (by (with_reducible repeat (first | apply Kd.V_alloc | apply Kd.V_drewN | apply Kd.V_drew)); exact HL297_7.out) gb298 (Nat.le_of_eq hg.symm)) hb); have n6_ := A_.mk (bb_ (bY BK277.out) hb); have n7_ := A_.mk (bb_ (bY BK286.out) hb); have n8_ := A_.mk (Kd.C_below (by repeat (first | (with_reducible exact HR297_7.out) | (with_reducible refine Kd.C_alloc ?_ _) | (with_reducible refine Kd.C_drewN ?_ _) | (with_reducible refine Kd.C_drew ?_) | exact HR297_7.out)) hb); have n9_ := A_.mk (bt_ (by repeat (first | (with_reducible first | exact HB.out | apply ba_ | apply bd_ | apply be_ | refine bs_ ?_ GE277.out | refine bs_ ?_ GE286.out) | exact HB.out)) hb); have n10_ := A_.mk (hbox); have n11_ := A_.mk ((by rw [hg]; exact (bz_ (by repeat (first | (with_reducible first | exact HB.out | apply ba_ | apply bd_ | apply be_ | refine bs_ ?_ GE277.out | refine bs_ ?_ GE286.out) | exact HB.out))) : w.heap.size ≤ gb298)); have n12_ := A_.mk ((by rw [hg]; exact (bz_ (by repeat (first | (with_reducible first | exact HB.out | apply ba_ | apply bd_ | apply be_ | refine bs_ ?_ GE277.out | refine bs_ ?_ GE286.out) | exact HB.out))) : w.heap.size ≤ gb298)); have n13_ := A_.mk ((by rw [hg]; exact Nat.ne_of_lt (blk_lt (bY BK277.out)) : gb277 ≠ gb298)); have n14_ := A_.mk ((by rw [hg]; exact Nat.ne_of_gt (blk_lt (bY BK277.out)) : gb298 ≠ gb277)); have n15_ := A_.mk ((by rw [hg]; exact Nat.ne_of_lt (blk_lt (bY BK286.out)) : gb286 ≠ gb298)); have n16_ := A_.mk ((by rw [hg]; exact Nat.ne_of_gt (blk_lt (bY BK286.out)) : gb298 ≠ gb286)); clear HO_24 HO_278004 HO_278005 HO_287000 HO_287001 HL297_7 BK277 BK286 HR297_7 HB; have HO_24 := n0_; have HO_278004 := n1_; have HO_278005 := n2_; have HO_287000 := n3_; have HO_287001 := n4_; have HL297_7 := n5_; have BK277 := n6_; have BK286 := n7_; have HR297_7 := n8_; have HB := n9_; have BK298 := n10_; have GW298 := n11_; have GE298 := n12_; have NB277_298 := n13_; have NB298_277 := n14_; have NB286_298 := n15_; have NB298_286 := n16_; clear n0_ n1_ n2_ n3_ n4_ n5_ n6_ n7_ n8_ n9_ n10_ n11_ n12_ n13_ n14_ n15_ n16_ hb hbox hg; have hnb45 := NB298_277.out; have hnc45 := NB277_298.out; have hnb46 := NB298_286.out; have hnc46 := NB286_298.out; have hcz47_0 : w44.cell? ⟨gb298, 0, none⟩ = some (.int .i64 0) := (bc_ BK298.out 0).trans rfl; have hcz47_1 : w44.cell? ⟨gb298, 1, none⟩ = some (.int .i64 0) := (bc_ BK298.out 1).trans rfl; have hcz47_2 : w44.cell? ⟨gb298, 2, none⟩ = some (.int .i64 0) := (bc_ BK298.out 2).trans rfl; have hcz47_3 : w44.cell? ⟨gb298, 3, none⟩ = some (.int .i64 0) := (bc_ BK298.out 3).trans rfl; have hcz47_4 : w44.cell? ⟨gb298, 4, none⟩ = some (.int .i64 0) := (bc_ BK298.out 4).trans rfl; have hcz47_5 : w44.cell? ⟨gb298, 5, none⟩ = some (.int .i64 0) := (bc_ BK298.out 5).trans rfl; have hcz47_6 : w44.cell? ⟨gb298, 6, none⟩ = some (.int .i64 0) := (bc_ BK298.out 6).trans rfl; have hcz47_7 : w44.cell? ⟨gb298, 7, none⟩ = some (.slice none 0 0) := (bc_ BK298.out 7).trans rfl; have hfz47_0 := bf_ BK298.out 0; have hfz47_1 := bf_ BK298.out 1; have hfz47_2 := bf_ BK298.out 2; have hfz47_3 := bf_ BK298.out 3; have hfz47_4 := bf_ BK298.out 4; have hfz47_5 := bf_ BK298.out 5; have hfz47_6 := bf_ BK298.out 6; have hfz47_7 := bf_ BK298.out 7) | ((with_reducible refine gc_ (f := 43) rfl ?_); refine gl_ (some 31) Try.func43 #[.agg #[.int .i64 ((rd_T38 y293 x26_2).f0), .int .i64 ((rd_T38 y293 x26_2).f1), .int .i64 ((rd_T38 y293 x26_2).f2), .int .i64 ((rd_T38 y293 x26_2).f3), .int .i64 ((rd_T38 y293 x26_2).f4), .int .i64 ((rd_T38 y293 x26_2).f5), .int .i64 ((rd_T38 y293 x26_2).f6), .slice A297_7 ((rd_T38 y293 x26_2).f7).length c297_7]] ?_; (with_reducible refine (impl_IsPacket.calls k2 ((rd_T38 y293 x26_2).f0) ((rd_T38 y293 x26_2).f1) ((rd_T38 y293 x26_2).f2) ((rd_T38 y293 x26_2).f3) ((rd_T38 y293 x26_2).f4) ((rd_T38 y293 x26_2).f5) ((rd_T38 y293 x26_2).f6) _ _ ((rd_T38 y293 x26_2).f7) true _ ?side1 ?side2 A33.out).mono ?_); (case side1 => repeat (first | exact ((Kd.V_reads' (by (with_reducible repeat (first | apply Kd.V_alloc | apply Kd.V_drewN | apply Kd.V_drew)); exact (Kd.V_mono (Kd.V_far (p := ⟨gb298, 7, none⟩) (Kd.V_far (p := ⟨gb298, 6, none⟩) (Kd.V_far (p := ⟨gb298, 5, none⟩) (Kd.V_far (p := ⟨gb298, 4, none⟩) (Kd.V_far (p := ⟨gb298, 3, none⟩) (Kd.V_far (p := ⟨gb298, 2, none⟩) (Kd.V_far (p := ⟨gb298, 1, none⟩) (Kd.V_far (p := ⟨gb298, 0, none⟩) (Kd.V_mono HL297_7.out (fun k_ hk => (⟨hk, hk.2⟩ : _ ∧ k_ ≠ gb298))) (fun _ hk => hk.2) (.int .i64 ((rd_T38 y293 x26_2).f0))) (fun _ hk => hk.2) (.int .i64 ((rd_T38 y293 x26_2).f1))) (fun _ hk => hk.2) (.int .i64 ((rd_T38 y293 x26_2).f2))) (fun _ hk => hk.2) (.int .i64 ((rd_T38 y293 x26_2).f3))) (fun _ hk => hk.2) (.int .i64 ((rd_T38 y293 x26_2).f4))) (fun _ hk => hk.2) (.int .i64 ((rd_T38 y293 x26_2).f5))) (fun _ hk => hk.2) (.int .i64 ((rd_T38 y293 x26_2).f6))) (fun _ hk => hk.2) (.slice A297_7 ((rd_T38 y293 x26_2).f7).length c297_7)) (fun _ h_ => h_.1)))).2.2) | (with_reducible refine Kd.C_alloc ?_ _) | (with_reducible refine Kd.C_drewN ?_ _) | (with_reducible refine Kd.C_drew ?_))); (case side2 => exact HC297_7.out); rintro e w48 ⟨rfl, hb⟩; refine ⟨_, rfl, ?_⟩; have n0_ := A_.mk (Kd.N_below (by (with_reducible repeat (first | apply Kd.N_alloc | apply Kd.N_drewN | apply Kd.N_drew)); exact (Kd.N_mono (Kd.N_far (p := ⟨gb298, 7, none⟩) (Kd.N_far (p := ⟨gb298, 6, none⟩) (Kd.N_far (p := ⟨gb298, 5, none⟩) (Kd.N_far (p := ⟨gb298, 4, none⟩) (Kd.N_far (p := ⟨gb298, 3, none⟩) (Kd.N_far (p := ⟨gb298, 2, none⟩) (Kd.N_far (p := ⟨gb298, 1, none⟩) (Kd.N_far (p := ⟨gb298, 0, none⟩) (Kd.N_mono HO_24.out (fun k_ hk => (⟨hk, hk.2⟩ : _ ∧ k_ ≠ gb298))) (fun _ hk => hk.2) (.int .i64 ((rd_T38 y293 x26_2).f0))) (fun _ hk => hk.2) (.int .i64 ((rd_T38 y293 x26_2).f1))) (fun _ hk => hk.2) (.int .i64 ((rd_T38 y293 x26_2).f2))) (fun _ hk => hk.2) (.int .i64 ((rd_T38 y293 x26_2).f3))) (fun _ hk => hk.2) (.int .i64 ((rd_T38 y293 x26_2).f4))) (fun _ hk => hk.2) (.int .i64 ((rd_T38 y293 x26_2).f5))) (fun _ hk => hk.2) (.int .i64 ((rd_T38 y293 x26_2).f6))) (fun _ hk => hk.2) (.slice A297_7 ((rd_T38 y293 x26_2).f7).length c297_7)) (fun _ h_ => h_.1))) hb); have n1_ := A_.mk (Kd.V_below (by (with_reducible repeat (first | apply Kd.V_alloc | apply Kd.V_drewN | apply Kd.V_drew)); exact (Kd.V_mono (Kd.V_far (p := ⟨gb298, 7, none⟩) (Kd.V_far (p := ⟨gb298, 6, none⟩) (Kd.V_far (p := ⟨gb298, 5, none⟩) (Kd.V_far (p := ⟨gb298, 4, none⟩) (Kd.V_far (p := ⟨gb298, 3, none⟩) (Kd.V_far (p := ⟨gb298, 2, none⟩) (Kd.V_far (p := ⟨gb298, 1, none⟩) (Kd.V_far (p := ⟨gb298, 0, none⟩) (Kd.V_mono HO_278004.out (fun k_ hk => (⟨hk, hk.2⟩ : _ ∧ k_ ≠ gb298))) (fun _ hk => hk.2) (.int .i64 ((rd_T38 y293 x26_2).f0))) (fun _ hk => hk.2) (.int .i64 ((rd_T38 y293 x26_2).f1))) (fun _ hk => hk.2) (.int .i64 ((rd_T38 y293 x26_2).f2))) (fun _ hk => hk.2) (.int .i64 ((rd_T38 y293 x26_2).f3))) (fun _ hk => hk.2) (.int .i64 ((rd_T38 y293 x26_2).f4))) (fun _ hk => hk.2) (.int .i64 ((rd_T38 y293 x26_2).f5))) (fun _ hk => hk.2) (.int .i64 ((rd_T38 y293 x26_2).f6))) (fun _ hk => hk.2) (.slice A297_7 ((rd_T38 y293 x26_2).f7).length c297_7)) (fun _ h_ => h_.1))) hb); have n2_ := A_.mk (Kd.V_below (by (with_reducible repeat (first | apply Kd.V_alloc | apply Kd.V_drewN | apply Kd.V_drew)); exact (Kd.V_mono (Kd.V_far (p := ⟨gb298, 7, none⟩) (Kd.V_far (p := ⟨gb298, 6, none⟩) (Kd.V_far (p := ⟨gb298, 5, none⟩) (Kd.V_far (p := ⟨gb298, 4, none⟩) (Kd.V_far (p := ⟨gb298, 3, none⟩) (Kd.V_far (p := ⟨gb298, 2, none⟩) (Kd.V_far (p := ⟨gb298, 1, none⟩) (Kd.V_far (p := ⟨gb298, 0, none⟩) (Kd.V_mono HO_278005.out (fun k_ hk => (⟨hk, hk.2⟩ : _ ∧ k_ ≠ gb298))) (fun _ hk => hk.2) (.int .i64 ((rd_T38 y293 x26_2).f0))) (fun _ hk => hk.2) (.int .i64 ((rd_T38 y293 x26_2).f1))) (fun _ hk => hk.2) (.int .i64 ((rd_T38 y293 x26_2).f2))) (fun _ hk => hk.2) (.int .i64 ((rd_T38 y293 x26_2).f3))) (fun _ hk => hk.2) (.int .i64 ((rd_T38 y293 x26_2).f4))) (fun _ hk => hk.2) (.int .i64 ((rd_T38 y293 x26_2).f5))) (fun _ hk => hk.2) (.int .i64 ((rd_T38 y293 x26_2).f6))) (fun _ hk => hk.2) (.slice A297_7 ((rd_T38 y293 x26_2).f7).length c297_7)) (fun _ h_ => h_.1))) hb); have n3_ := A_.mk (Kd.R_below (by (repeat apply rX); exact (Kd.R_mono (Kd.R_far (p := ⟨gb298, 7, none⟩) (Kd.R_far (p := ⟨gb298, 6, none⟩) (Kd.R_far (p := ⟨gb298, 5, none⟩) (Kd.R_far (p := ⟨gb298, 4, none⟩) (Kd.R_far (p := ⟨gb298, 3, none⟩) (Kd.R_far (p := ⟨gb298, 2, none⟩) (Kd.R_far (p := ⟨gb298, 1, none⟩) (Kd.R_far (p := ⟨gb298, 0, none⟩) (Kd.R_types HO_287000.out BK298.out (by decide)) (fun _ hk => hk.2) (.int .i64 ((rd_T38 y293 x26_2).f0))) (fun _ hk => hk.2) (.int .i64 ((rd_T38 y293 x26_2).f1))) (fun _ hk => hk.2) (.int .i64 ((rd_T38 y293 x26_2).f2))) (fun _ hk => hk.2) (.int .i64 ((rd_T38 y293 x26_2).f3))) (fun _ hk => hk.2) (.int .i64 ((rd_T38 y293 x26_2).f4))) (fun _ hk => hk.2) (.int .i64 ((rd_T38 y293 x26_2).f5))) (fun _ hk => hk.2) (.int .i64 ((rd_T38 y293 x26_2).f6))) (fun _ hk => hk.2) (.slice A297_7 ((rd_T38 y293 x26_2).f7).length c297_7)) (fun _ h_ => h_.1))) hb); have n4_ := A_.mk (Kd.R_below (by (repeat apply rX); exact (Kd.R_mono (Kd.R_far (p := ⟨gb298, 7, none⟩) (Kd.R_far (p := ⟨gb298, 6, none⟩) (Kd.R_far (p := ⟨gb298, 5, none⟩) (Kd.R_far (p := ⟨gb298, 4, none⟩) (Kd.R_far (p := ⟨gb298, 3, none⟩) (Kd.R_far (p := ⟨gb298, 2, none⟩) (Kd.R_far (p := ⟨gb298, 1, none⟩) (Kd.R_far (p := ⟨gb298, 0, none⟩) (Kd.R_types HO_287001.out BK298.out (by decide)) (fun _ hk => hk.2) (.int .i64 ((rd_T38 y293 x26_2).f0))) (fun _ hk => hk.2) (.int .i64 ((rd_T38 y293 x26_2).f1))) (fun _ hk => hk.2) (.int .i64 ((rd_T38 y293 x26_2).f2))) (fun _ hk => hk.2) (.int .i64 ((rd_T38 y293 x26_2).f3))) (fun _ hk => hk.2) (.int .i64 ((rd_T38 y293 x26_2).f4))) (fun _ hk => hk.2) (.int .i64 ((rd_T38 y293 x26_2).f5))) (fun _ hk => hk.2) (.int .i64 ((rd_T38 y293 x26_2).f6))) (fun _ hk => hk.2) (.slice A297_7 ((rd_T38 y293 x26_2).f7).length c297_7)) (fun _ h_ => h_.1))) hb); have n5_ := A_.mk (Kd.V_below (by (with_reducible repeat (first | apply Kd.V_alloc | apply Kd.V_drewN | apply Kd.V_drew)); exact (Kd.V_mono (Kd.V_far (p := ⟨gb298, 7, none⟩) (Kd.V_far (p := ⟨gb298, 6, none⟩) (Kd.V_far (p := ⟨gb298, 5, none⟩) (Kd.V_far (p := ⟨gb298, 4, none⟩) (Kd.V_far (p := ⟨gb298, 3, none⟩) (Kd.V_far (p := ⟨gb298, 2, none⟩) (Kd.V_far (p := ⟨gb298, 1, none⟩) (Kd.V_far (p := ⟨gb298, 0, none⟩) (Kd.V_mono HL297_7.out (fun k_ hk => (⟨hk, hk.2⟩ : _ ∧ k_ ≠ gb298))) (fun _ hk => hk.2) (.int .i64 ((rd_T38 y293 x26_2).f0))) (fun _ hk => hk.2) (.int .i64 ((rd_T38 y293 x26_2).f1))) (fun _ hk => hk.2) (.int .i64 ((rd_T38 y293 x26_2).f2))) (fun _ hk => hk.2) (.int .i64 ((rd_T38 y293 x26_2).f3))) (fun _ hk => hk.2) (.int .i64 ((rd_T38 y293 x26_2).f4))) (fun _ hk => hk.2) (.int .i64 ((rd_T38 y293 x26_2).f5))) (fun _ hk => hk.2) (.int .i64 ((rd_T38 y293 x26_2).f6))) (fun _ hk => hk.2) (.slice A297_7 ((rd_T38 y293 x26_2).f7).length c297_7)) (fun _ h_ => h_.1))) hb); have n6_ := A_.mk (bb_ (g := gb277) (o := .cells #[.slice A0_0 l0_0.length c0_0, .slice A0_1 l0_1.length c0_1, .slice A0_2 l0_2.length c0_2, .slice A0_3 l0_3.length c0_3, .slice A0_4 l0_4.length c0_4, .slice A0_5 l0_5.length c0_5] 33 (0, 0)) (by (repeat apply bX); refine blk_far ?_ NB277_298.out _; (repeat apply bX); refine blk_far ?_ NB277_298.out _; (repeat apply bX); refine blk_far ?_ NB277_298.out _; (repeat apply bX); refine blk_far ?_ NB277_298.out _; (repeat apply bX); refine blk_far ?_ NB277_298.out _; (repeat apply bX); refine blk_far ?_ NB277_298.out _; (repeat apply bX); refine blk_far ?_ NB277_298.out _; (repeat apply bX); refine blk_far ?_ NB277_298.out _; (repeat apply bX); exact BK277.out) hb); have n7_ := A_.mk (bb_ (g := gb286) (o := .cells #[u287000, u287001] 30 (0, 0)) (by (repeat apply bX); refine blk_far ?_ NB286_298.out _; (repeat apply bX); refine blk_far ?_ NB286_298.out _; (repeat apply bX); refine blk_far ?_ NB286_298.out _; (repeat apply bX); refine blk_far ?_ NB286_298.out _; (repeat apply bX); refine blk_far ?_ NB286_298.out _; (repeat apply bX); refine blk_far ?_ NB286_298.out _; (repeat apply bX); refine blk_far ?_ NB286_298.out _; (repeat apply bX); refine blk_far ?_ NB286_298.out _; (repeat apply bX); exact BK286.out) hb); have n8_ := A_.mk (Kd.C_below ((Kd.V_reads' (by (with_reducible repeat (first | apply Kd.V_alloc | apply Kd.V_drewN | apply Kd.V_drew)); exact (Kd.V_mono (Kd.V_far (p := ⟨gb298, 7, none⟩) (Kd.V_far (p := ⟨gb298, 6, none⟩) (Kd.V_far (p := ⟨gb298, 5, none⟩) (Kd.V_far (p := ⟨gb298, 4, none⟩) (Kd.V_far (p := ⟨gb298, 3, none⟩) (Kd.V_far (p := ⟨gb298, 2, none⟩) (Kd.V_far (p := ⟨gb298, 1, none⟩) (Kd.V_far (p := ⟨gb298, 0, none⟩) (Kd.V_mono HL297_7.out (fun k_ hk => (⟨hk, hk.2⟩ : _ ∧ k_ ≠ gb298))) (fun _ hk => hk.2) (.int .i64 ((rd_T38 y293 x26_2).f0))) (fun _ hk => hk.2) (.int .i64 ((rd_T38 y293 x26_2).f1))) (fun _ hk => hk.2) (.int .i64 ((rd_T38 y293 x26_2).f2))) (fun _ hk => hk.2) (.int .i64 ((rd_T38 y293 x26_2).f3))) (fun _ hk => hk.2) (.int .i64 ((rd_T38 y293 x26_2).f4))) (fun _ hk => hk.2) (.int .i64 ((rd_T38 y293 x26_2).f5))) (fun _ hk => hk.2) (.int .i64 ((rd_T38 y293 x26_2).f6))) (fun _ hk => hk.2) (.slice A297_7 ((rd_T38 y293 x26_2).f7).length c297_7)) (fun _ h_ => h_.1)))).2.2) hb); have n9_ := A_.mk (bb_ (g := gb298) (o := .cells #[.int .i64 ((rd_T38 y293 x26_2).f0), .int .i64 ((rd_T38 y293 x26_2).f1), .int .i64 ((rd_T38 y293 x26_2).f2), .int .i64 ((rd_T38 y293 x26_2).f3), .int .i64 ((rd_T38 y293 x26_2).f4), .int .i64 ((rd_T38 y293 x26_2).f5), .int .i64 ((rd_T38 y293 x26_2).f6), .slice A297_7 ((rd_T38 y293 x26_2).f7).length c297_7] 38 (0, 0)) (by (repeat apply bX); refine bp_ (cs := #[.int .i64 ((rd_T38 y293 x26_2).f0), .int .i64 ((rd_T38 y293 x26_2).f1), .int .i64 ((rd_T38 y293 x26_2).f2), .int .i64 ((rd_T38 y293 x26_2).f3), .int .i64 ((rd_T38 y293 x26_2).f4), .int .i64 ((rd_T38 y293 x26_2).f5), .int .i64 ((rd_T38 y293 x26_2).f6), .slice none 0 0]) ?_ 7 _ rfl; (repeat apply bX); refine bp_ (cs := #[.int .i64 ((rd_T38 y293 x26_2).f0), .int .i64 ((rd_T38 y293 x26_2).f1), .int .i64 ((rd_T38 y293 x26_2).f2), .int .i64 ((rd_T38 y293 x26_2).f3), .int .i64 ((rd_T38 y293 x26_2).f4), .int .i64 ((rd_T38 y293 x26_2).f5), .int .i64 0, .slice none 0 0]) ?_ 6 _ rfl; (repeat apply bX); refine bp_ (cs := #[.int .i64 ((rd_T38 y293 x26_2).f0), .int .i64 ((rd_T38 y293 x26_2).f1), .int .i64 ((rd_T38 y293 x26_2).f2), .int .i64 ((rd_T38 y293 x26_2).f3), .int .i64 ((rd_T38 y293 x26_2).f4), .int .i64 0, .int .i64 0, .slice none 0 0]) ?_ 5 _ rfl; (repeat apply bX); refine bp_ (cs := #[.int .i64 ((rd_T38 y293 x26_2).f0), .int .i64 ((rd_T38 y293 x26_2).f1), .int .i64 ((rd_T38 y293 x26_2).f2), .int .i64 ((rd_T38 y293 x26_2).f3), .int .i64 0, .int .i64 0, .int .i64 0, .slice none 0 0]) ?_ 4 _ rfl; (repeat apply bX); refine bp_ (cs := #[.int .i64 ((rd_T38 y293 x26_2).f0), .int .i64 ((rd_T38 y293 x26_2).f1), .int .i64 ((rd_T38 y293 x26_2).f2), .int .i64 0, .int .i64 0, .int .i64 0, .int .i64 0, .slice none 0 0]) ?_ 3 _ rfl; (repeat apply bX); refine bp_ (cs := #[.int .i64 ((rd_T38 y293 x26_2).f0), .int .i64 ((rd_T38 y293 x26_2).f1), .int .i64 0, .int .i64 0, .int .i64 0, .int .i64 0, .int .i64 0, .slice none 0 0]) ?_ 2 _ rfl; (repeat apply bX); refine bp_ (cs := #[.int .i64 ((rd_T38 y293 x26_2).f0), .int .i64 0, .int .i64 0, .int .i64 0, .int .i64 0, .int .i64 0, .int .i64 0, .slice none 0 0]) ?_ 1 _ rfl; (repeat apply bX); refine bp_ (cs := #[.int .i64 0, .int .i64 0, .int .i64 0, .int .i64 0, .int .i64 0, .int .i64 0, .int .i64 0, .slice none 0 0]) ?_ 0 _ rfl; (repeat apply bX); exact BK298.out) hb); have n10_ := A_.mk (bt_ (by repeat (first | (with_reducible first | exact HB.out | apply ba_ | apply bd_ | apply be_ | refine bs_ ?_ GE277.out | refine bs_ ?_ GE286.out | refine bs_ ?_ GE298.out) | exact HB.out)) hb); clear HO_24 HO_278004 HO_278005 HO_287000 HO_287001 HL297_7 BK277 BK286 HR297_7 BK298 HB; have HO_24 := n0_; have HO_278004 := n1_; have HO_278005 := n2_; have HO_287000 := n3_; have HO_287001 := n4_; have HL297_7 := n5_; have BK277 := n6_; have BK286 := n7_; have HR297_7 := n8_; have BK298 := n9_; have HB := n10_; clear n0_ n1_ n2_ n3_ n4_ n5_ n6_ n7_ n8_ n9_ n10_; (try clear hb); (try clear hb2); (try clear hk); (try clear hi)))
     have n0_ := A_.mk (Kd.N_drew HO_24.out)
     have n1_ := A_.mk (Kd.V_drew HO_278004.out)
     have n2_ := A_.mk (Kd.V_drew HO_278005.out)
     have n3_ := A_.mk (Kd.R_drew HO_287000.out)
     have n4_ := A_.mk (Kd.R_drew HO_287001.out)
     have n5_ := A_.mk (Kd.V_drew HL297_7.out)
     have n6_ := A_.mk (bw_ BK277.out)
     have n7_ := A_.mk (bw_ BK286.out)
     have n8_ := A_.mk (bw_ BK298.out)
     have n9_ := A_.mk (Kd.C_drew HR297_7.out)
     have n10_ := A_.mk (be_ HB.out)
     clear HO_24 HO_278004 HO_278005 HO_287000 HO_287001 HL297_7 BK277 BK286 BK298 HR297_7 HB
     have HO_24 := n0_
     have HO_278004 := n1_
     have HO_278005 := n2_
     have HO_287000 := n3_
     have HO_287001 := n4_
     have HL297_7 := n5_
     have BK277 := n6_
     have BK286 := n7_
     have BK298 := n8_
     have HR297_7 := n9_
     have HB := n10_
     clear n0_ n1_ n2_ n3_ n4_ n5_ n6_ n7_ n8_ n9_ n10_
     have p301 : 0 ≤ (t300 : Int) := od_
     have q301 : t300 < (x287000_2.length : Int) := od_
     obtain ⟨Ao301, co301, eo301⟩ := Kd.R_slice HO_287000.out
     have HR301_ := HO_287000.out
     rw [eo301] at HR301_
     obtain ⟨ad301, e301, hx301_0⟩ := Kd.at_int (Kd.R_reads' HR301_).2.2 t300 p301 q301
     clear HR301_
     cases e301
     replace p301 := eq_true p301
     replace q301 := eq_true q301
     refine start_ (n := 9) (S := fun w' => w'.cell? ⟨gb286, 0, none⟩ = some (u287000) ∧ w'.cell? ⟨gb286, 1, none⟩ = some (u287001) ∧ w'.cell? ⟨gb298, 0, none⟩ = some (.int .i64 ((rd_T38 y293 x26_2).f0)) ∧ w'.cell? ⟨gb298, 1, none⟩ = some (.int .i64 ((rd_T38 y293 x26_2).f1)) ∧ w'.cell? ⟨gb298, 2, none⟩ = some (.int .i64 ((rd_T38 y293 x26_2).f2)) ∧ w'.cell? ⟨gb298, 3, none⟩ = some (.int .i64 ((rd_T38 y293 x26_2).f3)) ∧ w'.cell? ⟨gb298, 4, none⟩ = some (.int .i64 ((rd_T38 y293 x26_2).f4)) ∧ w'.cell? ⟨gb298, 5, none⟩ = some (.int .i64 ((rd_T38 y293 x26_2).f5)) ∧ w'.cell? ⟨gb298, 6, none⟩ = some (.int .i64 ((rd_T38 y293 x26_2).f6)) ∧ w'.cell? ⟨gb298, 7, none⟩ = some (.slice A297_7 ((rd_T38 y293 x26_2).f7).length c297_7) ∧ w'.cell? (ad301.add (t300).toNat) = some (.int .i64 (rd x287000_2 t300))) (ds := [8]) #[F, F, F, F, F, F, F, F, F] (by kernel_rfl) rfl rfl ⟨(bc_ BK286.out 0).trans rfl, (bc_ BK286.out 1).trans rfl, (bc_ BK298.out 0).trans rfl, (bc_ BK298.out 1).trans rfl, (bc_ BK298.out 2).trans rfl, (bc_ BK298.out 3).trans rfl, (bc_ BK298.out 4).trans rfl, (bc_ BK298.out 5).trans rfl, (bc_ BK298.out 6).trans rfl, (bc_ BK298.out 7).trans rfl, hx301_0⟩ (fun hHeld => ?_); refine with_tabW impl_ChannelOk.tab9 impl_ChannelOk.bits9 (fun HT_ HW_ => ?_)
     generalize w48.drew = w49 at HO_24 HO_278004 HO_278005 HO_287000 HO_287001 HL297_7 BK277 BK286 BK298 HR297_7 HB hx301_0 hHeld ⊢
     refine pr_ (i := 0) (N := some 33) #[T, F, F, F, F, F, F, F, F] rfl HT_.out ?_
     refine tk_ (i := 1) (N := some 34) #[T, T, F, F, F, F, F, F, F] rfl HT_.out HW_.out hHeld ?_
     refine tk_ (i := 2) (N := some 35) #[T, T, T, F, F, F, F, F, F] rfl HT_.out HW_.out hHeld ?_
     refine ot_ (i := 3) (N := some 36) #[T, T, T, T, F, F, F, F, F] rfl HT_.out (fun K hK => ?_)
     refine gz_ Try.func44 #[.agg #[.int .i64 ((rd_T38 y293 x26_2).f0), .int .i64 ((rd_T38 y293 x26_2).f1), .int .i64 ((rd_T38 y293 x26_2).f2), .int .i64 ((rd_T38 y293 x26_2).f3), .int .i64 ((rd_T38 y293 x26_2).f4), .int .i64 ((rd_T38 y293 x26_2).f5), .int .i64 ((rd_T38 y293 x26_2).f6), .slice A297_7 ((rd_T38 y293 x26_2).f7).length c297_7]] ?_
     with_reducible refine (impl_ClassOf.calls k2 ((rd_T38 y293 x26_2).f0) ((rd_T38 y293 x26_2).f1) ((rd_T38 y293 x26_2).f2) ((rd_T38 y293 x26_2).f3) ((rd_T38 y293 x26_2).f4) ((rd_T38 y293 x26_2).f5) ((rd_T38 y293 x26_2).f6) _ _ ((rd_T38 y293 x26_2).f7) t300 _ ?side1 ?side2 A35.out).mono ?_
     (case side1 => repeat (first | exact (by repeat (first | (with_reducible exact HR297_7.out) | (with_reducible refine Kd.C_alloc ?_ _) | (with_reducible refine Kd.C_drewN ?_ _) | (with_reducible refine Kd.C_drew ?_) | exact HR297_7.out)) | (with_reducible refine Kd.C_alloc ?_ _) | (with_reducible refine Kd.C_drewN ?_ _) | (with_reducible refine Kd.C_drew ?_)))
     (case side2 => exact HC297_7.out)
     rintro e w50 ⟨rfl, hb⟩
     have HS10_ := (hb.cell (wl_ _ _ (hHeld.2.2.2.2.2.2.2.2.2.2))).trans (hHeld.2.2.2.2.2.2.2.2.2.2)
     refine ⟨_, rfl, ?_⟩
     have n0_ := A_.mk (Kd.N_below (by (with_reducible repeat (first | apply Kd.N_alloc | apply Kd.N_drewN | apply Kd.N_drew)); exact HO_24.out) hb)
     have n1_ := A_.mk (Kd.V_below (by (with_reducible repeat (first | apply Kd.V_alloc | apply Kd.V_drewN | apply Kd.V_drew)); exact HO_278004.out) hb)
     have n2_ := A_.mk (Kd.V_below (by (with_reducible repeat (first | apply Kd.V_alloc | apply Kd.V_drewN | apply Kd.V_drew)); exact HO_278005.out) hb)
     have n3_ := A_.mk (Kd.R_below (rY HO_287000.out) hb)
     have n4_ := A_.mk (Kd.R_below (rY HO_287001.out) hb)
     have n5_ := A_.mk (Kd.V_below (by (with_reducible repeat (first | apply Kd.V_alloc | apply Kd.V_drewN | apply Kd.V_drew)); exact HL297_7.out) hb)
     have n6_ := A_.mk (bb_ (bY BK277.out) hb)
     have n7_ := A_.mk (bb_ (bY BK286.out) hb)
     have n8_ := A_.mk (Kd.C_below (by repeat (first | (with_reducible exact HR297_7.out) | (with_reducible refine Kd.C_alloc ?_ _) | (with_reducible refine Kd.C_drewN ?_ _) | (with_reducible refine Kd.C_drew ?_) | exact HR297_7.out)) hb)
     have n9_ := A_.mk (bb_ (bY BK298.out) hb)
     have n10_ := A_.mk (bt_ (by repeat (first | (with_reducible first | exact HB.out | apply ba_ | apply bd_ | apply be_ | refine bs_ ?_ GE277.out | refine bs_ ?_ GE286.out | refine bs_ ?_ GE298.out) | exact HB.out)) hb)
     clear HO_24 HO_278004 HO_278005 HO_287000 HO_287001 HL297_7 BK277 BK286 HR297_7 BK298 HB
     have HO_24 := n0_
     have HO_278004 := n1_
     have HO_278005 := n2_
     have HO_287000 := n3_
     have HO_287001 := n4_
     have HL297_7 := n5_
     have BK277 := n6_
     have BK286 := n7_
     have HR297_7 := n8_
     have BK298 := n9_
     have HB := n10_
     clear n0_ n1_ n2_ n3_ n4_ n5_ n6_ n7_ n8_ n9_ n10_
     obtain ⟨Ao51, co51, eo51⟩ := Kd.R_slice HO_287000.out
     (first | subst eo51 | (injection eo51 with f1_ f2_ f3_; have f4_ := f1_.symm; have f5_ := f3_.symm; clear f1_ f2_ f3_; subst f4_; subst f5_))
     (try (injection eo301 with f1_ f2_ f3_; subst f1_; subst f3_))
     have p38 : 0 ≤ (t300 : Int) := od_
     have q38 : (t300 : Int) < ((x287000_2.length : Int) : Int) := od_
     obtain ⟨go38, co38, eo38, gb38, gl38, cl38, HG38⟩ := Kd.R_form HO_287000.out (by omega)
     (first | cases eo38 | (injection eo38 with ea_ en_ ec_; (first | subst ea_ | (injection ea_ with ea_; subst ea_)); subst ec_; clear en_))
     have GB38 := A_.mk gb38
     have GG38 := A_.mk HG38
     clear gb38 gl38 HG38
     (first | simp only [add_plain] at hx301_0 | skip)
     obtain ⟨hx38_0, hf38_0⟩ := Kd.R_celln 0 HO_287000.out (t300 : Int) p38 q38
     replace p38 := eq_true p38
     replace q38 := eq_true q38
     have HP52 := Kd.R_putn HO_287000.out (t300 : Int) (wrap64 ((rd x287000_2 t300) + 1))
     rw [← Ny302.out] at HP52
     have HQ52 := A_.mk HP52
     clear HP52
     refine hK.out _ _ ⟨(bc_ BK286.out 0).trans rfl, (bc_ BK286.out 1).trans rfl, (bc_ BK298.out 0).trans rfl, (bc_ BK298.out 1).trans rfl, (bc_ BK298.out 2).trans rfl, (bc_ BK298.out 3).trans rfl, (bc_ BK298.out 4).trans rfl, (bc_ BK298.out 5).trans rfl, (bc_ BK298.out 6).trans rfl, (bc_ BK298.out 7).trans rfl, HS10_⟩ (fun hHeld => ?_)
     clear hK K
     refine nm_ ?_
     refine pr_ (i := 4) (N := some 37) #[T, T, T, T, T, F, F, F, F] rfl HT_.out ?_
     refine take_ (i := 5) (N := some 38) (v := ?_) (a' := ?_) #[T, T, T, T, T, T, F, F, F] rfl rfl (take_ofW HT_.out HW_.out (by kernel_rfl)) (fun _ _ _ h => h) (Or.inl ⟨by rfl, ?_⟩) hHeld ?_ ?_
     rotate_left
     ·rintro w' ⟨s0, s1, s2, s3, s4, s5, s6, s7, s8, s9, s10⟩
      (try simp only [add_plain, Nat.zero_add] at s10)
      go_simp
      with_reducible rfl
     rotate_left
     ·simp only [pS]
      rfl
     refine pr_ (i := 6) (N := some 39) #[T, T, T, T, T, T, T, F, F] rfl HT_.out ?_
     refine pr_ (i := 7) (N := some 40) #[T, T, T, T, T, T, T, T, F] rfl HT_.out ?_
     refine last_ (i := 8) (N := none) #[T, T, T, T, T, T, T, T, T] rfl rfl (one_of HT_.out (by kernel_rfl)) (by decide) (fun K hK => ?_)
     refine skip_ (w1 := ?_) (by rfl) rfl ?_ ?_
     rotate_left
     ·go_simp
      rfl
     refine hK.out _ _ ?_
     clear hK K
     refine done_ (done_of HT_.out (by kernel_rfl)) ?_
     try go_wp2
     have n0_ : A_ (Kd.N k38 38 (w50.setCell ⟨go38, (t300 : Int).toNat, none⟩ (.int .i64 (wrap64 ((rd x287000_2 t300) + 1)))) w.heap.size (fun k_ => ((P0_4_ k_ ∨ P0_5_ k_) ∨ w.heap.size ≤ k_) ∧ some k_ ≠ (.slice (some ⟨go38, 0, none⟩) x287000_2.length co51 : Value).ownBlock ∧ some k_ ≠ (u287001 : Value).ownBlock ∧ k_ ≠ gb277 ∧ k_ ≠ gb286 ∧ k_ ≠ gb298) (.slice (some ad297) y293.length co29) y293) := ⟨by (with_reducible repeat (first | apply Kd.N_alloc | apply Kd.N_drewN | apply Kd.N_drew)); exact Kd.N_mono (Kd.N_far (p := ⟨go38, (t300 : Int).toNat, none⟩) (Kd.N_mono HO_24.out (fun k_ hk => (⟨hk, fun e_ => hk.1.2.1 (by rw [e_]; rfl)⟩ : _ ∧ k_ ≠ go38))) (fun _ hk => hk.2) (.int .i64 (wrap64 ((rd x287000_2 t300) + 1)))) (fun _ hk => ⟨hk.1.1.1, ⟨hk.1.1.2.1, ⟨hk.1.1.2.2.1, ⟨hk.1.1.2.2.2.1, ⟨hk.1.1.2.2.2.2, hk.1.2⟩⟩⟩⟩⟩)⟩
     have n1_ : A_ (Kd.V k38 38 (w50.setCell ⟨go38, (t300 : Int).toNat, none⟩ (.int .i64 (wrap64 ((rd x287000_2 t300) + 1)))) w.heap.size (fun k_ => ((P0_4_ k_ ∨ P0_5_ k_) ∨ w.heap.size ≤ k_) ∧ some k_ ≠ (.slice (some ad297) y293.length co29 : Value).ownBlock ∧ some k_ ≠ (.slice (some ⟨go38, 0, none⟩) x287000_2.length co51 : Value).ownBlock ∧ some k_ ≠ (u287001 : Value).ownBlock ∧ k_ ≠ gb277 ∧ k_ ≠ gb286 ∧ k_ ≠ gb298) (.slice A0_4 l0_4.length c0_4) l0_4) := ⟨by (with_reducible repeat (first | apply Kd.V_alloc | apply Kd.V_drewN | apply Kd.V_drew)); exact Kd.V_mono (Kd.V_far (p := ⟨go38, (t300 : Int).toNat, none⟩) (Kd.V_mono HO_278004.out (fun k_ hk => (⟨hk, fun e_ => hk.1.2.2.1 (by rw [e_]; rfl)⟩ : _ ∧ k_ ≠ go38))) (fun _ hk => hk.2) (.int .i64 (wrap64 ((rd x287000_2 t300) + 1)))) (fun _ hk => ⟨hk.1.1.1, ⟨hk.1.1.2.1, ⟨hk.1.1.2.2.1, ⟨hk.1.1.2.2.2.1, ⟨hk.1.1.2.2.2.2.1, ⟨hk.1.1.2.2.2.2.2, hk.1.2⟩⟩⟩⟩⟩⟩)⟩
     have n2_ : A_ (Kd.V k38 38 (w50.setCell ⟨go38, (t300 : Int).toNat, none⟩ (.int .i64 (wrap64 ((rd x287000_2 t300) + 1)))) w.heap.size (fun k_ => ((P0_4_ k_ ∨ P0_5_ k_) ∨ w.heap.size ≤ k_) ∧ some k_ ≠ (.slice (some ad297) y293.length co29 : Value).ownBlock ∧ some k_ ≠ (.slice (some ⟨go38, 0, none⟩) x287000_2.length co51 : Value).ownBlock ∧ some k_ ≠ (u287001 : Value).ownBlock ∧ k_ ≠ gb277 ∧ k_ ≠ gb286 ∧ k_ ≠ gb298) (.slice A0_5 l0_5.length c0_5) l0_5) := ⟨by (with_reducible repeat (first | apply Kd.V_alloc | apply Kd.V_drewN | apply Kd.V_drew)); exact Kd.V_mono (Kd.V_far (p := ⟨go38, (t300 : Int).toNat, none⟩) (Kd.V_mono HO_278005.out (fun k_ hk => (⟨hk, fun e_ => hk.1.2.2.1 (by rw [e_]; rfl)⟩ : _ ∧ k_ ≠ go38))) (fun _ hk => hk.2) (.int .i64 (wrap64 ((rd x287000_2 t300) + 1)))) (fun _ hk => ⟨hk.1.1.1, ⟨hk.1.1.2.1, ⟨hk.1.1.2.2.1, ⟨hk.1.1.2.2.2.1, ⟨hk.1.1.2.2.2.2.1, ⟨hk.1.1.2.2.2.2.2, hk.1.2⟩⟩⟩⟩⟩⟩)⟩
     have n3_ : A_ (Kd.R (Kd.int .i64) 3 (w50.setCell ⟨go38, (t300 : Int).toNat, none⟩ (.int .i64 (wrap64 ((rd x287000_2 t300) + 1)))) w.heap.size (fun k_ => (w.heap.size ≤ k_) ∧ some k_ ≠ (u287001 : Value).ownBlock) (.slice (some ⟨go38, 0, none⟩) x287000_2.length co51) y302) := ⟨by (repeat apply rX); exact HQ52.out⟩
     have n4_ : A_ (Kd.R (Kd.int .i64) 3 (w50.setCell ⟨go38, (t300 : Int).toNat, none⟩ (.int .i64 (wrap64 ((rd x287000_2 t300) + 1)))) w.heap.size (fun k_ => (w.heap.size ≤ k_) ∧ some k_ ≠ (.slice (some ⟨go38, 0, none⟩) x287000_2.length co51 : Value).ownBlock) u287001 x287001_2) := ⟨by (repeat apply rX); exact Kd.R_mono (Kd.R_far (p := ⟨go38, (t300 : Int).toNat, none⟩) (Kd.R_mono HO_287001.out (fun k_ hk => (⟨hk, fun e_ => hk.2 (by rw [e_]; rfl)⟩ : _ ∧ k_ ≠ go38))) (fun _ hk => hk.2) (.int .i64 (wrap64 ((rd x287000_2 t300) + 1)))) (fun _ hk => ⟨hk.1.1, hk.1.2⟩)⟩
     have n5_ : A_ (Kd.V (Kd.int .i64) 3 (w50.setCell ⟨go38, (t300 : Int).toNat, none⟩ (.int .i64 (wrap64 ((rd x287000_2 t300) + 1)))) w.heap.size (fun k_ => ((P0_4_ k_ ∨ P0_5_ k_) ∨ w.heap.size ≤ k_) ∧ some k_ ≠ (.slice (some ad297) y293.length co29 : Value).ownBlock ∧ some k_ ≠ (.slice (some ⟨go38, 0, none⟩) x287000_2.length co51 : Value).ownBlock ∧ some k_ ≠ (u287001 : Value).ownBlock ∧ k_ ≠ gb277 ∧ k_ ≠ gb286 ∧ k_ ≠ gb298) (.slice A297_7 ((rd_T38 y293 x26_2).f7).length c297_7) ((rd_T38 y293 x26_2).f7)) := ⟨by (with_reducible repeat (first | apply Kd.V_alloc | apply Kd.V_drewN | apply Kd.V_drew)); exact Kd.V_mono (Kd.V_far (p := ⟨go38, (t300 : Int).toNat, none⟩) (Kd.V_mono HL297_7.out (fun k_ hk => (⟨hk, fun e_ => hk.1.1.2.1 (by rw [e_]; rfl)⟩ : _ ∧ k_ ≠ go38))) (fun _ hk => hk.2) (.int .i64 (wrap64 ((rd x287000_2 t300) + 1)))) (fun _ hk => ⟨hk.1.1.1.1, ⟨hk.1.1.2, ⟨hk.1.1.1.2.1, ⟨hk.1.1.1.2.2.1, ⟨hk.1.1.1.2.2.2.1, ⟨hk.1.1.1.2.2.2.2, hk.1.2⟩⟩⟩⟩⟩⟩)⟩
     have n6_ : A_ ((w50.setCell ⟨go38, (t300 : Int).toNat, none⟩ (.int .i64 (wrap64 ((rd x287000_2 t300) + 1)))).heap[gb277]? = some (.cells #[.slice A0_0 l0_0.length c0_0, .slice A0_1 l0_1.length c0_1, .slice A0_2 l0_2.length c0_2, .slice A0_3 l0_3.length c0_3, .slice A0_4 l0_4.length c0_4, .slice A0_5 l0_5.length c0_5] 33 (0, 0))) := ⟨by (repeat apply bX); refine blk_far ?_ (by have h_ := Kd.R_ne HO_287000.out BK277.out (by decide); intro e_; exact h_ (by rw [e_]; rfl)) _; (repeat apply bX); exact BK277.out⟩
     have n7_ : A_ ((w50.setCell ⟨go38, (t300 : Int).toNat, none⟩ (.int .i64 (wrap64 ((rd x287000_2 t300) + 1)))).heap[gb286]? = some (.cells #[.slice (some ⟨go38, 0, none⟩) x287000_2.length co51, u287001] 30 (0, 0))) := ⟨by (repeat apply bX); refine blk_far ?_ (by have h_ := Kd.R_ne HO_287000.out BK286.out (by decide); intro e_; exact h_ (by rw [e_]; rfl)) _; (repeat apply bX); exact BK286.out⟩
     have n8_ : A_ ((w50.setCell ⟨go38, (t300 : Int).toNat, none⟩ (.int .i64 (wrap64 ((rd x287000_2 t300) + 1)))).heap[gb298]? = some (.cells #[.int .i64 ((rd_T38 y293 x26_2).f0), .int .i64 ((rd_T38 y293 x26_2).f1), .int .i64 ((rd_T38 y293 x26_2).f2), .int .i64 ((rd_T38 y293 x26_2).f3), .int .i64 ((rd_T38 y293 x26_2).f4), .int .i64 ((rd_T38 y293 x26_2).f5), .int .i64 ((rd_T38 y293 x26_2).f6), .slice A297_7 ((rd_T38 y293 x26_2).f7).length c297_7] 38 (0, 0))) := ⟨by (repeat apply bX); refine blk_far ?_ (by have h_ := Kd.R_ne HO_287000.out BK298.out (by decide); intro e_; exact h_ (by rw [e_]; rfl)) _; (repeat apply bX); exact BK298.out⟩
     have n9_ : A_ (Below w.heap.size w (w50.setCell ⟨go38, (t300 : Int).toNat, none⟩ (.int .i64 (wrap64 ((rd x287000_2 t300) + 1))))) := ⟨by repeat (first | (with_reducible first | exact HB.out | apply ba_ | apply bd_ | apply be_ | refine bs_ ?_ GB38.out | refine bs_ ?_ GE277.out | refine bs_ ?_ GE286.out | refine bs_ ?_ GE298.out) | exact HB.out)⟩
     generalize (w50.setCell ⟨go38, (t300 : Int).toNat, none⟩ (.int .i64 (wrap64 ((rd x287000_2 t300) + 1)))) = w53 at n0_ n1_ n2_ n3_ n4_ n5_ n6_ n7_ n8_ n9_ ⊢
     have HO_24 := n0_
     have HO_278004 := n1_
     have HO_278005 := n2_
     have HO_287000 := n3_
     have HO_287001 := n4_
     have HL297_7 := n5_
     have BK277 := n6_
     have BK286 := n7_
     have BK298 := n8_
     have HB := n9_
     clear n0_ n1_ n2_ n3_ n4_ n5_ n6_ n7_ n8_ n9_
     have n0_ := A_.mk (Kd.N_drew HO_24.out)
     have n1_ := A_.mk (Kd.V_drew HO_278004.out)
     have n2_ := A_.mk (Kd.V_drew HO_278005.out)
     have n3_ := A_.mk (Kd.R_drew HO_287000.out)
     have n4_ := A_.mk (Kd.R_drew HO_287001.out)
     have n5_ := A_.mk (Kd.V_drew HL297_7.out)
     have n6_ := A_.mk (bw_ BK277.out)
     have n7_ := A_.mk (bw_ BK286.out)
     have n8_ := A_.mk (bw_ BK298.out)
     have n9_ := A_.mk (be_ HB.out)
     clear HO_24 HO_278004 HO_278005 HO_287000 HO_287001 HL297_7 BK277 BK286 BK298 HB
     have HO_24 := n0_
     have HO_278004 := n1_
     have HO_278005 := n2_
     have HO_287000 := n3_
     have HO_287001 := n4_
     have HL297_7 := n5_
     have BK277 := n6_
     have BK286 := n7_
     have BK298 := n8_
     have HB := n9_
     clear n0_ n1_ n2_ n3_ n4_ n5_ n6_ n7_ n8_ n9_
     have p304 : 0 ≤ (t303 : Int) := od_
     have q304 : t303 < (x287001_2.length : Int) := od_
     obtain ⟨Ao304, co304, eo304⟩ := Kd.R_slice HO_287001.out
     have HR304_ := HO_287001.out
     rw [eo304] at HR304_
     obtain ⟨ad304, e304, hx304_0⟩ := Kd.at_int (Kd.R_reads' HR304_).2.2 t303 p304 q304
     clear HR304_
     cases e304
     replace p304 := eq_true p304
     replace q304 := eq_true q304
     refine start_ (n := 11) (S := fun w' => w'.cell? ⟨gb286, 0, none⟩ = some (.slice (some ⟨go38, 0, none⟩) x287000_2.length co51) ∧ w'.cell? ⟨gb286, 1, none⟩ = some (u287001) ∧ w'.cell? ⟨gb298, 0, none⟩ = some (.int .i64 ((rd_T38 y293 x26_2).f0)) ∧ w'.cell? ⟨gb298, 1, none⟩ = some (.int .i64 ((rd_T38 y293 x26_2).f1)) ∧ w'.cell? ⟨gb298, 2, none⟩ = some (.int .i64 ((rd_T38 y293 x26_2).f2)) ∧ w'.cell? ⟨gb298, 3, none⟩ = some (.int .i64 ((rd_T38 y293 x26_2).f3)) ∧ w'.cell? ⟨gb298, 4, none⟩ = some (.int .i64 ((rd_T38 y293 x26_2).f4)) ∧ w'.cell? ⟨gb298, 5, none⟩ = some (.int .i64 ((rd_T38 y293 x26_2).f5)) ∧ w'.cell? ⟨gb298, 6, none⟩ = some (.int .i64 ((rd_T38 y293 x26_2).f6)) ∧ w'.cell? ⟨gb298, 7, none⟩ = some (.slice A297_7 ((rd_T38 y293 x26_2).f7).length c297_7) ∧ w'.cell? (ad304.add (t303).toNat) = some (.int .i64 (rd x287001_2 t303))) (ds := [10]) #[F, F, F, F, F, F, F, F, F, F, F] (by kernel_rfl) rfl rfl ⟨(bc_ BK286.out 0).trans rfl, (bc_ BK286.out 1).trans rfl, (bc_ BK298.out 0).trans rfl, (bc_ BK298.out 1).trans rfl, (bc_ BK298.out 2).trans rfl, (bc_ BK298.out 3).trans rfl, (bc_ BK298.out 4).trans rfl, (bc_ BK298.out 5).trans rfl, (bc_ BK298.out 6).trans rfl, (bc_ BK298.out 7).trans rfl, hx304_0⟩ (fun hHeld => ?_); refine with_tabW impl_ChannelOk.tab10 impl_ChannelOk.bits10 (fun HT_ HW_ => ?_)
     generalize w53.drew = w54 at HO_24 HO_278004 HO_278005 HO_287000 HO_287001 HL297_7 BK277 BK286 BK298 HB HQ52 hx304_0 hHeld ⊢
     refine pr_ (i := 0) (N := some 41) #[T, F, F, F, F, F, F, F, F, F, F] rfl HT_.out ?_
     refine tk_ (i := 1) (N := some 42) #[T, T, F, F, F, F, F, F, F, F, F] rfl HT_.out HW_.out hHeld ?_
     refine tk_ (i := 2) (N := some 43) #[T, T, T, F, F, F, F, F, F, F, F] rfl HT_.out HW_.out hHeld ?_
     refine tk_ (i := 6) (N := some 47) #[T, T, T, F, F, F, T, F, F, F, F] rfl HT_.out HW_.out hHeld ?_
     refine ot_ (i := 3) (N := some 44) #[T, T, T, T, F, F, T, F, F, F, F] rfl HT_.out (fun K hK => ?_)
     refine gz_ Try.func44 #[.agg #[.int .i64 ((rd_T38 y293 x26_2).f0), .int .i64 ((rd_T38 y293 x26_2).f1), .int .i64 ((rd_T38 y293 x26_2).f2), .int .i64 ((rd_T38 y293 x26_2).f3), .int .i64 ((rd_T38 y293 x26_2).f4), .int .i64 ((rd_T38 y293 x26_2).f5), .int .i64 ((rd_T38 y293 x26_2).f6), .slice A297_7 ((rd_T38 y293 x26_2).f7).length c297_7]] ?_
     with_reducible refine (impl_ClassOf.calls k2 ((rd_T38 y293 x26_2).f0) ((rd_T38 y293 x26_2).f1) ((rd_T38 y293 x26_2).f2) ((rd_T38 y293 x26_2).f3) ((rd_T38 y293 x26_2).f4) ((rd_T38 y293 x26_2).f5) ((rd_T38 y293 x26_2).f6) _ _ ((rd_T38 y293 x26_2).f7) t303 _ ?side1 ?side2 A39.out).mono ?_
     (case side1 => repeat (first | exact ((Kd.V_reads' (by (with_reducible repeat (first | apply Kd.V_alloc | apply Kd.V_drewN | apply Kd.V_drew)); exact HL297_7.out)).2.2) | (with_reducible refine Kd.C_alloc ?_ _) | (with_reducible refine Kd.C_drewN ?_ _) | (with_reducible refine Kd.C_drew ?_)))
     (case side2 => exact HC297_7.out)
     rintro e w55 ⟨rfl, hb⟩
     have HS10_ := (hb.cell (wl_ _ _ (hHeld.2.2.2.2.2.2.2.2.2.2))).trans (hHeld.2.2.2.2.2.2.2.2.2.2)
     refine ⟨_, rfl, ?_⟩
     have n0_ := A_.mk (Kd.N_below (by (with_reducible repeat (first | apply Kd.N_alloc | apply Kd.N_drewN | apply Kd.N_drew)); exact HO_24.out) hb)
     have n1_ := A_.mk (Kd.V_below (by (with_reducible repeat (first | apply Kd.V_alloc | apply Kd.V_drewN | apply Kd.V_drew)); exact HO_278004.out) hb)
     have n2_ := A_.mk (Kd.V_below (by (with_reducible repeat (first | apply Kd.V_alloc | apply Kd.V_drewN | apply Kd.V_drew)); exact HO_278005.out) hb)
     have n3_ := A_.mk (Kd.R_below (rY HO_287000.out) hb)
     have n4_ := A_.mk (Kd.R_below (rY HO_287001.out) hb)
     have n5_ := A_.mk (Kd.V_below (by (with_reducible repeat (first | apply Kd.V_alloc | apply Kd.V_drewN | apply Kd.V_drew)); exact HL297_7.out) hb)
     have n6_ := A_.mk (bb_ (bY BK277.out) hb)
     have n7_ := A_.mk (bb_ (bY BK286.out) hb)
     have n8_ := A_.mk (bb_ (bY BK298.out) hb)
     have n9_ := A_.mk (bt_ (by repeat (first | (with_reducible first | exact HB.out | apply ba_ | apply bd_ | apply be_ | refine bs_ ?_ GE277.out | refine bs_ ?_ GE286.out | refine bs_ ?_ GE298.out) | exact HB.out)) hb)
     clear HO_24 HO_278004 HO_278005 HO_287000 HO_287001 HL297_7 BK277 BK286 BK298 HB
     have HO_24 := n0_
     have HO_278004 := n1_
     have HO_278005 := n2_
     have HO_287000 := n3_
     have HO_287001 := n4_
     have HL297_7 := n5_
     have BK277 := n6_
     have BK286 := n7_
     have BK298 := n8_
     have HB := n9_
     clear n0_ n1_ n2_ n3_ n4_ n5_ n6_ n7_ n8_ n9_
     obtain ⟨Ao56, co56, eo56⟩ := Kd.R_slice HO_287001.out
     (first | subst eo56 | (injection eo56 with f1_ f2_ f3_; have f4_ := f1_.symm; have f5_ := f3_.symm; clear f1_ f2_ f3_; subst f4_; subst f5_))
     (try (injection eo304 with f1_ f2_ f3_; subst f1_; subst f3_))
     refine hK.out _ _ ⟨(bc_ BK286.out 0).trans rfl, (bc_ BK286.out 1).trans rfl, (bc_ BK298.out 0).trans rfl, (bc_ BK298.out 1).trans rfl, (bc_ BK298.out 2).trans rfl, (bc_ BK298.out 3).trans rfl, (bc_ BK298.out 4).trans rfl, (bc_ BK298.out 5).trans rfl, (bc_ BK298.out 6).trans rfl, (bc_ BK298.out 7).trans rfl, HS10_⟩ (fun hHeld => ?_)
     clear hK K
     refine nm_ ?_
     refine pr_ (i := 4) (N := some 45) #[T, T, T, T, T, F, T, F, F, F, F] rfl HT_.out ?_
     refine take_ (i := 5) (N := some 46) (v := ?_) (a' := ?_) #[T, T, T, T, T, T, T, F, F, F, F] rfl rfl (take_ofW HT_.out HW_.out (by kernel_rfl)) (fun _ _ _ h => h) (Or.inl ⟨by rfl, ?_⟩) hHeld ?_ ?_
     rotate_left
     ·rintro w' ⟨s0, s1, s2, s3, s4, s5, s6, s7, s8, s9, s10⟩
      (try simp only [add_plain, Nat.zero_add] at s10)
      go_simp
      with_reducible rfl
     rotate_left
     ·simp only [pS]
      rfl
     refine ot_ (i := 7) (N := some 48) #[T, T, T, T, T, T, T, T, F, F, F] rfl HT_.out (fun K hK => ?_)
     refine gz_ Try.func45 #[.agg #[.int .i64 ((rd_T38 y293 x26_2).f0), .int .i64 ((rd_T38 y293 x26_2).f1), .int .i64 ((rd_T38 y293 x26_2).f2), .int .i64 ((rd_T38 y293 x26_2).f3), .int .i64 ((rd_T38 y293 x26_2).f4), .int .i64 ((rd_T38 y293 x26_2).f5), .int .i64 ((rd_T38 y293 x26_2).f6), .slice A297_7 ((rd_T38 y293 x26_2).f7).length c297_7]] ?_
     with_reducible refine (impl_PacketUnits.calls k2 ((rd_T38 y293 x26_2).f0) ((rd_T38 y293 x26_2).f1) ((rd_T38 y293 x26_2).f2) ((rd_T38 y293 x26_2).f3) ((rd_T38 y293 x26_2).f4) ((rd_T38 y293 x26_2).f5) ((rd_T38 y293 x26_2).f6) _ _ ((rd_T38 y293 x26_2).f7) t305 _ ?side1 ?side2 A42.out).mono ?_
     (case side1 => repeat (first | exact ((Kd.V_reads' (by (with_reducible repeat (first | apply Kd.V_alloc | apply Kd.V_drewN | apply Kd.V_drew)); exact HL297_7.out)).2.2) | (with_reducible refine Kd.C_alloc ?_ _) | (with_reducible refine Kd.C_drewN ?_ _) | (with_reducible refine Kd.C_drew ?_)))
     (case side2 => exact HC297_7.out)
     rintro e w57 ⟨rfl, hb⟩
     have HS10_ := (hb.cell (wl_ _ _ (hHeld.2.2.2.2.2.2.2.2.2.2))).trans (hHeld.2.2.2.2.2.2.2.2.2.2)
     refine ⟨_, rfl, ?_⟩
     have n0_ := A_.mk (Kd.N_below (by (with_reducible repeat (first | apply Kd.N_alloc | apply Kd.N_drewN | apply Kd.N_drew)); exact HO_24.out) hb)
     have n1_ := A_.mk (Kd.V_below (by (with_reducible repeat (first | apply Kd.V_alloc | apply Kd.V_drewN | apply Kd.V_drew)); exact HO_278004.out) hb)
     have n2_ := A_.mk (Kd.V_below (by (with_reducible repeat (first | apply Kd.V_alloc | apply Kd.V_drewN | apply Kd.V_drew)); exact HO_278005.out) hb)
     have n3_ := A_.mk (Kd.R_below (rY HO_287000.out) hb)
     have n4_ := A_.mk (Kd.R_below (rY HO_287001.out) hb)
     have n5_ := A_.mk (Kd.V_below (by (with_reducible repeat (first | apply Kd.V_alloc | apply Kd.V_drewN | apply Kd.V_drew)); exact HL297_7.out) hb)
     have n6_ := A_.mk (bb_ (bY BK277.out) hb)
     have n7_ := A_.mk (bb_ (bY BK286.out) hb)
     have n8_ := A_.mk (bb_ (bY BK298.out) hb)
     have n9_ := A_.mk (bt_ (by repeat (first | (with_reducible first | exact HB.out | apply ba_ | apply bd_ | apply be_ | refine bs_ ?_ GE277.out | refine bs_ ?_ GE286.out | refine bs_ ?_ GE298.out) | exact HB.out)) hb)
     clear HO_24 HO_278004 HO_278005 HO_287000 HO_287001 HL297_7 BK277 BK286 BK298 HB
     have HO_24 := n0_
     have HO_278004 := n1_
     have HO_278005 := n2_
     have HO_287000 := n3_
     have HO_287001 := n4_
     have HL297_7 := n5_
     have BK277 := n6_
     have BK286 := n7_
     have BK298 := n8_
     have HB := n9_
     clear n0_ n1_ n2_ n3_ n4_ n5_ n6_ n7_ n8_ n9_
     have p43 : 0 ≤ (t303 : Int) := od_
     have q43 : (t303 : Int) < ((x287001_2.length : Int) : Int) := od_
     obtain ⟨go43, co43, eo43, gb43, gl43, cl43, HG43⟩ := Kd.R_form HO_287001.out (by omega)
     (first | cases eo43 | (injection eo43 with ea_ en_ ec_; (first | subst ea_ | (injection ea_ with ea_; subst ea_)); subst ec_; clear en_))
     have GB43 := A_.mk gb43
     have GG43 := A_.mk HG43
     clear gb43 gl43 HG43
     (first | simp only [add_plain] at hx304_0 | skip)
     obtain ⟨hx43_0, hf43_0⟩ := Kd.R_celln 0 HO_287001.out (t303 : Int) p43 q43
     replace p43 := eq_true p43
     replace q43 := eq_true q43
     have HP58 := Kd.R_putn HO_287001.out (t303 : Int) (wrap64 ((rd x287001_2 t303) + t305))
     rw [← Ny306.out] at HP58
     have HQ58 := A_.mk HP58
     clear HP58
     refine hK.out _ _ ⟨(bc_ BK286.out 0).trans rfl, (bc_ BK286.out 1).trans rfl, (bc_ BK298.out 0).trans rfl, (bc_ BK298.out 1).trans rfl, (bc_ BK298.out 2).trans rfl, (bc_ BK298.out 3).trans rfl, (bc_ BK298.out 4).trans rfl, (bc_ BK298.out 5).trans rfl, (bc_ BK298.out 6).trans rfl, (bc_ BK298.out 7).trans rfl, HS10_⟩ (fun hHeld => ?_)
     clear hK K
     refine nm_ ?_
     refine pr_ (i := 8) (N := some 49) #[T, T, T, T, T, T, T, T, T, F, F] rfl HT_.out ?_
     refine pr_ (i := 9) (N := some 50) #[T, T, T, T, T, T, T, T, T, T, F] rfl HT_.out ?_
     refine last_ (i := 10) (N := none) #[T, T, T, T, T, T, T, T, T, T, T] rfl rfl (one_of HT_.out (by kernel_rfl)) (by decide) (fun K hK => ?_)
     refine skip_ (w1 := ?_) (by rfl) rfl ?_ ?_
     rotate_left
     ·go_simp
      rfl
     refine hK.out _ _ ?_
     clear hK K
     refine done_ (done_of HT_.out (by kernel_rfl)) ?_
     try go_wp2
     go_roundg k2
     case measure => have := HJ1.out; have := HK2.out; omega
     case rel => exact ⟨(wrap64 (x26_2 + 1)), (y302), (y306), (.slice (some ⟨go38, 0, none⟩) x287000_2.length co51), (.slice (some ⟨go43, 0, none⟩) x287001_2.length co56), (by first | rfl | (simp; done) | (simp [*]; done)), H', ⟨by have := HJ1.out; have := HK2.out; omega⟩, ⟨by (with_reducible repeat (first | apply Kd.N_alloc | apply Kd.N_drewN | apply Kd.N_drew)); exact Kd.N_mono (Kd.N_far (p := ⟨go43, (t303 : Int).toNat, none⟩) (Kd.N_mono HO_24.out (fun k_ hk => (⟨hk, fun e_ => hk.2.2.1 (by rw [e_]; rfl)⟩ : _ ∧ k_ ≠ go43))) (fun _ hk => hk.2) (.int .i64 (wrap64 ((rd x287001_2 t303) + t305)))) (fun _ hk => ⟨hk.1.1, ⟨hk.1.2.1, ⟨hk.1.2.2.1, ⟨hk.1.2.2.2.1, hk.1.2.2.2.2.1⟩⟩⟩⟩)⟩, ⟨by (with_reducible repeat (first | apply Kd.V_alloc | apply Kd.V_drewN | apply Kd.V_drew)); exact Kd.V_mono (Kd.V_far (p := ⟨go43, (t303 : Int).toNat, none⟩) (Kd.V_mono HO_278004.out (fun k_ hk => (⟨hk, fun e_ => hk.2.2.2.1 (by rw [e_]; rfl)⟩ : _ ∧ k_ ≠ go43))) (fun _ hk => hk.2) (.int .i64 (wrap64 ((rd x287001_2 t303) + t305)))) (fun _ hk => ⟨hk.1.1, ⟨hk.1.2.1, ⟨hk.1.2.2.1, ⟨hk.1.2.2.2.1, ⟨hk.1.2.2.2.2.1, hk.1.2.2.2.2.2.1⟩⟩⟩⟩⟩)⟩, ⟨by (with_reducible repeat (first | apply Kd.V_alloc | apply Kd.V_drewN | apply Kd.V_drew)); exact Kd.V_mono (Kd.V_far (p := ⟨go43, (t303 : Int).toNat, none⟩) (Kd.V_mono HO_278005.out (fun k_ hk => (⟨hk, fun e_ => hk.2.2.2.1 (by rw [e_]; rfl)⟩ : _ ∧ k_ ≠ go43))) (fun _ hk => hk.2) (.int .i64 (wrap64 ((rd x287001_2 t303) + t305)))) (fun _ hk => ⟨hk.1.1, ⟨hk.1.2.1, ⟨hk.1.2.2.1, ⟨hk.1.2.2.2.1, ⟨hk.1.2.2.2.2.1, hk.1.2.2.2.2.2.1⟩⟩⟩⟩⟩)⟩, ⟨by (repeat apply rX); exact Kd.R_mono (Kd.R_far (p := ⟨go43, (t303 : Int).toNat, none⟩) (Kd.R_mono HO_287000.out (fun k_ hk => (⟨hk, fun e_ => hk.2 (by rw [e_]; rfl)⟩ : _ ∧ k_ ≠ go43))) (fun _ hk => hk.2) (.int .i64 (wrap64 ((rd x287001_2 t303) + t305)))) (fun _ hk => ⟨hk.1.1, hk.1.2⟩)⟩, ⟨by (repeat apply rX); exact HQ58.out⟩, ⟨by (repeat apply bX); refine blk_far ?_ (by have h_ := Kd.R_ne HO_287001.out BK277.out (by decide); intro e_; exact h_ (by rw [e_]; rfl)) _; (repeat apply bX); exact BK277.out⟩, ⟨by (repeat apply bX); refine blk_far ?_ (by have h_ := Kd.R_ne HO_287001.out BK286.out (by decide); intro e_; exact h_ (by rw [e_]; rfl)) _; (repeat apply bX); exact BK286.out⟩, ⟨by repeat (first | (with_reducible first | exact HB.out | apply ba_ | apply bd_ | apply be_ | refine bs_ ?_ GB43.out | refine bs_ ?_ GE277.out | refine bs_ ?_ GE286.out | refine bs_ ?_ GE298.out) | exact HB.out)⟩⟩
end Go.Proofs.Ytlombfmebinjbaa.PFnExactTellCredits
