-- Written by a program of this session (wip/xp): not trusted, Lean checks it.
import Derived.Test.YtkapncihoabnmaaPFnExactSpendCreditsx0
import Derived.Test.YtkapncihoabnmaaPFnExactSpendCreditsx1
import Derived.Test.YtkapncihoabnmaaPFnExactSpendCreditsx2
import Derived.Test.YtkapncihoabnmaaPFnExactSpendCreditsx7
import Derived.Test.YtkapncihoabnmaaPFnExactSpendCreditsx12
namespace Go.Proofs.Ytkapncihoabnmaa.PFnExactSpendCredits
open Go.RowKit Go.Proofs.YtkapncihoabnmaaW.PrintWords Go.Proofs.YtkapncihoabnmaaW.PrintLast Go.Proofs.YtkapncihoabnmaaW.PrintMore
attribute [local go_sem] max2_int min2_int max_two min_two max_three min_three max_four min_four   -- for this text's walks alone
set_option linter.unusedVariables false
set_option linter.unusedSimpArgs false

/-! ### laws_FnExactSpendCredits: function 13 -/
mutual
def laws_FnExactSpendCredits.j0 : Nat → Bool → Bool → Bool → List Int → List Int → Int → Int → Int → Int → Int → Int → Int → List Int → List Int → List Int → List Int → List Int → Int → Int → Int → Int → Int → Int → Int → List Int → List Int → List Int → Option (Bool)
 | 0, _, _, _, _, _, _, _, _, _, _, _, _, _, _, _, _, _, _, _, _, _, _, _, _, _, _, _ => none
 | k + 1, x7, x11, x53, x306000, x306001, x307000, x307001, x307002, x307003, x307004, x307005, x307006, x307007, x333000, x333001, x340000, x340001, x351000, x351001, x351002, x351003, x351004, x351005, x351006, x351007, x359000, x359001 => if x53 = true then (some false) else ((laws_toCredits.f k x306000 x306001).bind fun bt360 => ((laws_eqCredits.f k x340000 x340001 bt360.1 bt360.2).bind fun t366 => (if t366 = true then ((laws_toPacket.f k x307000 x307001 x307002 x307003 x307004 x307005 x307006 x307007).bind fun bt367 => ((laws_eqPacket.f k x351000 x351001 x351002 x351003 x351004 x351005 x351006 x351007 bt367.1 bt367.2.1 bt367.2.2.1 bt367.2.2.2.1 bt367.2.2.2.2.1 bt367.2.2.2.2.2.1 bt367.2.2.2.2.2.2.1 bt367.2.2.2.2.2.2.2).bind fun t377 => (if t377 = true then ((laws_markCredits.f k x340000 x340001 1).bind fun bt378 => ((laws_markPacket.f k x351000 x351001 x351002 x351003 x351004 x351005 x351006 x351007 bt378.1).bind fun bt381 => (if bt381.1 < 0 then (laws_FnExactSpendCredits.j1 k x7 true x306000 x306001 x307000 x307001 x307002 x307003 x307004 x307005 x307006 x307007 x333000 x333001 x359000 x359001) else ((laws_eqCredits.f k x359000 x359001 x333000 x333001).bind fun t383 => (if t383 = true then (laws_FnExactSpendCredits.j1 k x7 (x11 != x7) x306000 x306001 x307000 x307001 x307002 x307003 x307004 x307005 x307006 x307007 x333000 x333001 x359000 x359001) else (laws_FnExactSpendCredits.j1 k x7 true x306000 x306001 x307000 x307001 x307002 x307003 x307004 x307005 x307006 x307007 x333000 x333001 x359000 x359001)))))) else (some false)))) else (some false))))
def laws_FnExactSpendCredits.j1 : Nat → Bool → Bool → List Int → List Int → Int → Int → Int → Int → Int → Int → Int → List Int → List Int → List Int → List Int → List Int → Option (Bool)
 | 0, _, _, _, _, _, _, _, _, _, _, _, _, _, _, _, _ => none
 | k + 1, x7, x82, x306000, x306001, x307000, x307001, x307002, x307003, x307004, x307005, x307006, x307007, x333000, x333001, x359000, x359001 => if x82 = true then (some false) else ((laws_markCredits.f k x359000 x359001 1).bind fun bt384 => ((laws_heldCredits.f k bt384.2.1 bt384.2.2 1).bind fun t387 => (if t387 < 0 then (some false) else (if t387 = bt384.1 then ((laws_toCredits.f k x306000 x306001).bind fun bt388 => ((laws_toPacket.f k x307000 x307001 x307002 x307003 x307004 x307005 x307006 x307007).bind fun bt394 => ((impl_SpendCredits.f k bt388.1 bt388.2 bt394.1 bt394.2.1 bt394.2.2.1 bt394.2.2.2.1 bt394.2.2.2.2.1 bt394.2.2.2.2.2.1 bt394.2.2.2.2.2.2.1 bt394.2.2.2.2.2.2.2).bind fun bt404 => ((laws_eqCredits.f k bt404.1 bt404.2.1 x333000 x333001).bind fun t412 => (if t412 = true then (laws_FnExactSpendCredits.j2 k bt384.1 (bt404.2.2 != x7) bt384.2.1 bt384.2.2) else (laws_FnExactSpendCredits.j2 k bt384.1 true bt384.2.1 bt384.2.2)))))) else (some false)))))
def laws_FnExactSpendCredits.j2 : Nat → Int → Bool → List Int → List Int → Option (Bool)
 | 0, _, _, _, _ => none
 | k + 1, x13, x110, x359000, x359001 => if x110 = true then (some false) else ((laws_heldCredits.f k x359000 x359001 1).bind fun t413 => (if t413 < 0 then (some false) else (if t413 = x13 then (some true) else (some false))))
end
def laws_FnExactSpendCredits.f (k : Nat) (l0_0 : List Int) (l0_1 : List Int) (a1_0 : Int) (a1_1 : Int) (a1_2 : Int) (a1_3 : Int) (a1_4 : Int) (a1_5 : Int) (a1_6 : Int) (l1_7 : List Int) : Option (Bool) := (laws_szCredits.f l0_0 l0_1 1048576).bind fun t307 => (if t307 < 0 then (some true) else ((laws_szPacket.f a1_0 a1_1 a1_2 a1_3 a1_4 a1_5 a1_6 l1_7 t307).bind fun t308 => (if t308 < 0 then (some true) else ((laws_toCredits.f k l0_0 l0_1).bind fun bt309 => ((laws_toPacket.f k a1_0 a1_1 a1_2 a1_3 a1_4 a1_5 a1_6 l1_7).bind fun bt315 => ((spec_SpendCredits.f k bt309.1 bt309.2 bt315.1 bt315.2.1 bt315.2.2.1 bt315.2.2.2.1 bt315.2.2.2.2.1 bt315.2.2.2.2.2.1 bt315.2.2.2.2.2.2.1 bt315.2.2.2.2.2.2.2).bind fun bt325 => ((laws_toCredits.f k l0_0 l0_1).bind fun bt333 => ((laws_toPacket.f k a1_0 a1_1 a1_2 a1_3 a1_4 a1_5 a1_6 l1_7).bind fun bt340 => ((impl_SpendCredits.f k bt333.1 bt333.2 bt340.1 bt340.2.1 bt340.2.2.1 bt340.2.2.2.1 bt340.2.2.2.2.1 bt340.2.2.2.2.2.1 bt340.2.2.2.2.2.2.1 bt340.2.2.2.2.2.2.2).bind fun bt351 => ((laws_eqCredits.f k bt351.1 bt351.2.1 bt325.1 bt325.2.1).bind fun t359 => (if t359 = true then (laws_FnExactSpendCredits.j0 k bt325.2.2 bt351.2.2 (bt351.2.2 != bt325.2.2) l0_0 l0_1 a1_0 a1_1 a1_2 a1_3 a1_4 a1_5 a1_6 l1_7 bt325.1 bt325.2.1 bt333.1 bt333.2 bt340.1 bt340.2.1 bt340.2.2.1 bt340.2.2.2.1 bt340.2.2.2.2.1 bt340.2.2.2.2.2.1 bt340.2.2.2.2.2.2.1 bt340.2.2.2.2.2.2.2 bt351.1 bt351.2.1) else (laws_FnExactSpendCredits.j0 k bt325.2.2 bt351.2.2 true l0_0 l0_1 a1_0 a1_1 a1_2 a1_3 a1_4 a1_5 a1_6 l1_7 bt325.1 bt325.2.1 bt333.1 bt333.2 bt340.1 bt340.2.1 bt340.2.2.1 bt340.2.2.2.1 bt340.2.2.2.2.1 bt340.2.2.2.2.2.1 bt340.2.2.2.2.2.2.1 bt340.2.2.2.2.2.2.2 bt351.1 bt351.2.1))))))))))))
def laws_FnExactSpendCredits.T8 : Bool × List (List Nat × List Nat) := (true, [([], []), ([0], [0]), ([], []), ([2, 1], [2]), ([1, 3, 3], [1, 3]), ([4], [4]), ([5], [5]), ([5], [5]), ([], []), ([8, 6, 4, 0, 1, 2, 3, 4, 5, 6, 8], [6, 8]), ([7, 9, 0, 1, 2, 3, 4, 5, 6, 7, 8, 9], [7])])
def laws_FnExactSpendCredits.B8 : List Nat := [0, 1, 0, 7, 15, 31, 63, 63, 0, 383, 1023]
theorem laws_FnExactSpendCredits.tab8 : rtab .any (opsOf Try.f13 8) = laws_FnExactSpendCredits.T8 := by kernel_rfl
theorem laws_FnExactSpendCredits.bits8 : waitsOk laws_FnExactSpendCredits.T8.2 laws_FnExactSpendCredits.B8 = true := by kernel_rfl
def laws_FnExactSpendCredits.T31 : Bool × List (List Nat × List Nat) := (true, [([], []), ([0], [0]), ([], []), ([2, 1], [2]), ([1, 3, 3], [1, 3]), ([4], [4]), ([5], [5]), ([5], [5]), ([], []), ([8, 6, 4, 0, 1, 2, 3, 4, 5, 6, 8], [6, 8]), ([7, 9, 0, 1, 2, 3, 4, 5, 6, 7, 8, 9], [7])])
def laws_FnExactSpendCredits.B31 : List Nat := [0, 1, 0, 7, 15, 31, 63, 63, 0, 383, 1023]
theorem laws_FnExactSpendCredits.tab31 : rtab .any (opsOf Try.f13 31) = laws_FnExactSpendCredits.T31 := by kernel_rfl
theorem laws_FnExactSpendCredits.bits31 : waitsOk laws_FnExactSpendCredits.T31.2 laws_FnExactSpendCredits.B31 = true := by kernel_rfl
/-- The body behind its first statements. -/
def laws_FnExactSpendCredits.sfx : Nat → Code → Code
 | 0, c => c
 | n + 1, .seq _ c => laws_FnExactSpendCredits.sfx n c
 | _ + 1, c => c
def laws_FnExactSpendCredits.hd : Code → Code
 | .seq a _ => a
 | c => c
def laws_FnExactSpendCredits.tl : Code → Code
 | .seq _ b => b
 | c => c
set_option maxHeartbeats 8000000 in
set_option maxRecDepth 100000 in
theorem laws_FnExactSpendCredits.rest2 (k : Nat) (A0_0 : Option Addr) (c0_0 : Nat) (l0_0 : List Int) (A0_1 : Option Addr) (c0_1 : Nat) (l0_1 : List Int) (a1_0 a1_1 a1_2 a1_3 a1_4 a1_5 a1_6 : Int) (A1_7 : Option Addr) (c1_7 : Nat) (l1_7 : List Int) (r : Bool) (w : World) (hrt : Aside0 (r = true)) (hu24 :  Program.underlying Try.prog 24 = some (TypeDesc.struct #[{ name := "Heads", type := 22, offset := 0, embedded := false, tag := "", pkgPath := "", byteOffset := 0 }, { name := "Units", type := 22, offset := 1, embedded := false, tag := "", pkgPath := "", byteOffset := 24 }])) (hu32 :  Program.underlying Try.prog 32 = some (TypeDesc.struct #[{ name := "Kind", type := 3, offset := 0, embedded := false, tag := "", pkgPath := "", byteOffset := 0 }, { name := "From", type := 3, offset := 1, embedded := false, tag := "", pkgPath := "", byteOffset := 8 }, { name := "To", type := 3, offset := 2, embedded := false, tag := "", pkgPath := "", byteOffset := 16 }, { name := "Address", type := 3, offset := 3, embedded := false, tag := "", pkgPath := "", byteOffset := 24 }, { name := "Length", type := 3, offset := 4, embedded := false, tag := "", pkgPath := "", byteOffset := 32 }, { name := "Tag", type := 3, offset := 5, embedded := false, tag := "", pkgPath := "", byteOffset := 40 }, { name := "Status", type := 3, offset := 6, embedded := false, tag := "", pkgPath := "", byteOffset := 48 }, { name := "Data", type := 22, offset := 7, embedded := false, tag := "", pkgPath := "", byteOffset := 56 }])) (hu27 :  Program.underlying Try.prog 27 = some (TypeDesc.struct #[{ name := "Heads", type := 22, offset := 0, embedded := false, tag := "", pkgPath := "", byteOffset := 0 }, { name := "Units", type := 22, offset := 1, embedded := false, tag := "", pkgPath := "", byteOffset := 24 }])) (hu35 :  Program.underlying Try.prog 35 = some (TypeDesc.struct #[{ name := "Kind", type := 3, offset := 0, embedded := false, tag := "", pkgPath := "", byteOffset := 0 }, { name := "From", type := 3, offset := 1, embedded := false, tag := "", pkgPath := "", byteOffset := 8 }, { name := "To", type := 3, offset := 2, embedded := false, tag := "", pkgPath := "", byteOffset := 16 }, { name := "Address", type := 3, offset := 3, embedded := false, tag := "", pkgPath := "", byteOffset := 24 }, { name := "Length", type := 3, offset := 4, embedded := false, tag := "", pkgPath := "", byteOffset := 32 }, { name := "Tag", type := 3, offset := 5, embedded := false, tag := "", pkgPath := "", byteOffset := 40 }, { name := "Status", type := 3, offset := 6, embedded := false, tag := "", pkgPath := "", byteOffset := 48 }, { name := "Data", type := 22, offset := 7, embedded := false, tag := "", pkgPath := "", byteOffset := 56 }])) (HR0_0 : Aside0 (Kd.C (Kd.int IntKind.i64) w A0_0 (List.length l0_0) l0_0)) (HC0_0 : Aside0 (List.length l0_0 ≤ c0_0)) (HR0_1 : Aside0 (Kd.C (Kd.int IntKind.i64) w A0_1 (List.length l0_1) l0_1)) (HC0_1 : Aside0 (List.length l0_1 ≤ c0_1)) (HR1_7 : Aside0 (Kd.C (Kd.int IntKind.i64) w A1_7 (List.length l1_7) l1_7)) (HC1_7 : Aside0 (List.length l1_7 ≤ c1_7)) (t307 : Int) (A3 : Aside0 (laws_szCredits.f l0_0 l0_1 1048576 = some t307)) (c4b0 : decide (t307 < 0) = false) (t308 : Int) (A10 : Aside0 (laws_szPacket.f a1_0 a1_1 a1_2 a1_3 a1_4 a1_5 a1_6 l1_7 t307 = some t308)) (c11b0 : decide (t308 < 0) = false) (t309 t312 : List Int) (A19 : Aside0 (laws_toCredits.f k l0_0 l0_1 = some (t309, t312))) (t315 t316 t317 t318 t319 t320 t321 : Int) (t322 : List Int) (A20 :  Aside0 (laws_toPacket.f k a1_0 a1_1 a1_2 a1_3 a1_4 a1_5 a1_6 l1_7 = some (t315, t316, t317, t318, t319, t320, t321, t322))) (t325 t328 : List Int) (t331 : Bool) (A21 : Aside0 (spec_SpendCredits.f k t309 t312 t315 t316 t317 t318 t319 t320 t321 t322 = some (t325, t328, t331))) (t333 t336 : List Int) (A22 : Aside0 (laws_toCredits.f k l0_0 l0_1 = some (t333, t336))) (t340 t341 t342 t343 t344 t345 t346 : Int) (t347 : List Int) (A23 :  Aside0 (laws_toPacket.f k a1_0 a1_1 a1_2 a1_3 a1_4 a1_5 a1_6 l1_7 = some (t340, t341, t342, t343, t344, t345, t346, t347))) (t351 t354 : List Int) (t357 : Bool) (A24 : Aside0 (impl_SpendCredits.f k t333 t336 t340 t341 t342 t343 t344 t345 t346 t347 = some (t351, t354, t357))) (gb305 : Nat) (GW305 GE305 : Aside0 (Array.size (World.heap w) ≤ gb305)) (gb306 : Nat) (GW306 GE306 : Aside0 (Array.size (World.heap w) ≤ gb306)) (NB305_306 : Aside0 (gb305 ≠ gb306)) (NB306_305 : Aside0 (gb306 ≠ gb305)) (hnb28 : gb305 ≠ gb306) (hnc28 : gb306 ≠ gb305) (HT_ :  Aside0 (rtab Region.Mode.any #[{ dst := some 28, op := Op.load 24 (Operand.tmp 2), type := 24, pos := "exact.go:4077", after := #[], guard := none }, { dst := some 29, op := Op.call { callee := Callee.value (Operand.func 17), args := #[Operand.tmp 28], argTypes := #[24] }, type := 27, pos := "exact.go:4077", after := #[{ on := 0, ground := Ground.data }], guard := none }, { dst := some 30, op := Op.load 32 (Operand.tmp 3), type := 32, pos := "exact.go:4077", after := #[], guard := none }, { dst := some 31, op := Op.call { callee := Callee.value (Operand.func 22), args := #[Operand.tmp 30], argTypes := #[32] }, type := 35, pos := "exact.go:4077", after := #[{ on := 2, ground := Ground.data }, { on := 1, ground := Ground.chain }], guard := none }, { dst := some 32, op := Op.call { callee := Callee.value (Operand.func 60), args := #[Operand.tmp 29, Operand.tmp 31], argTypes := #[27, 35] }, type := 74, pos := "exact.go:4077", after := #[{ on := 1, ground := Ground.data }, { on := 3, ground := Ground.data }, { on := 3, ground := Ground.chain }], guard := none }, { dst := some 27, op := Op.move (Operand.tmp 32), type := 74, pos := "exact.go:4077", after := #[{ on := 4, ground := Ground.data }], guard := none }, { dst := some 33, op := Op.extract (Operand.tmp 27) 0, type := 27, pos := "exact.go:4077", after := #[{ on := 5, ground := Ground.data }], guard := none }, { dst := some 34, op := Op.extract (Operand.tmp 27) 1, type := 4, pos := "exact.go:4077", after := #[{ on := 5, ground := Ground.data }, { on := 9, ground := Ground.gcOnly Departure.lateStores }], guard := none }, { dst := some 6, op := Op.alloc 27, type := 0, pos := "exact.go:4077", after := #[], guard := none }, { dst := none, op := Op.store 27 (Operand.tmp 6) (Operand.tmp 33), type := 0, pos := "exact.go:4077", after := #[{ on := 8, ground := Ground.data }, { on := 6, ground := Ground.data }, { on := 4, ground := Ground.chain }, { on := 0, ground := Ground.phase }, { on := 1, ground := Ground.phase }, { on := 2, ground := Ground.phase }, { on := 3, ground := Ground.phase }, { on := 4, ground := Ground.phase }, { on := 5, ground := Ground.phase }, { on := 6, ground := Ground.phase }, { on := 7, ground := Ground.textOnly Departure.lateStores }, { on := 8, ground := Ground.phase }], guard := none }, { dst := some 7, op := Op.assign (Operand.tmp 34), type := 4, pos := "exact.go:4077", after := #[{ on := 7, ground := Ground.data }, { on := 9, ground := Ground.chain }, { on := 0, ground := Ground.phase }, { on := 1, ground := Ground.phase }, { on := 2, ground := Ground.phase }, { on := 3, ground := Ground.phase }, { on := 4, ground := Ground.phase }, { on := 5, ground := Ground.phase }, { on := 6, ground := Ground.phase }, { on := 7, ground := Ground.phase }, { on := 8, ground := Ground.phase }, { on := 9, ground := Ground.phase }], guard := none }] = T8)) (HW_ : Aside0 (waitsOk (Prod.snd T8) B8 = true)) (v310 v313 v323 : Value) (gb332 : Nat) (GW332 GE332 : Aside0 (Array.size (World.heap w) ≤ gb332)) (NB305_332 : Aside0 (gb305 ≠ gb332)) (NB332_305 : Aside0 (gb332 ≠ gb305)) (NB306_332 : Aside0 (gb306 ≠ gb332)) (NB332_306 : Aside0 (gb332 ≠ gb306)) (Ao42 : Option Addr) (co42 : Nat) (Ao44 : Option Addr) (co44 : Nat) (hns43_0 : gb305 ≠ gb332) (hns43_1 : gb306 ≠ gb332) (hms43_0 : gb332 ≠ gb305) (hms43_1 : gb332 ≠ gb306) (hns45_0 : gb305 ≠ gb332) (hns45_1 : gb306 ≠ gb332) (hms45_0 : gb332 ≠ gb305) (hms45_1 : gb332 ≠ gb306) (hnb46 : gb305 ≠ gb332) (hnc46 : gb332 ≠ gb305) (gb339 : Nat) (GW339 GE339 : Aside0 (Array.size (World.heap w) ≤ gb339)) (NB305_339 : Aside0 (gb305 ≠ gb339)) (NB339_305 : Aside0 (gb339 ≠ gb305)) (NB306_339 : Aside0 (gb306 ≠ gb339)) (NB339_306 : Aside0 (gb339 ≠ gb306)) (NB332_339 : Aside0 (gb332 ≠ gb339)) (NB339_332 : Aside0 (gb339 ≠ gb332)) (Ao50 : Option Addr) (co50 : Nat) (hnb51 : gb339 ≠ gb305) (hnc51 : gb305 ≠ gb339) (hnb52 : gb339 ≠ gb306) (hnc52 : gb306 ≠ gb339) (hnb53 : gb339 ≠ gb332) (hnc53 : gb332 ≠ gb339) (Ao55 : Option Addr) (co55 : Nat) (hnb56 : gb306 ≠ gb332) (hnc56 : gb332 ≠ gb306) (gb350 : Nat) (GW350 GE350 : Aside0 (Array.size (World.heap w) ≤ gb350)) (NB305_350 : Aside0 (gb305 ≠ gb350)) (NB350_305 : Aside0 (gb350 ≠ gb305)) (NB306_350 : Aside0 (gb306 ≠ gb350)) (NB350_306 : Aside0 (gb350 ≠ gb306)) (NB332_350 : Aside0 (gb332 ≠ gb350)) (NB350_332 : Aside0 (gb350 ≠ gb332)) (NB339_350 : Aside0 (gb339 ≠ gb350)) (NB350_339 : Aside0 (gb350 ≠ gb339)) (hnb60 : gb350 ≠ gb305) (hnc60 : gb305 ≠ gb350) (hnb61 : gb350 ≠ gb306) (hnc61 : gb306 ≠ gb350) (hnb62 : gb350 ≠ gb332) (hnc62 : gb332 ≠ gb350) (hnb63 : gb350 ≠ gb339) (hnc63 : gb339 ≠ gb350) (Ao65 : Option Addr) (co65 : Nat) (gb358 : Nat) (GW358 GE358 : Aside0 (Array.size (World.heap w) ≤ gb358)) (NB305_358 : Aside0 (gb305 ≠ gb358)) (NB358_305 : Aside0 (gb358 ≠ gb305)) (NB306_358 : Aside0 (gb306 ≠ gb358)) (NB358_306 : Aside0 (gb358 ≠ gb306)) (NB332_358 : Aside0 (gb332 ≠ gb358)) (NB358_332 : Aside0 (gb358 ≠ gb332)) (NB339_358 : Aside0 (gb339 ≠ gb358)) (NB358_339 : Aside0 (gb358 ≠ gb339)) (NB350_358 : Aside0 (gb350 ≠ gb358)) (NB358_350 : Aside0 (gb358 ≠ gb350)) (Ao69 : Option Addr) (co69 : Nat) (hnb70 : gb358 ≠ gb305) (hnc70 : gb305 ≠ gb358) (hnb71 : gb358 ≠ gb306) (hnc71 : gb306 ≠ gb358) (hnb72 : gb358 ≠ gb332) (hnc72 : gb332 ≠ gb358) (hnb73 : gb358 ≠ gb339) (hnc73 : gb339 ≠ gb358) (hnb74 : gb358 ≠ gb350) (hnc74 : gb350 ≠ gb358) (Ao76 : Option Addr) (co76 : Nat) (kj24 : Nat) (HJ24 : Aside0 (kj24 + 1 ≤ k)) (t360 t363 : List Int) (A104 : Aside0 (laws_toCredits.f kj24 l0_0 l0_1 = some (t360, t363))) (A105 : Aside0 (laws_eqCredits.f kj24 t333 t336 t360 t363 = some true)) (t367 t368 t369 t370 t371 t372 t373 : Int) (t374 : List Int) (A107 :  Aside0 (laws_toPacket.f kj24 a1_0 a1_1 a1_2 a1_3 a1_4 a1_5 a1_6 l1_7 = some (t367, t368, t369, t370, t371, t372, t373, t374))) (A108 :  Aside0 (laws_eqPacket.f kj24 t340 t341 t342 t343 t344 t345 t346 t347 t367 t368 t369 t370 t371 t372 t373 t374 = some true)) (t378 : Int) (t379 t380 : List Int) (A110 : Aside0 (laws_markCredits.f kj24 t333 t336 1 = some (t378, t379, t380))) (t381 : Int) (t382 : List Int) (A111 : Aside0 (laws_markPacket.f kj24 t340 t341 t342 t343 t344 t345 t346 t347 t378 = some (t381, t382))) (Ao115 : Option Addr) (co115 : Nat) (Ao116 : Option Addr) (co116 : Nat) (Ao120 : Option Addr) (co120 : Nat) (hnb122 : gb339 ≠ gb305) (hnc122 : gb305 ≠ gb339) (hnb123 : gb339 ≠ gb306) (hnc123 : gb306 ≠ gb339) (hnb124 : gb339 ≠ gb332) (hnc124 : gb332 ≠ gb339) (hnb125 : gb339 ≠ gb350) (hnc125 : gb350 ≠ gb339) (hnb126 : gb339 ≠ gb358) (hnc126 : gb358 ≠ gb339) (hnb129 : gb350 ≠ gb305) (hnc129 : gb305 ≠ gb350) (hnb130 : gb350 ≠ gb306) (hnc130 : gb306 ≠ gb350) (hnb131 : gb350 ≠ gb332) (hnc131 : gb332 ≠ gb350) (hnb132 : gb350 ≠ gb358) (hnc132 : gb358 ≠ gb350) (wc : World) (u17 u18 u19 u20 u21 u22 u23 u24 u25 u26 u27 u28 u29 u30 u31 u32 u33 u34 u35 u36 u37 u38 u39 u40 u41 u42 u43 u44 u45 u46 u47 u48 u49 u50 u51 u52 u53 u54 u55 u56 u57 u58 u59 u60 u61 u62 u63 u64 u65 u66 u67 u68 u69 u70 u71 u72 u73 u74 u75 u76 u77 u78 u79 u80 u81 u82 u83 u84 u85 u86 u87 u88 u89 u90 u91 u92 u93 u94 u95 u96 u97 u98 u99 u100 u101 u102 u103 u104 u105 u106 u107 u108 u109 u110 u111 u112 u113 u114 u115 u116 u117 u118 :  Value) (hcut :  ∃ kq x82_111, u82 = Value.bool x82_111 ∧ Aside0 (j1 kq t331 x82_111 l0_0 l0_1 a1_0 a1_1 a1_2 a1_3 a1_4 a1_5 a1_6 l1_7 t325 t328 t351 t354 = some r) ∧ Aside0 (kq ≤ kj24) ∧ Aside0 (Kd.R (Kd.int IntKind.i64) 3 wc (Array.size (World.heap w)) (fun k_ => some k_ ≠ Value.ownBlock (Value.slice Ao44 (List.length t328) co44) ∧ some k_ ≠ Value.ownBlock (Value.slice Ao50 (List.length t333) co50) ∧ some k_ ≠ Value.ownBlock (Value.slice Ao55 (List.length t336) co55) ∧ some k_ ≠ Value.ownBlock (Value.slice Ao65 (List.length t347) co65) ∧ some k_ ≠ Value.ownBlock (Value.slice Ao69 (List.length t351) co69) ∧ some k_ ≠ Value.ownBlock (Value.slice Ao76 (List.length t354) co76)) (Value.slice Ao42 (List.length t325) co42) t325) ∧ Aside0 (Kd.R (Kd.int IntKind.i64) 3 wc (Array.size (World.heap w)) (fun k_ => some k_ ≠ Value.ownBlock (Value.slice Ao42 (List.length t325) co42) ∧ some k_ ≠ Value.ownBlock (Value.slice Ao50 (List.length t333) co50) ∧ some k_ ≠ Value.ownBlock (Value.slice Ao55 (List.length t336) co55) ∧ some k_ ≠ Value.ownBlock (Value.slice Ao65 (List.length t347) co65) ∧ some k_ ≠ Value.ownBlock (Value.slice Ao69 (List.length t351) co69) ∧ some k_ ≠ Value.ownBlock (Value.slice Ao76 (List.length t354) co76)) (Value.slice Ao44 (List.length t328) co44) t328) ∧ Aside0 (Kd.R (Kd.int IntKind.i64) 3 wc (Array.size (World.heap w)) (fun k_ => some k_ ≠ Value.ownBlock (Value.slice Ao42 (List.length t325) co42) ∧ some k_ ≠ Value.ownBlock (Value.slice Ao44 (List.length t328) co44) ∧ some k_ ≠ Value.ownBlock (Value.slice Ao55 (List.length t336) co55) ∧ some k_ ≠ Value.ownBlock (Value.slice Ao65 (List.length t347) co65) ∧ some k_ ≠ Value.ownBlock (Value.slice Ao69 (List.length t351) co69) ∧ some k_ ≠ Value.ownBlock (Value.slice Ao76 (List.length t354) co76)) (Value.slice Ao50 (List.length t333) co50) t379) ∧ Aside0 (Kd.R (Kd.int IntKind.i64) 3 wc (Array.size (World.heap w)) (fun k_ => some k_ ≠ Value.ownBlock (Value.slice Ao42 (List.length t325) co42) ∧ some k_ ≠ Value.ownBlock (Value.slice Ao44 (List.length t328) co44) ∧ some k_ ≠ Value.ownBlock (Value.slice Ao50 (List.length t333) co50) ∧ some k_ ≠ Value.ownBlock (Value.slice Ao65 (List.length t347) co65) ∧ some k_ ≠ Value.ownBlock (Value.slice Ao69 (List.length t351) co69) ∧ some k_ ≠ Value.ownBlock (Value.slice Ao76 (List.length t354) co76)) (Value.slice Ao55 (List.length t336) co55) t380) ∧ Aside0 (Kd.R (Kd.int IntKind.i64) 3 wc (Array.size (World.heap w)) (fun k_ => some k_ ≠ Value.ownBlock (Value.slice Ao42 (List.length t325) co42) ∧ some k_ ≠ Value.ownBlock (Value.slice Ao44 (List.length t328) co44) ∧ some k_ ≠ Value.ownBlock (Value.slice Ao50 (List.length t333) co50) ∧ some k_ ≠ Value.ownBlock (Value.slice Ao55 (List.length t336) co55) ∧ some k_ ≠ Value.ownBlock (Value.slice Ao69 (List.length t351) co69) ∧ some k_ ≠ Value.ownBlock (Value.slice Ao76 (List.length t354) co76)) (Value.slice Ao65 (List.length t347) co65) t382) ∧ Aside0 (Kd.R (Kd.int IntKind.i64) 3 wc (Array.size (World.heap w)) (fun k_ => some k_ ≠ Value.ownBlock (Value.slice Ao42 (List.length t325) co42) ∧ some k_ ≠ Value.ownBlock (Value.slice Ao44 (List.length t328) co44) ∧ some k_ ≠ Value.ownBlock (Value.slice Ao50 (List.length t333) co50) ∧ some k_ ≠ Value.ownBlock (Value.slice Ao55 (List.length t336) co55) ∧ some k_ ≠ Value.ownBlock (Value.slice Ao65 (List.length t347) co65) ∧ some k_ ≠ Value.ownBlock (Value.slice Ao76 (List.length t354) co76)) (Value.slice Ao69 (List.length t351) co69) t351) ∧ Aside0 (Kd.R (Kd.int IntKind.i64) 3 wc (Array.size (World.heap w)) (fun k_ => some k_ ≠ Value.ownBlock (Value.slice Ao42 (List.length t325) co42) ∧ some k_ ≠ Value.ownBlock (Value.slice Ao44 (List.length t328) co44) ∧ some k_ ≠ Value.ownBlock (Value.slice Ao50 (List.length t333) co50) ∧ some k_ ≠ Value.ownBlock (Value.slice Ao55 (List.length t336) co55) ∧ some k_ ≠ Value.ownBlock (Value.slice Ao65 (List.length t347) co65) ∧ some k_ ≠ Value.ownBlock (Value.slice Ao69 (List.length t351) co69)) (Value.slice Ao76 (List.length t354) co76) t354) ∧ Aside0 ((World.heap wc)[gb305]? = some (Obj.cells #[Value.slice A0_0 (List.length l0_0) c0_0, Value.slice A0_1 (List.length l0_1) c0_1] 24)) ∧ Aside0 ((World.heap wc)[gb306]? = some (Obj.cells #[Value.int IntKind.i64 a1_0, Value.int IntKind.i64 a1_1, Value.int IntKind.i64 a1_2, Value.int IntKind.i64 a1_3, Value.int IntKind.i64 a1_4, Value.int IntKind.i64 a1_5, Value.int IntKind.i64 a1_6, Value.slice A1_7 (List.length l1_7) c1_7] 32)) ∧ Aside0 ((World.heap wc)[gb332]? = some (Obj.cells #[Value.slice Ao42 (List.length t325) co42, Value.slice Ao44 (List.length t328) co44] 27)) ∧ Aside0 ((World.heap wc)[gb339]? = some (Obj.cells #[Value.slice Ao50 (List.length t333) co50, Value.slice Ao55 (List.length t336) co55] 27)) ∧ Aside0 ((World.heap wc)[gb350]? = some (Obj.cells #[Value.int IntKind.i64 t340, Value.int IntKind.i64 t341, Value.int IntKind.i64 t342, Value.int IntKind.i64 t343, Value.int IntKind.i64 t344, Value.int IntKind.i64 t345, Value.int IntKind.i64 t346, Value.slice Ao65 (List.length t347) co65] 35)) ∧ Aside0 ((World.heap wc)[gb358]? = some (Obj.cells #[Value.slice Ao69 (List.length t351) co69, Value.slice Ao76 (List.length t354) co76] 27)) ∧ Aside0 (Below (Array.size (World.heap w)) w wc)) (K1 : Act → World → Prop) (hK1 : ∀ (a : Act) (w_ : World), Code.wp Try.prog (laws_FnExactSpendCredits.tl (laws_FnExactSpendCredits.sfx 16 (Try.f13.body.getD .skip))) (bodyPost Try.prog Try.f13 fun e w' => e = Ending.returned (Value.bool r) ∧ Below (Array.size (World.heap w)) w w') a w_ → K1 a w_) (K : Act → World → Prop) (hK : ∀ (a : Act) (w_ : World), Code.wp Try.prog (laws_FnExactSpendCredits.tl (laws_FnExactSpendCredits.hd (laws_FnExactSpendCredits.sfx 16 (Try.f13.body.getD .skip)))) (Exit.then K1 (bodyPost Try.prog Try.f13 fun e w' => e = Ending.returned (Value.bool r) ∧ Below (Array.size (World.heap w)) w w')) a w_ → K a w_) : K { tmps := #[Value.agg #[Value.slice A0_0 (List.length l0_0) c0_0, Value.slice A0_1 (List.length l0_1) c0_1], Value.agg #[Value.int IntKind.i64 a1_0, Value.int IntKind.i64 a1_1, Value.int IntKind.i64 a1_2, Value.int IntKind.i64 a1_3, Value.int IntKind.i64 a1_4, Value.int IntKind.i64 a1_5, Value.int IntKind.i64 a1_6, Value.slice A1_7 (List.length l1_7) c1_7], Value.pointer (some { block := gb305, off := 0 }), Value.pointer (some { block := gb306, off := 0 }), Value.bool false, Value.int IntKind.i64 t308, Value.pointer (some { block := gb332, off := 0 }), Value.bool t331, Value.pointer (some { block := gb339, off := 0 }), Value.pointer (some { block := gb350, off := 0 }), Value.pointer (some { block := gb358, off := 0 }), Value.bool t357, Value.int IntKind.i64 t381, undef, undef, undef, undef, u17, u18, u19, u20, u21, u22, u23, u24, u25, u26, u27, u28, u29, u30, u31, u32, u33, u34, u35, u36, u37, u38, u39, u40, u41, u42, u43, u44, u45, u46, u47, u48, u49, u50, u51, u52, u53, u54, u55, u56, u57, u58, u59, u60, u61, u62, u63, u64, u65, u66, u67, u68, u69, u70, u71, u72, u73, u74, u75, u76, u77, u78, u79, u80, u81, u82, u83, u84, u85, u86, u87, u88, u89, u90, u91, u92, u93, u94, u95, u96, u97, u98, u99, u100, u101, u102, u103, u104, u105, u106, u107, u108, u109, u110, u111, u112, u113, u114, u115, u116, u117, u118], defers := [] } wc := by
 dsimp only [laws_FnExactSpendCredits.sfx, laws_FnExactSpendCredits.hd, laws_FnExactSpendCredits.tl, Try.f13, Option.getD] at hK hK1
 change ∀ (a : Act) (w_ : World), Code.wp _ _ (bodyPost Try.prog Try.f13 fun e w' => e = Ending.returned (Value.bool r) ∧ Below (Array.size (World.heap w)) w w') a w_ → K1 a w_ at hK1
 change ∀ (a : Act) (w_ : World), Code.wp _ _ (Exit.then K1 (bodyPost Try.prog Try.f13 fun e w' => e = Ending.returned (Value.bool r) ∧ Below (Array.size (World.heap w)) w w')) a w_ → K a w_ at hK
 obtain ⟨kq, x82_111, rfl, HA, HJ111, HO_333000, HO_333001, HO_340000, HO_340001, HO_351007, HO_359000, HO_359001, BK305, BK306, BK332, BK339, BK350, BK358, HB⟩ := hcut
 have hl340000_111 := (Kd.R_reads' HO_340000.out).1
 rw [hl340000_111] at HO_340000
 (try simp only [hl340000_111])
 (try simp only [hl340000_111] at BK305)
 (try simp only [hl340000_111] at BK306)
 (try simp only [hl340000_111] at BK332)
 (try simp only [hl340000_111] at BK339)
 (try simp only [hl340000_111] at BK350)
 (try simp only [hl340000_111] at BK358)
 (try simp only [hl340000_111] at HO_333000)
 (try simp only [hl340000_111] at HO_333001)
 (try simp only [hl340000_111] at HO_340001)
 (try simp only [hl340000_111] at HO_351007)
 (try simp only [hl340000_111] at HO_359000)
 (try simp only [hl340000_111] at HO_359001)
 have hl340001_111 := (Kd.R_reads' HO_340001.out).1
 rw [hl340001_111] at HO_340001
 (try simp only [hl340001_111])
 (try simp only [hl340001_111] at BK305)
 (try simp only [hl340001_111] at BK306)
 (try simp only [hl340001_111] at BK332)
 (try simp only [hl340001_111] at BK339)
 (try simp only [hl340001_111] at BK350)
 (try simp only [hl340001_111] at BK358)
 (try simp only [hl340001_111] at HO_333000)
 (try simp only [hl340001_111] at HO_333001)
 (try simp only [hl340001_111] at HO_340000)
 (try simp only [hl340001_111] at HO_351007)
 (try simp only [hl340001_111] at HO_359000)
 (try simp only [hl340001_111] at HO_359001)
 have hl351007_111 := (Kd.R_reads' HO_351007.out).1
 rw [hl351007_111] at HO_351007
 (try simp only [hl351007_111])
 (try simp only [hl351007_111] at BK305)
 (try simp only [hl351007_111] at BK306)
 (try simp only [hl351007_111] at BK332)
 (try simp only [hl351007_111] at BK339)
 (try simp only [hl351007_111] at BK350)
 (try simp only [hl351007_111] at BK358)
 (try simp only [hl351007_111] at HO_333000)
 (try simp only [hl351007_111] at HO_333001)
 (try simp only [hl351007_111] at HO_340000)
 (try simp only [hl351007_111] at HO_340001)
 (try simp only [hl351007_111] at HO_359000)
 (try simp only [hl351007_111] at HO_359001)
 cases kq with
 | zero => exact absurd HA.out (by simp [laws_FnExactSpendCredits.j1])
 | succ kj111 =>
  have H := HA.out
  clear HA
  simp only [laws_FnExactSpendCredits.j1] at H
  by_cases c162 : x82_111 = true
  ·subst c162
   have H1 : (some false) = some r := by rw [if_pos rfl] at H; exact H
   clear H
   have H := H1
   clear H1
   exact absurd (H.trans (congrArg some hrt.out)) (by simp)
  replace c162 := Bool.eq_false_iff.mpr c162
  subst c162
  have H1 : ((laws_markCredits.f kj111 t351 t354 1).bind fun bt384 => ((laws_heldCredits.f kj111 bt384.2.1 bt384.2.2 1).bind fun t387 => (if t387 < 0 then (some false) else (if t387 = bt384.1 then ((laws_toCredits.f kj111 l0_0 l0_1).bind fun bt388 => ((laws_toPacket.f kj111 a1_0 a1_1 a1_2 a1_3 a1_4 a1_5 a1_6 l1_7).bind fun bt394 => ((impl_SpendCredits.f kj111 bt388.1 bt388.2 bt394.1 bt394.2.1 bt394.2.2.1 bt394.2.2.2.1 bt394.2.2.2.2.1 bt394.2.2.2.2.2.1 bt394.2.2.2.2.2.2.1 bt394.2.2.2.2.2.2.2).bind fun bt404 => ((laws_eqCredits.f kj111 bt404.1 bt404.2.1 t325 t328).bind fun t412 => (if t412 = true then (laws_FnExactSpendCredits.j2 kj111 bt384.1 (bt404.2.2 != t331) bt384.2.1 bt384.2.2) else (laws_FnExactSpendCredits.j2 kj111 bt384.1 true bt384.2.1 bt384.2.2)))))) else (some false))))) = some r := by rw [if_neg (show ¬ (false = true) by decide)] at H; exact H
  clear H
  have H := H1
  clear H1
  replace H := Option.bind_eq_some_iff.mp H
  obtain ⟨⟨t384, t385, t386⟩, A1630, H⟩ := H
  replace H : ((laws_heldCredits.f kj111 t385 t386 1).bind fun t387 => (if t387 < 0 then (some false) else (if t387 = t384 then ((laws_toCredits.f kj111 l0_0 l0_1).bind fun bt388 => ((laws_toPacket.f kj111 a1_0 a1_1 a1_2 a1_3 a1_4 a1_5 a1_6 l1_7).bind fun bt394 => ((impl_SpendCredits.f kj111 bt388.1 bt388.2 bt394.1 bt394.2.1 bt394.2.2.1 bt394.2.2.2.1 bt394.2.2.2.2.1 bt394.2.2.2.2.2.1 bt394.2.2.2.2.2.2.1 bt394.2.2.2.2.2.2.2).bind fun bt404 => ((laws_eqCredits.f kj111 bt404.1 bt404.2.1 t325 t328).bind fun t412 => (if t412 = true then (laws_FnExactSpendCredits.j2 kj111 t384 (bt404.2.2 != t331) t385 t386) else (laws_FnExactSpendCredits.j2 kj111 t384 true t385 t386)))))) else (some false)))) = some r := H
  have A163 := Aside0.mk A1630
  clear A1630
  replace H := Option.bind_eq_some_iff.mp H
  obtain ⟨t387, A1640, H⟩ := H
  have A164 := Aside0.mk A1640
  clear A1640
  by_cases c165 : t387 < 0
  ·rw [if_pos c165] at H
   have c165b0 : decide (t387 < 0) = true := decide_eq_true c165
   clear c165
   exact absurd (H.trans (congrArg some hrt.out)) (by simp)
  rw [if_neg c165] at H
  have c165b0 : decide (t387 < 0) = false := decide_eq_false c165
  clear c165
  by_cases c166 : t387 = t384
  rotate_left
  ·rw [if_neg c166] at H
   have c166b0 : (t387 == t384) = false := beq_eq_false_iff_ne.mpr c166
   have c166b1 : (t387 != t384) = true := bne_iff_ne.mpr c166
   exact absurd (H.trans (congrArg some hrt.out)) (by simp)
  rw [if_pos c166] at H
  have c166b0 : (t387 == t384) = true := beq_iff_eq.mpr c166
  have c166b1 : (t387 != t384) = false := bne_eq_false_iff_eq.mpr c166
  clear c166
  replace H := Option.bind_eq_some_iff.mp H
  obtain ⟨⟨t388, t391⟩, A1670, H⟩ := H
  replace H : ((laws_toPacket.f kj111 a1_0 a1_1 a1_2 a1_3 a1_4 a1_5 a1_6 l1_7).bind fun bt394 => ((impl_SpendCredits.f kj111 t388 t391 bt394.1 bt394.2.1 bt394.2.2.1 bt394.2.2.2.1 bt394.2.2.2.2.1 bt394.2.2.2.2.2.1 bt394.2.2.2.2.2.2.1 bt394.2.2.2.2.2.2.2).bind fun bt404 => ((laws_eqCredits.f kj111 bt404.1 bt404.2.1 t325 t328).bind fun t412 => (if t412 = true then (laws_FnExactSpendCredits.j2 kj111 t384 (bt404.2.2 != t331) t385 t386) else (laws_FnExactSpendCredits.j2 kj111 t384 true t385 t386))))) = some r := H
  have A167 := Aside0.mk A1670
  clear A1670
  replace H := Option.bind_eq_some_iff.mp H
  obtain ⟨⟨t394, t395, t396, t397, t398, t399, t400, t401⟩, A1680, H⟩ := H
  replace H : ((impl_SpendCredits.f kj111 t388 t391 t394 t395 t396 t397 t398 t399 t400 t401).bind fun bt404 => ((laws_eqCredits.f kj111 bt404.1 bt404.2.1 t325 t328).bind fun t412 => (if t412 = true then (laws_FnExactSpendCredits.j2 kj111 t384 (bt404.2.2 != t331) t385 t386) else (laws_FnExactSpendCredits.j2 kj111 t384 true t385 t386)))) = some r := H
  have A168 := Aside0.mk A1680
  clear A1680
  replace H := Option.bind_eq_some_iff.mp H
  obtain ⟨⟨t404, t407, t410⟩, A1690, H⟩ := H
  replace H : ((laws_eqCredits.f kj111 t404 t407 t325 t328).bind fun t412 => (if t412 = true then (laws_FnExactSpendCredits.j2 kj111 t384 (t410 != t331) t385 t386) else (laws_FnExactSpendCredits.j2 kj111 t384 true t385 t386))) = some r := H
  have A169 := Aside0.mk A1690
  clear A1690
  have HC170 := Aside0.mk H
  clear H
  have hnb171 := NB358_305.out
  have hnc171 := NB305_358.out
  have hnb172 := NB358_306.out
  have hnc172 := NB306_358.out
  have hnb173 := NB358_332.out
  have hnc173 := NB332_358.out
  have hnb174 := NB358_339.out
  have hnc174 := NB339_358.out
  have hnb175 := NB358_350.out
  have hnc175 := NB350_358.out
  obtain ⟨hcz176_0, hcz176_1, hfz176_0, hfz176_1⟩ := b2 BK358.out
  try go_wp2_with (first | ((with_reducible refine gate_callee (f := 32) rfl ?_); refine goesL_ (some 85) rfl rfl Try.func32 (by kernel_rfl) rfl #[.agg #[.slice Ao69 t351.length co69, .slice Ao76 t354.length co76], .int .i64 1] rfl (by (try simp only [List.map_toArray, List.map_cons, List.map_nil]); first | done | rfl) ?_; (with_reducible refine (laws_markCredits.calls kj111 (fun k_ => some k_ = (.slice Ao69 t351.length co69 : Value).ownBlock) (.slice Ao69 t351.length co69) t351 (fun k_ => some k_ = (.slice Ao76 t354.length co76 : Value).ownBlock) (.slice Ao76 t354.length co76) t354 1 t384 t385 t386 w _ ?side1 ?side2 ?side3 ?side4 ?side5 A163.out).mono ?_); (case side1 => repeat (first | (with_reducible first | exact HB.out | apply below_alloc | apply pw_below_drewN | apply below_drew1 | refine below_set ?_ GE305.out | refine below_set ?_ GE306.out | refine below_set ?_ GE332.out | refine below_set ?_ GE339.out | refine below_set ?_ GE350.out | refine below_set ?_ GE358.out) | exact HB.out)); (case side2 => exact Kd.R_tight rfl HO_359000.out); (case side3 => exact fun k_ e_ => (HO_359000.out.1 k_ e_.symm).2.2.2.2.2); (case side4 => exact Kd.R_tight rfl HO_359001.out); (case side5 => exact fun k_ e_ => (HO_359001.out.1 k_ e_.symm).2.2.2.2.2); rintro e w177 ⟨rfl, hy0, hy1, hb, hkp⟩; refine ⟨_, rfl, ?_⟩; have n0_ := Aside0.mk (Kd.R_mono (ok' := fun k_ => some k_ ≠ (.slice Ao44 t328.length co44 : Value).ownBlock ∧ some k_ ≠ (.slice Ao50 t379.length co50 : Value).ownBlock ∧ some k_ ≠ (.slice Ao55 t380.length co55 : Value).ownBlock ∧ some k_ ≠ (.slice Ao65 t382.length co65 : Value).ownBlock ∧ some k_ ≠ (.slice Ao69 t351.length co69 : Value).ownBlock ∧ some k_ ≠ (.slice Ao76 t354.length co76 : Value).ownBlock) (Kd.R_keptB (HO_333000.out) hkp (fun k_ hk_ hs_ => Or.elim hs_ (fun e_ => (hk_.2.2.2.2.1) e_) (fun e_ => (hk_.2.2.2.2.2) e_))) (fun k_ hk_ => ⟨hk_.1.1, hk_.1.2.1, hk_.1.2.2.1, hk_.1.2.2.2.1, hk_.1.2.2.2.2.1, hk_.1.2.2.2.2.2⟩)); have n1_ := Aside0.mk (Kd.R_mono (ok' := fun k_ => some k_ ≠ (.slice Ao42 t325.length co42 : Value).ownBlock ∧ some k_ ≠ (.slice Ao50 t379.length co50 : Value).ownBlock ∧ some k_ ≠ (.slice Ao55 t380.length co55 : Value).ownBlock ∧ some k_ ≠ (.slice Ao65 t382.length co65 : Value).ownBlock ∧ some k_ ≠ (.slice Ao69 t351.length co69 : Value).ownBlock ∧ some k_ ≠ (.slice Ao76 t354.length co76 : Value).ownBlock) (Kd.R_keptB (HO_333001.out) hkp (fun k_ hk_ hs_ => Or.elim hs_ (fun e_ => (hk_.2.2.2.2.1) e_) (fun e_ => (hk_.2.2.2.2.2) e_))) (fun k_ hk_ => ⟨hk_.1.1, hk_.1.2.1, hk_.1.2.2.1, hk_.1.2.2.2.1, hk_.1.2.2.2.2.1, hk_.1.2.2.2.2.2⟩)); have n2_ := Aside0.mk (Kd.R_mono (ok' := fun k_ => some k_ ≠ (.slice Ao42 t325.length co42 : Value).ownBlock ∧ some k_ ≠ (.slice Ao44 t328.length co44 : Value).ownBlock ∧ some k_ ≠ (.slice Ao55 t380.length co55 : Value).ownBlock ∧ some k_ ≠ (.slice Ao65 t382.length co65 : Value).ownBlock ∧ some k_ ≠ (.slice Ao69 t351.length co69 : Value).ownBlock ∧ some k_ ≠ (.slice Ao76 t354.length co76 : Value).ownBlock) (Kd.R_keptB (HO_340000.out) hkp (fun k_ hk_ hs_ => Or.elim hs_ (fun e_ => (hk_.2.2.2.2.1) e_) (fun e_ => (hk_.2.2.2.2.2) e_))) (fun k_ hk_ => ⟨hk_.1.1, hk_.1.2.1, hk_.1.2.2.1, hk_.1.2.2.2.1, hk_.1.2.2.2.2.1, hk_.1.2.2.2.2.2⟩)); have n3_ := Aside0.mk (Kd.R_mono (ok' := fun k_ => some k_ ≠ (.slice Ao42 t325.length co42 : Value).ownBlock ∧ some k_ ≠ (.slice Ao44 t328.length co44 : Value).ownBlock ∧ some k_ ≠ (.slice Ao50 t379.length co50 : Value).ownBlock ∧ some k_ ≠ (.slice Ao65 t382.length co65 : Value).ownBlock ∧ some k_ ≠ (.slice Ao69 t351.length co69 : Value).ownBlock ∧ some k_ ≠ (.slice Ao76 t354.length co76 : Value).ownBlock) (Kd.R_keptB (HO_340001.out) hkp (fun k_ hk_ hs_ => Or.elim hs_ (fun e_ => (hk_.2.2.2.2.1) e_) (fun e_ => (hk_.2.2.2.2.2) e_))) (fun k_ hk_ => ⟨hk_.1.1, hk_.1.2.1, hk_.1.2.2.1, hk_.1.2.2.2.1, hk_.1.2.2.2.2.1, hk_.1.2.2.2.2.2⟩)); have n4_ := Aside0.mk (Kd.R_mono (ok' := fun k_ => some k_ ≠ (.slice Ao42 t325.length co42 : Value).ownBlock ∧ some k_ ≠ (.slice Ao44 t328.length co44 : Value).ownBlock ∧ some k_ ≠ (.slice Ao50 t379.length co50 : Value).ownBlock ∧ some k_ ≠ (.slice Ao55 t380.length co55 : Value).ownBlock ∧ some k_ ≠ (.slice Ao69 t351.length co69 : Value).ownBlock ∧ some k_ ≠ (.slice Ao76 t354.length co76 : Value).ownBlock) (Kd.R_keptB (HO_351007.out) hkp (fun k_ hk_ hs_ => Or.elim hs_ (fun e_ => (hk_.2.2.2.2.1) e_) (fun e_ => (hk_.2.2.2.2.2) e_))) (fun k_ hk_ => ⟨hk_.1.1, hk_.1.2.1, hk_.1.2.2.1, hk_.1.2.2.2.1, hk_.1.2.2.2.2.1, hk_.1.2.2.2.2.2⟩)); have n5_ := Aside0.mk (Kd.R_reok rfl hy0 (fun k_ e_ => HO_359000.out.1 k_ e_)); have n6_ := Aside0.mk (Kd.R_reok rfl hy1 (fun k_ e_ => HO_359001.out.1 k_ e_)); have n7_ := Aside0.mk (blk_kept (bY BK305.out) hkp (fun hs_ => Or.elim hs_ (fun e_ => (fun e_ => (Kd.R_ne HO_359000.out BK305.out (by decide)) e_) e_) (fun e_ => (fun e_ => (Kd.R_ne HO_359001.out BK305.out (by decide)) e_) e_))); have n8_ := Aside0.mk (blk_kept (bY BK306.out) hkp (fun hs_ => Or.elim hs_ (fun e_ => (fun e_ => (Kd.R_ne HO_359000.out BK306.out (by decide)) e_) e_) (fun e_ => (fun e_ => (Kd.R_ne HO_359001.out BK306.out (by decide)) e_) e_))); have n9_ := Aside0.mk (blk_kept (bY BK332.out) hkp (fun hs_ => Or.elim hs_ (fun e_ => (fun e_ => (Kd.R_ne HO_359000.out BK332.out (by decide)) e_) e_) (fun e_ => (fun e_ => (Kd.R_ne HO_359001.out BK332.out (by decide)) e_) e_))); have n10_ := Aside0.mk (blk_kept (bY BK339.out) hkp (fun hs_ => Or.elim hs_ (fun e_ => (fun e_ => (Kd.R_ne HO_359000.out BK339.out (by decide)) e_) e_) (fun e_ => (fun e_ => (Kd.R_ne HO_359001.out BK339.out (by decide)) e_) e_))); have n11_ := Aside0.mk (blk_kept (bY BK350.out) hkp (fun hs_ => Or.elim hs_ (fun e_ => (fun e_ => (Kd.R_ne HO_359000.out BK350.out (by decide)) e_) e_) (fun e_ => (fun e_ => (Kd.R_ne HO_359001.out BK350.out (by decide)) e_) e_))); have n12_ := Aside0.mk (blk_kept (bY BK358.out) hkp (fun hs_ => Or.elim hs_ (fun e_ => (fun e_ => (Kd.R_ne HO_359000.out BK358.out (by decide)) e_) e_) (fun e_ => (fun e_ => (Kd.R_ne HO_359001.out BK358.out (by decide)) e_) e_))); have n13_ := Aside0.mk (hb); clear HO_333000; clear HO_333001; clear HO_340000; clear HO_340001; clear HO_351007; clear HO_359000; clear HO_359001; clear BK305; clear BK306; clear BK332; clear BK339; clear BK350; clear BK358; clear HB; have HO_333000 := n0_; have HO_333001 := n1_; have HO_340000 := n2_; have HO_340001 := n3_; have HO_351007 := n4_; have HO_359000 := n5_; have HO_359001 := n6_; have BK305 := n7_; have BK306 := n8_; have BK332 := n9_; have BK339 := n10_; have BK350 := n11_; have BK358 := n12_; have HB := n13_; clear n0_ n1_ n2_ n3_ n4_ n5_ n6_ n7_ n8_ n9_ n10_ n11_ n12_ n13_; (try clear hb); (try clear hkp); (try clear hy0); (try clear hy1); have hcz178_0 : w177.cell? ⟨gb358, 0, none⟩ = some (.slice Ao69 t351.length co69) := (blk_cell BK358.out 0).trans rfl; have hcz178_1 : w177.cell? ⟨gb358, 1, none⟩ = some (.slice Ao76 t354.length co76) := (blk_cell BK358.out 1).trans rfl; have hfz178_0 := blk_frozen BK358.out 0; have hfz178_1 := blk_frozen BK358.out 1) | ((with_reducible refine gate_callee (f := 59) rfl ?_); refine goesL_ (some 88) rfl rfl Try.func59 (by kernel_rfl) rfl #[.agg #[.slice Ao69 t385.length co69, .slice Ao76 t386.length co76], .int .i64 1] rfl (by (try simp only [List.map_toArray, List.map_cons, List.map_nil]); first | done | (rw [show t385.length = t351.length from (Kd.R_reads' HO_359000.out).1.symm, show t386.length = t354.length from (Kd.R_reads' HO_359001.out).1.symm] <;> rfl) | rfl | (simp only [List.length_drop, List.length_take]; rfl)) ?_; (with_reducible refine (laws_heldCredits.calls kj111 _ _ t385 _ _ t386 1 t387 _ ?side1 ?side2 ?side3 ?side4 A164.out).mono ?_); (case side1 => exact cY ((Kd.R_reads' HO_359000.out).2.2)); (case side2 => rw [show t385.length = t351.length from (Kd.R_reads' HO_359000.out).1.symm]; exact (Kd.R_reads' HO_359000.out).2.1); (case side3 => exact cY ((Kd.R_reads' HO_359001.out).2.2)); (case side4 => rw [show t386.length = t354.length from (Kd.R_reads' HO_359001.out).1.symm]; exact (Kd.R_reads' HO_359001.out).2.1); rintro e w179 ⟨rfl, hb⟩; refine ⟨_, rfl, ?_⟩; have n0_ := Aside0.mk (Kd.R_below (rY HO_333000.out) hb); have n1_ := Aside0.mk (Kd.R_below (rY HO_333001.out) hb); have n2_ := Aside0.mk (Kd.R_below (rY HO_340000.out) hb); have n3_ := Aside0.mk (Kd.R_below (rY HO_340001.out) hb); have n4_ := Aside0.mk (Kd.R_below (rY HO_351007.out) hb); have n5_ := Aside0.mk (Kd.R_below (rY HO_359000.out) hb); have n6_ := Aside0.mk (Kd.R_below (rY HO_359001.out) hb); have n7_ := Aside0.mk (blk_below (bY BK305.out) hb); have n8_ := Aside0.mk (blk_below (bY BK306.out) hb); have n9_ := Aside0.mk (blk_below (bY BK332.out) hb); have n10_ := Aside0.mk (blk_below (bY BK339.out) hb); have n11_ := Aside0.mk (blk_below (bY BK350.out) hb); have n12_ := Aside0.mk (blk_below (bY BK358.out) hb); have n13_ := Aside0.mk (below_step (by repeat (first | (with_reducible first | exact HB.out | apply below_alloc | apply pw_below_drewN | apply below_drew1 | refine below_set ?_ GE305.out | refine below_set ?_ GE306.out | refine below_set ?_ GE332.out | refine below_set ?_ GE339.out | refine below_set ?_ GE350.out | refine below_set ?_ GE358.out) | exact HB.out)) hb); clear HO_333000; clear HO_333001; clear HO_340000; clear HO_340001; clear HO_351007; clear HO_359000; clear HO_359001; clear BK305; clear BK306; clear BK332; clear BK339; clear BK350; clear BK358; clear HB; have HO_333000 := n0_; have HO_333001 := n1_; have HO_340000 := n2_; have HO_340001 := n3_; have HO_351007 := n4_; have HO_359000 := n5_; have HO_359001 := n6_; have BK305 := n7_; have BK306 := n8_; have BK332 := n9_; have BK339 := n10_; have BK350 := n11_; have BK358 := n12_; have HB := n13_; clear n0_ n1_ n2_ n3_ n4_ n5_ n6_ n7_ n8_ n9_ n10_ n11_ n12_ n13_; (try clear hb); (try clear hb2); (try clear hk); (try clear hi)))
  have n0_ := Aside0.mk (Kd.R_drew HO_333000.out)
  have n1_ := Aside0.mk (Kd.R_drew HO_333001.out)
  have n2_ := Aside0.mk (Kd.R_drew HO_340000.out)
  have n3_ := Aside0.mk (Kd.R_drew HO_340001.out)
  have n4_ := Aside0.mk (Kd.R_drew HO_351007.out)
  have n5_ := Aside0.mk (Kd.R_drew HO_359000.out)
  have n6_ := Aside0.mk (Kd.R_drew HO_359001.out)
  have n7_ := Aside0.mk (blk_drew BK305.out)
  have n8_ := Aside0.mk (blk_drew BK306.out)
  have n9_ := Aside0.mk (blk_drew BK332.out)
  have n10_ := Aside0.mk (blk_drew BK339.out)
  have n11_ := Aside0.mk (blk_drew BK350.out)
  have n12_ := Aside0.mk (blk_drew BK358.out)
  have n13_ := Aside0.mk (below_drew1 HB.out)
  clear HO_333000
  clear HO_333001
  clear HO_340000
  clear HO_340001
  clear HO_351007
  clear HO_359000
  clear HO_359001
  clear BK305
  clear BK306
  clear BK332
  clear BK339
  clear BK350
  clear BK358
  clear HB
  have HO_333000 := n0_
  have HO_333001 := n1_
  have HO_340000 := n2_
  have HO_340001 := n3_
  have HO_351007 := n4_
  have HO_359000 := n5_
  have HO_359001 := n6_
  have BK305 := n7_
  have BK306 := n8_
  have BK332 := n9_
  have BK339 := n10_
  have BK350 := n11_
  have BK358 := n12_
  have HB := n13_
  clear n0_ n1_ n2_ n3_ n4_ n5_ n6_ n7_ n8_ n9_ n10_ n11_ n12_ n13_
  refine start_ (n := 11) (S := fun w' => w'.cell? ⟨gb305, 0, none⟩ = some (.slice A0_0 l0_0.length c0_0) ∧ w'.cell? ⟨gb305, 1, none⟩ = some (.slice A0_1 l0_1.length c0_1) ∧ w'.cell? ⟨gb306, 0, none⟩ = some (.int .i64 a1_0) ∧ w'.cell? ⟨gb306, 1, none⟩ = some (.int .i64 a1_1) ∧ w'.cell? ⟨gb306, 2, none⟩ = some (.int .i64 a1_2) ∧ w'.cell? ⟨gb306, 3, none⟩ = some (.int .i64 a1_3) ∧ w'.cell? ⟨gb306, 4, none⟩ = some (.int .i64 a1_4) ∧ w'.cell? ⟨gb306, 5, none⟩ = some (.int .i64 a1_5) ∧ w'.cell? ⟨gb306, 6, none⟩ = some (.int .i64 a1_6) ∧ w'.cell? ⟨gb306, 7, none⟩ = some (.slice A1_7 l1_7.length c1_7)) (ds := []) #[F, F, F, F, F, F, F, F, F, F, F] (by kernel_rfl) rfl rfl ⟨(blk_cell BK305.out 0).trans rfl, (blk_cell BK305.out 1).trans rfl, (blk_cell BK306.out 0).trans rfl, (blk_cell BK306.out 1).trans rfl, (blk_cell BK306.out 2).trans rfl, (blk_cell BK306.out 3).trans rfl, (blk_cell BK306.out 4).trans rfl, (blk_cell BK306.out 5).trans rfl, (blk_cell BK306.out 6).trans rfl, (blk_cell BK306.out 7).trans rfl⟩ (fun hHeld => ?_); refine with_tabW laws_FnExactSpendCredits.tab31 laws_FnExactSpendCredits.bits31 (fun HT_ HW_ => ?_)
  generalize w179.drew = w180 at HO_333000 HO_333001 HO_340000 HO_340001 HO_351007 HO_359000 HO_359001 BK305 BK306 BK332 BK339 BK350 BK358 HB hHeld ⊢
  refine take_ (i := 0) (N := some 95) (v := ?_) (a' := ?_) #[T, F, F, F, F, F, F, F, F, F, F] rfl rfl (take_ofW HT_.out HW_.out (by kernel_rfl)) (fun _ _ _ h => h) (Or.inl ⟨by rfl, ?_⟩) hHeld ?_ ?_
  rotate_left
  ·rintro w' ⟨s0, s1, s2, s3, s4, s5, s6, s7, s8, s9⟩
   go_simp
   with_reducible rfl
  rotate_left
  ·simp only [pS]
   rfl
  refine take_ (i := 2) (N := some 97) (v := ?_) (a' := ?_) #[T, F, T, F, F, F, F, F, F, F, F] rfl rfl (take_ofW HT_.out HW_.out (by kernel_rfl)) (fun _ _ _ h => h) (Or.inl ⟨by rfl, ?_⟩) hHeld ?_ ?_
  rotate_left
  ·rintro w' ⟨s0, s1, s2, s3, s4, s5, s6, s7, s8, s9⟩
   go_simp
   with_reducible rfl
  rotate_left
  ·simp only [pS]
   rfl
  refine join_ (σ := Value × Value × Value × Value × Value × Nat) 2 #[T, T, T, T, T, T, T, T, T, F, F] (fun s_ => [(96, .agg #[s_.1, s_.2.1]), (98, .agg #[.int .i64 t394, .int .i64 t395, .int .i64 t396, .int .i64 t397, .int .i64 t398, .int .i64 t399, .int .i64 t400, s_.2.2.1]), (99, .tuple #[.agg #[s_.2.2.2.1, s_.2.2.2.2.1], .bool t410]), (15, .pointer (some ⟨s_.2.2.2.2.2, 0, none⟩)), (94, .tuple #[.agg #[s_.2.2.2.1, s_.2.2.2.2.1], .bool t410]), (100, .agg #[s_.2.2.2.1, s_.2.2.2.2.1]), (101, .bool t410)]) (fun s_ w' => (w'.cell? ⟨gb305, 0, none⟩ = some (.slice A0_0 l0_0.length c0_0) ∧ w'.cell? ⟨gb305, 1, none⟩ = some (.slice A0_1 l0_1.length c0_1) ∧ w'.cell? ⟨gb306, 0, none⟩ = some (.int .i64 a1_0) ∧ w'.cell? ⟨gb306, 1, none⟩ = some (.int .i64 a1_1) ∧ w'.cell? ⟨gb306, 2, none⟩ = some (.int .i64 a1_2) ∧ w'.cell? ⟨gb306, 3, none⟩ = some (.int .i64 a1_3) ∧ w'.cell? ⟨gb306, 4, none⟩ = some (.int .i64 a1_4) ∧ w'.cell? ⟨gb306, 5, none⟩ = some (.int .i64 a1_5) ∧ w'.cell? ⟨gb306, 6, none⟩ = some (.int .i64 a1_6) ∧ w'.cell? ⟨gb306, 7, none⟩ = some (.slice A1_7 l1_7.length c1_7)) ∧ (Kd.R (Kd.int .i64) 3 w' w.heap.size (fun k_ => some k_ ≠ (s_.2.1 : Value).ownBlock ∧ some k_ ≠ (s_.2.2.1 : Value).ownBlock ∧ some k_ ≠ (s_.2.2.2.1 : Value).ownBlock ∧ some k_ ≠ (s_.2.2.2.2.1 : Value).ownBlock ∧ some k_ ≠ (.slice Ao42 t325.length co42 : Value).ownBlock ∧ some k_ ≠ (.slice Ao44 t328.length co44 : Value).ownBlock ∧ some k_ ≠ (.slice Ao50 t379.length co50 : Value).ownBlock ∧ some k_ ≠ (.slice Ao55 t380.length co55 : Value).ownBlock ∧ some k_ ≠ (.slice Ao65 t382.length co65 : Value).ownBlock ∧ some k_ ≠ (.slice Ao69 t351.length co69 : Value).ownBlock ∧ some k_ ≠ (.slice Ao76 t354.length co76 : Value).ownBlock) s_.1 t388) ∧ (Kd.R (Kd.int .i64) 3 w' w.heap.size (fun k_ => some k_ ≠ (s_.1 : Value).ownBlock ∧ some k_ ≠ (s_.2.2.1 : Value).ownBlock ∧ some k_ ≠ (s_.2.2.2.1 : Value).ownBlock ∧ some k_ ≠ (s_.2.2.2.2.1 : Value).ownBlock ∧ some k_ ≠ (.slice Ao42 t325.length co42 : Value).ownBlock ∧ some k_ ≠ (.slice Ao44 t328.length co44 : Value).ownBlock ∧ some k_ ≠ (.slice Ao50 t379.length co50 : Value).ownBlock ∧ some k_ ≠ (.slice Ao55 t380.length co55 : Value).ownBlock ∧ some k_ ≠ (.slice Ao65 t382.length co65 : Value).ownBlock ∧ some k_ ≠ (.slice Ao69 t351.length co69 : Value).ownBlock ∧ some k_ ≠ (.slice Ao76 t354.length co76 : Value).ownBlock) s_.2.1 t391) ∧ (Kd.R (Kd.int .i64) 3 w' w.heap.size (fun k_ => some k_ ≠ (s_.1 : Value).ownBlock ∧ some k_ ≠ (s_.2.1 : Value).ownBlock ∧ some k_ ≠ (s_.2.2.2.1 : Value).ownBlock ∧ some k_ ≠ (s_.2.2.2.2.1 : Value).ownBlock ∧ some k_ ≠ (.slice Ao42 t325.length co42 : Value).ownBlock ∧ some k_ ≠ (.slice Ao44 t328.length co44 : Value).ownBlock ∧ some k_ ≠ (.slice Ao50 t379.length co50 : Value).ownBlock ∧ some k_ ≠ (.slice Ao55 t380.length co55 : Value).ownBlock ∧ some k_ ≠ (.slice Ao65 t382.length co65 : Value).ownBlock ∧ some k_ ≠ (.slice Ao69 t351.length co69 : Value).ownBlock ∧ some k_ ≠ (.slice Ao76 t354.length co76 : Value).ownBlock) s_.2.2.1 t401) ∧ (Kd.R (Kd.int .i64) 3 w' w.heap.size (fun k_ => some k_ ≠ (s_.1 : Value).ownBlock ∧ some k_ ≠ (s_.2.1 : Value).ownBlock ∧ some k_ ≠ (s_.2.2.1 : Value).ownBlock ∧ some k_ ≠ (s_.2.2.2.2.1 : Value).ownBlock ∧ some k_ ≠ (.slice Ao42 t325.length co42 : Value).ownBlock ∧ some k_ ≠ (.slice Ao44 t328.length co44 : Value).ownBlock ∧ some k_ ≠ (.slice Ao50 t379.length co50 : Value).ownBlock ∧ some k_ ≠ (.slice Ao55 t380.length co55 : Value).ownBlock ∧ some k_ ≠ (.slice Ao65 t382.length co65 : Value).ownBlock ∧ some k_ ≠ (.slice Ao69 t351.length co69 : Value).ownBlock ∧ some k_ ≠ (.slice Ao76 t354.length co76 : Value).ownBlock) s_.2.2.2.1 t404) ∧ (Kd.R (Kd.int .i64) 3 w' w.heap.size (fun k_ => some k_ ≠ (s_.1 : Value).ownBlock ∧ some k_ ≠ (s_.2.1 : Value).ownBlock ∧ some k_ ≠ (s_.2.2.1 : Value).ownBlock ∧ some k_ ≠ (s_.2.2.2.1 : Value).ownBlock ∧ some k_ ≠ (.slice Ao42 t325.length co42 : Value).ownBlock ∧ some k_ ≠ (.slice Ao44 t328.length co44 : Value).ownBlock ∧ some k_ ≠ (.slice Ao50 t379.length co50 : Value).ownBlock ∧ some k_ ≠ (.slice Ao55 t380.length co55 : Value).ownBlock ∧ some k_ ≠ (.slice Ao65 t382.length co65 : Value).ownBlock ∧ some k_ ≠ (.slice Ao69 t351.length co69 : Value).ownBlock ∧ some k_ ≠ (.slice Ao76 t354.length co76 : Value).ownBlock) s_.2.2.2.2.1 t407) ∧ (Kd.R (Kd.int .i64) 3 w' w.heap.size (fun k_ => some k_ ≠ (s_.1 : Value).ownBlock ∧ some k_ ≠ (s_.2.1 : Value).ownBlock ∧ some k_ ≠ (s_.2.2.1 : Value).ownBlock ∧ some k_ ≠ (s_.2.2.2.1 : Value).ownBlock ∧ some k_ ≠ (s_.2.2.2.2.1 : Value).ownBlock ∧ some k_ ≠ (.slice Ao44 t328.length co44 : Value).ownBlock ∧ some k_ ≠ (.slice Ao50 t379.length co50 : Value).ownBlock ∧ some k_ ≠ (.slice Ao55 t380.length co55 : Value).ownBlock ∧ some k_ ≠ (.slice Ao65 t382.length co65 : Value).ownBlock ∧ some k_ ≠ (.slice Ao69 t351.length co69 : Value).ownBlock ∧ some k_ ≠ (.slice Ao76 t354.length co76 : Value).ownBlock) (.slice Ao42 t325.length co42) t325) ∧ (Kd.R (Kd.int .i64) 3 w' w.heap.size (fun k_ => some k_ ≠ (s_.1 : Value).ownBlock ∧ some k_ ≠ (s_.2.1 : Value).ownBlock ∧ some k_ ≠ (s_.2.2.1 : Value).ownBlock ∧ some k_ ≠ (s_.2.2.2.1 : Value).ownBlock ∧ some k_ ≠ (s_.2.2.2.2.1 : Value).ownBlock ∧ some k_ ≠ (.slice Ao42 t325.length co42 : Value).ownBlock ∧ some k_ ≠ (.slice Ao50 t379.length co50 : Value).ownBlock ∧ some k_ ≠ (.slice Ao55 t380.length co55 : Value).ownBlock ∧ some k_ ≠ (.slice Ao65 t382.length co65 : Value).ownBlock ∧ some k_ ≠ (.slice Ao69 t351.length co69 : Value).ownBlock ∧ some k_ ≠ (.slice Ao76 t354.length co76 : Value).ownBlock) (.slice Ao44 t328.length co44) t328) ∧ (Kd.R (Kd.int .i64) 3 w' w.heap.size (fun k_ => some k_ ≠ (s_.1 : Value).ownBlock ∧ some k_ ≠ (s_.2.1 : Value).ownBlock ∧ some k_ ≠ (s_.2.2.1 : Value).ownBlock ∧ some k_ ≠ (s_.2.2.2.1 : Value).ownBlock ∧ some k_ ≠ (s_.2.2.2.2.1 : Value).ownBlock ∧ some k_ ≠ (.slice Ao42 t325.length co42 : Value).ownBlock ∧ some k_ ≠ (.slice Ao44 t328.length co44 : Value).ownBlock ∧ some k_ ≠ (.slice Ao55 t380.length co55 : Value).ownBlock ∧ some k_ ≠ (.slice Ao65 t382.length co65 : Value).ownBlock ∧ some k_ ≠ (.slice Ao69 t351.length co69 : Value).ownBlock ∧ some k_ ≠ (.slice Ao76 t354.length co76 : Value).ownBlock) (.slice Ao50 t379.length co50) t379) ∧ (Kd.R (Kd.int .i64) 3 w' w.heap.size (fun k_ => some k_ ≠ (s_.1 : Value).ownBlock ∧ some k_ ≠ (s_.2.1 : Value).ownBlock ∧ some k_ ≠ (s_.2.2.1 : Value).ownBlock ∧ some k_ ≠ (s_.2.2.2.1 : Value).ownBlock ∧ some k_ ≠ (s_.2.2.2.2.1 : Value).ownBlock ∧ some k_ ≠ (.slice Ao42 t325.length co42 : Value).ownBlock ∧ some k_ ≠ (.slice Ao44 t328.length co44 : Value).ownBlock ∧ some k_ ≠ (.slice Ao50 t379.length co50 : Value).ownBlock ∧ some k_ ≠ (.slice Ao65 t382.length co65 : Value).ownBlock ∧ some k_ ≠ (.slice Ao69 t351.length co69 : Value).ownBlock ∧ some k_ ≠ (.slice Ao76 t354.length co76 : Value).ownBlock) (.slice Ao55 t380.length co55) t380) ∧ (Kd.R (Kd.int .i64) 3 w' w.heap.size (fun k_ => some k_ ≠ (s_.1 : Value).ownBlock ∧ some k_ ≠ (s_.2.1 : Value).ownBlock ∧ some k_ ≠ (s_.2.2.1 : Value).ownBlock ∧ some k_ ≠ (s_.2.2.2.1 : Value).ownBlock ∧ some k_ ≠ (s_.2.2.2.2.1 : Value).ownBlock ∧ some k_ ≠ (.slice Ao42 t325.length co42 : Value).ownBlock ∧ some k_ ≠ (.slice Ao44 t328.length co44 : Value).ownBlock ∧ some k_ ≠ (.slice Ao50 t379.length co50 : Value).ownBlock ∧ some k_ ≠ (.slice Ao55 t380.length co55 : Value).ownBlock ∧ some k_ ≠ (.slice Ao69 t351.length co69 : Value).ownBlock ∧ some k_ ≠ (.slice Ao76 t354.length co76 : Value).ownBlock) (.slice Ao65 t382.length co65) t382) ∧ (Kd.R (Kd.int .i64) 3 w' w.heap.size (fun k_ => some k_ ≠ (s_.1 : Value).ownBlock ∧ some k_ ≠ (s_.2.1 : Value).ownBlock ∧ some k_ ≠ (s_.2.2.1 : Value).ownBlock ∧ some k_ ≠ (s_.2.2.2.1 : Value).ownBlock ∧ some k_ ≠ (s_.2.2.2.2.1 : Value).ownBlock ∧ some k_ ≠ (.slice Ao42 t325.length co42 : Value).ownBlock ∧ some k_ ≠ (.slice Ao44 t328.length co44 : Value).ownBlock ∧ some k_ ≠ (.slice Ao50 t379.length co50 : Value).ownBlock ∧ some k_ ≠ (.slice Ao55 t380.length co55 : Value).ownBlock ∧ some k_ ≠ (.slice Ao65 t382.length co65 : Value).ownBlock ∧ some k_ ≠ (.slice Ao76 t354.length co76 : Value).ownBlock) (.slice Ao69 t351.length co69) t385) ∧ (Kd.R (Kd.int .i64) 3 w' w.heap.size (fun k_ => some k_ ≠ (s_.1 : Value).ownBlock ∧ some k_ ≠ (s_.2.1 : Value).ownBlock ∧ some k_ ≠ (s_.2.2.1 : Value).ownBlock ∧ some k_ ≠ (s_.2.2.2.1 : Value).ownBlock ∧ some k_ ≠ (s_.2.2.2.2.1 : Value).ownBlock ∧ some k_ ≠ (.slice Ao42 t325.length co42 : Value).ownBlock ∧ some k_ ≠ (.slice Ao44 t328.length co44 : Value).ownBlock ∧ some k_ ≠ (.slice Ao50 t379.length co50 : Value).ownBlock ∧ some k_ ≠ (.slice Ao55 t380.length co55 : Value).ownBlock ∧ some k_ ≠ (.slice Ao65 t382.length co65 : Value).ownBlock ∧ some k_ ≠ (.slice Ao69 t351.length co69 : Value).ownBlock) (.slice Ao76 t354.length co76) t386) ∧ (w'.heap[gb305]? = some (.cells #[.slice A0_0 l0_0.length c0_0, .slice A0_1 l0_1.length c0_1] 24 (0, 0))) ∧ (w'.heap[gb306]? = some (.cells #[.int .i64 a1_0, .int .i64 a1_1, .int .i64 a1_2, .int .i64 a1_3, .int .i64 a1_4, .int .i64 a1_5, .int .i64 a1_6, .slice A1_7 l1_7.length c1_7] 32 (0, 0))) ∧ (w'.heap[gb332]? = some (.cells #[.slice Ao42 t325.length co42, .slice Ao44 t328.length co44] 27 (0, 0))) ∧ (w'.heap[gb339]? = some (.cells #[.slice Ao50 t379.length co50, .slice Ao55 t380.length co55] 27 (0, 0))) ∧ (w'.heap[gb350]? = some (.cells #[.int .i64 t340, .int .i64 t341, .int .i64 t342, .int .i64 t343, .int .i64 t344, .int .i64 t345, .int .i64 t346, .slice Ao65 t382.length co65] 35 (0, 0))) ∧ (w'.heap[gb358]? = some (.cells #[.slice Ao69 t351.length co69, .slice Ao76 t354.length co76] 27 (0, 0))) ∧ (w'.heap[s_.2.2.2.2.2]? = some (.cells #[.slice none 0 0, .slice none 0 0] 27 (0, 0))) ∧ (w.heap.size ≤ s_.2.2.2.2.2) ∧ (w.heap.size ≤ s_.2.2.2.2.2) ∧ (gb305 ≠ s_.2.2.2.2.2) ∧ (s_.2.2.2.2.2 ≠ gb305) ∧ (gb306 ≠ s_.2.2.2.2.2) ∧ (s_.2.2.2.2.2 ≠ gb306) ∧ (gb332 ≠ s_.2.2.2.2.2) ∧ (s_.2.2.2.2.2 ≠ gb332) ∧ (gb339 ≠ s_.2.2.2.2.2) ∧ (s_.2.2.2.2.2 ≠ gb339) ∧ (gb350 ≠ s_.2.2.2.2.2) ∧ (s_.2.2.2.2.2 ≠ gb350) ∧ (gb358 ≠ s_.2.2.2.2.2) ∧ (s_.2.2.2.2.2 ≠ gb358) ∧ (Below w.heap.size w w')) ?_ ?_
  rotate_left
  ·intro hCont
   refine two_ (i := 1) (j := 8) (Ni := some 96) (Nj := some 15) #[T, T, T, F, F, F, F, F, F, F, F] #[T, F, T, F, F, F, F, F, T, F, F] rfl rfl rfl rfl (two_of HT_.out (by kernel_rfl)) (by decide) (by decide) (fun K hK => ?_) (fun K hK => ?_)
   ·skip
    refine goes_ Try.func17 (by kernel_rfl) rfl #[.agg #[.slice A0_0 l0_0.length c0_0, .slice A0_1 l0_1.length c0_1]] (by rfl) rfl rfl (by (try simp only [List.map_toArray, List.map_cons, List.map_nil]); first | done | rfl) ?_
    with_reducible refine (laws_toCredits.calls kj111 _ _ l0_0 _ _ l0_1 t388 t391 _ ?side1 ?side2 ?side3 ?side4 A167.out).mono ?_
    (case side1 => exact cY ((Kd.C_below HR0_0.out HB.out)))
    (case side2 => exact HC0_0.out)
    (case side3 => exact cY ((Kd.C_below HR0_1.out HB.out)))
    (case side4 => exact HC0_1.out)
    rintro e w181 ⟨v389, v392, rfl, ho0, ho1, hb⟩
    refine ⟨_, rfl, ?_⟩
    have n0_ := Aside0.mk (Kd.R_mono (Kd.R_told (Kd.R_told (Kd.R_old (rY HO_333000.out) hb) (Kd.R_base ho0)) (Kd.R_base ho1)) (fun _ h_ => h_.1))
    have n1_ := Aside0.mk (Kd.R_mono (Kd.R_told (Kd.R_told (Kd.R_old (rY HO_333001.out) hb) (Kd.R_base ho0)) (Kd.R_base ho1)) (fun _ h_ => h_.1))
    have n2_ := Aside0.mk (Kd.R_mono (Kd.R_told (Kd.R_told (Kd.R_old (rY HO_340000.out) hb) (Kd.R_base ho0)) (Kd.R_base ho1)) (fun _ h_ => h_.1))
    have n3_ := Aside0.mk (Kd.R_mono (Kd.R_told (Kd.R_told (Kd.R_old (rY HO_340001.out) hb) (Kd.R_base ho0)) (Kd.R_base ho1)) (fun _ h_ => h_.1))
    have n4_ := Aside0.mk (Kd.R_mono (Kd.R_told (Kd.R_told (Kd.R_old (rY HO_351007.out) hb) (Kd.R_base ho0)) (Kd.R_base ho1)) (fun _ h_ => h_.1))
    have n5_ := Aside0.mk (Kd.R_mono (Kd.R_told (Kd.R_told (Kd.R_old (rY HO_359000.out) hb) (Kd.R_base ho0)) (Kd.R_base ho1)) (fun _ h_ => h_.1))
    have n6_ := Aside0.mk (Kd.R_mono (Kd.R_told (Kd.R_told (Kd.R_old (rY HO_359001.out) hb) (Kd.R_base ho0)) (Kd.R_base ho1)) (fun _ h_ => h_.1))
    have n7_ := Aside0.mk (Kd.R_lower (Kd.R_new' (Kd.R_new' (Kd.R_new' (Kd.R_new' (Kd.R_new' (Kd.R_new' (Kd.R_new' ho0 (Kd.R_lt (rY HO_333000.out))) (Kd.R_lt (rY HO_333001.out))) (Kd.R_lt (rY HO_340000.out))) (Kd.R_lt (rY HO_340001.out))) (Kd.R_lt (rY HO_351007.out))) (Kd.R_lt (rY HO_359000.out))) (Kd.R_lt (rY HO_359001.out))) (below_size (by repeat (first | (with_reducible first | exact HB.out | apply below_alloc | apply pw_below_drewN | apply below_drew1 | refine below_set ?_ GE305.out | refine below_set ?_ GE306.out | refine below_set ?_ GE332.out | refine below_set ?_ GE339.out | refine below_set ?_ GE350.out | refine below_set ?_ GE358.out) | exact HB.out))))
    have n8_ := Aside0.mk (Kd.R_lower (Kd.R_new' (Kd.R_new' (Kd.R_new' (Kd.R_new' (Kd.R_new' (Kd.R_new' (Kd.R_new' ho1 (Kd.R_lt (rY HO_333000.out))) (Kd.R_lt (rY HO_333001.out))) (Kd.R_lt (rY HO_340000.out))) (Kd.R_lt (rY HO_340001.out))) (Kd.R_lt (rY HO_351007.out))) (Kd.R_lt (rY HO_359000.out))) (Kd.R_lt (rY HO_359001.out))) (below_size (by repeat (first | (with_reducible first | exact HB.out | apply below_alloc | apply pw_below_drewN | apply below_drew1 | refine below_set ?_ GE305.out | refine below_set ?_ GE306.out | refine below_set ?_ GE332.out | refine below_set ?_ GE339.out | refine below_set ?_ GE350.out | refine below_set ?_ GE358.out) | exact HB.out))))
    have n9_ := Aside0.mk (blk_below (bY BK305.out) hb)
    have n10_ := Aside0.mk (blk_below (bY BK306.out) hb)
    have n11_ := Aside0.mk (blk_below (bY BK332.out) hb)
    have n12_ := Aside0.mk (blk_below (bY BK339.out) hb)
    have n13_ := Aside0.mk (blk_below (bY BK350.out) hb)
    have n14_ := Aside0.mk (blk_below (bY BK358.out) hb)
    have n15_ := Aside0.mk (below_step (by repeat (first | (with_reducible first | exact HB.out | apply below_alloc | apply pw_below_drewN | apply below_drew1 | refine below_set ?_ GE305.out | refine below_set ?_ GE306.out | refine below_set ?_ GE332.out | refine below_set ?_ GE339.out | refine below_set ?_ GE350.out | refine below_set ?_ GE358.out) | exact HB.out)) hb)
    clear HO_333000
    clear HO_333001
    clear HO_340000
    clear HO_340001
    clear HO_351007
    clear HO_359000
    clear HO_359001
    clear BK305
    clear BK306
    clear BK332
    clear BK339
    clear BK350
    clear BK358
    clear HB
    have HO_333000 := n0_
    have HO_333001 := n1_
    have HO_340000 := n2_
    have HO_340001 := n3_
    have HO_351007 := n4_
    have HO_359000 := n5_
    have HO_359001 := n6_
    have HO390 := n7_
    have HO393 := n8_
    have BK305 := n9_
    have BK306 := n10_
    have BK332 := n11_
    have BK339 := n12_
    have BK350 := n13_
    have BK358 := n14_
    have HB := n15_
    clear n0_ n1_ n2_ n3_ n4_ n5_ n6_ n7_ n8_ n9_ n10_ n11_ n12_ n13_ n14_ n15_
    refine hK.out _ _ ⟨(blk_cell BK305.out 0).trans rfl, (blk_cell BK305.out 1).trans rfl, (blk_cell BK306.out 0).trans rfl, (blk_cell BK306.out 1).trans rfl, (blk_cell BK306.out 2).trans rfl, (blk_cell BK306.out 3).trans rfl, (blk_cell BK306.out 4).trans rfl, (blk_cell BK306.out 5).trans rfl, (blk_cell BK306.out 6).trans rfl, (blk_cell BK306.out 7).trans rfl⟩ (fun hHeld => ?_)
    clear hK K
    refine norm_ (a' := ?_) ?_ ?_
    rotate_left
    ·show Act.put _ (some 96) _ = _
     simp only [pS]
     rfl
    refine two_ (i := 3) (j := 8) (Ni := some 98) (Nj := some 15) #[T, T, T, T, F, F, F, F, F, F, F] #[T, T, T, F, F, F, F, F, T, F, F] rfl rfl rfl rfl (two_of HT_.out (by kernel_rfl)) (by decide) (by decide) (fun K hK => ?_) (fun K hK => ?_)
    ·skip
     refine goes_ Try.func22 (by kernel_rfl) rfl #[.agg #[.int .i64 a1_0, .int .i64 a1_1, .int .i64 a1_2, .int .i64 a1_3, .int .i64 a1_4, .int .i64 a1_5, .int .i64 a1_6, .slice A1_7 l1_7.length c1_7]] (by rfl) rfl rfl (by (try simp only [List.map_toArray, List.map_cons, List.map_nil]); first | done | rfl) ?_
     with_reducible refine (laws_toPacket.calls kj111 a1_0 a1_1 a1_2 a1_3 a1_4 a1_5 a1_6 _ _ l1_7 t394 t395 t396 t397 t398 t399 t400 t401 _ ?side1 ?side2 A168.out).mono ?_
     (case side1 => exact cY ((Kd.C_below HR1_7.out HB.out)))
     (case side2 => exact HC1_7.out)
     rintro e w182 ⟨v402, rfl, ho0, hb⟩
     refine ⟨_, rfl, ?_⟩
     have n0_ := Aside0.mk (Kd.R_elder' (rY HO_333000.out) (Kd.R_base ho0) hb)
     have n1_ := Aside0.mk (Kd.R_elder' (rY HO_333001.out) (Kd.R_base ho0) hb)
     have n2_ := Aside0.mk (Kd.R_elder' (rY HO_340000.out) (Kd.R_base ho0) hb)
     have n3_ := Aside0.mk (Kd.R_elder' (rY HO_340001.out) (Kd.R_base ho0) hb)
     have n4_ := Aside0.mk (Kd.R_elder' (rY HO_351007.out) (Kd.R_base ho0) hb)
     have n5_ := Aside0.mk (Kd.R_elder' (rY HO_359000.out) (Kd.R_base ho0) hb)
     have n6_ := Aside0.mk (Kd.R_elder' (rY HO_359001.out) (Kd.R_base ho0) hb)
     have n7_ := Aside0.mk (Kd.R_elder' (rY HO390.out) (Kd.R_base ho0) hb)
     have n8_ := Aside0.mk (Kd.R_elder' (rY HO393.out) (Kd.R_base ho0) hb)
     have n9_ := Aside0.mk (Kd.R_lower (Kd.R_new' (Kd.R_new' (Kd.R_new' (Kd.R_new' (Kd.R_new' (Kd.R_new' (Kd.R_new' (Kd.R_new' (Kd.R_new' ho0 (Kd.R_lt (rY HO_333000.out))) (Kd.R_lt (rY HO_333001.out))) (Kd.R_lt (rY HO_340000.out))) (Kd.R_lt (rY HO_340001.out))) (Kd.R_lt (rY HO_351007.out))) (Kd.R_lt (rY HO_359000.out))) (Kd.R_lt (rY HO_359001.out))) (Kd.R_lt (rY HO390.out))) (Kd.R_lt (rY HO393.out))) (below_size (by repeat (first | (with_reducible first | exact HB.out | apply below_alloc | apply pw_below_drewN | apply below_drew1 | refine below_set ?_ GE305.out | refine below_set ?_ GE306.out | refine below_set ?_ GE332.out | refine below_set ?_ GE339.out | refine below_set ?_ GE350.out | refine below_set ?_ GE358.out) | exact HB.out))))
     have n10_ := Aside0.mk (blk_below (bY BK305.out) hb)
     have n11_ := Aside0.mk (blk_below (bY BK306.out) hb)
     have n12_ := Aside0.mk (blk_below (bY BK332.out) hb)
     have n13_ := Aside0.mk (blk_below (bY BK339.out) hb)
     have n14_ := Aside0.mk (blk_below (bY BK350.out) hb)
     have n15_ := Aside0.mk (blk_below (bY BK358.out) hb)
     have n16_ := Aside0.mk (below_step (by repeat (first | (with_reducible first | exact HB.out | apply below_alloc | apply pw_below_drewN | apply below_drew1 | refine below_set ?_ GE305.out | refine below_set ?_ GE306.out | refine below_set ?_ GE332.out | refine below_set ?_ GE339.out | refine below_set ?_ GE350.out | refine below_set ?_ GE358.out) | exact HB.out)) hb)
     clear HO_333000
     clear HO_333001
     clear HO_340000
     clear HO_340001
     clear HO_351007
     clear HO_359000
     clear HO_359001
     clear HO390
     clear HO393
     clear BK305
     clear BK306
     clear BK332
     clear BK339
     clear BK350
     clear BK358
     clear HB
     have HO_333000 := n0_
     have HO_333001 := n1_
     have HO_340000 := n2_
     have HO_340001 := n3_
     have HO_351007 := n4_
     have HO_359000 := n5_
     have HO_359001 := n6_
     have HO390 := n7_
     have HO393 := n8_
     have HO403 := n9_
     have BK305 := n10_
     have BK306 := n11_
     have BK332 := n12_
     have BK339 := n13_
     have BK350 := n14_
     have BK358 := n15_
     have HB := n16_
     clear n0_ n1_ n2_ n3_ n4_ n5_ n6_ n7_ n8_ n9_ n10_ n11_ n12_ n13_ n14_ n15_ n16_
     obtain ⟨Ao183, co183, eo183⟩ := Kd.R_slice HO390.out
     (first | subst eo183 | (injection eo183 with f1_ f2_ f3_; have f4_ := f1_.symm; have f5_ := f3_.symm; clear f1_ f2_ f3_; subst f4_; subst f5_))
     obtain ⟨Ao184, co184, eo184⟩ := Kd.R_slice HO393.out
     (first | subst eo184 | (injection eo184 with f1_ f2_ f3_; have f4_ := f1_.symm; have f5_ := f3_.symm; clear f1_ f2_ f3_; subst f4_; subst f5_))
     obtain ⟨Ao185, co185, eo185⟩ := Kd.R_slice HO403.out
     (first | subst eo185 | (injection eo185 with f1_ f2_ f3_; have f4_ := f1_.symm; have f5_ := f3_.symm; clear f1_ f2_ f3_; subst f4_; subst f5_))
     refine hK.out _ _ ⟨(blk_cell BK305.out 0).trans rfl, (blk_cell BK305.out 1).trans rfl, (blk_cell BK306.out 0).trans rfl, (blk_cell BK306.out 1).trans rfl, (blk_cell BK306.out 2).trans rfl, (blk_cell BK306.out 3).trans rfl, (blk_cell BK306.out 4).trans rfl, (blk_cell BK306.out 5).trans rfl, (blk_cell BK306.out 6).trans rfl, (blk_cell BK306.out 7).trans rfl⟩ (fun hHeld => ?_)
     clear hK K
     refine norm_ (a' := ?_) ?_ ?_
     rotate_left
     ·show Act.put _ (some 98) _ = _
      simp only [pS]
      rfl
     refine two_ (i := 4) (j := 8) (Ni := some 99) (Nj := some 15) #[T, T, T, T, T, F, F, F, F, F, F] #[T, T, T, T, F, F, F, F, T, F, F] rfl rfl rfl rfl (two_of HT_.out (by kernel_rfl)) (by decide) (by decide) (fun K hK => ?_) (fun K hK => ?_)
     ·skip
      refine goes_ Try.func61 (by kernel_rfl) rfl #[.agg #[.slice Ao183 t388.length co183, .slice Ao184 t391.length co184], .agg #[.int .i64 t394, .int .i64 t395, .int .i64 t396, .int .i64 t397, .int .i64 t398, .int .i64 t399, .int .i64 t400, .slice Ao185 t401.length co185]] (by rfl) rfl rfl (by (try simp only [List.map_toArray, List.map_cons, List.map_nil]); first | done | rfl) ?_
      with_reducible refine (impl_SpendCredits.calls kj111 _ _ t388 _ _ t391 t394 t395 t396 t397 t398 t399 t400 _ _ t401 t404 t407 t410 _ ?side1 ?side2 ?side3 ?side4 ?side5 ?side6 A169.out).mono ?_
      (case side1 => exact cY ((Kd.R_reads' HO390.out).2.2))
      (case side2 => exact (Kd.R_reads' HO390.out).2.1)
      (case side3 => exact cY ((Kd.R_reads' HO393.out).2.2))
      (case side4 => exact (Kd.R_reads' HO393.out).2.1)
      (case side5 => exact cY ((Kd.R_reads' HO403.out).2.2))
      (case side6 => exact (Kd.R_reads' HO403.out).2.1)
      rintro e w186 ⟨v405, v408, rfl, ho0, ho1, hb⟩
      refine ⟨_, rfl, ?_⟩
      have n0_ := Aside0.mk (Kd.R_mono (Kd.R_told (Kd.R_told (Kd.R_old (rY HO_333000.out) hb) (Kd.R_base ho0)) (Kd.R_base ho1)) (fun _ h_ => h_.1))
      have n1_ := Aside0.mk (Kd.R_mono (Kd.R_told (Kd.R_told (Kd.R_old (rY HO_333001.out) hb) (Kd.R_base ho0)) (Kd.R_base ho1)) (fun _ h_ => h_.1))
      have n2_ := Aside0.mk (Kd.R_mono (Kd.R_told (Kd.R_told (Kd.R_old (rY HO_340000.out) hb) (Kd.R_base ho0)) (Kd.R_base ho1)) (fun _ h_ => h_.1))
      have n3_ := Aside0.mk (Kd.R_mono (Kd.R_told (Kd.R_told (Kd.R_old (rY HO_340001.out) hb) (Kd.R_base ho0)) (Kd.R_base ho1)) (fun _ h_ => h_.1))
      have n4_ := Aside0.mk (Kd.R_mono (Kd.R_told (Kd.R_told (Kd.R_old (rY HO_351007.out) hb) (Kd.R_base ho0)) (Kd.R_base ho1)) (fun _ h_ => h_.1))
      have n5_ := Aside0.mk (Kd.R_mono (Kd.R_told (Kd.R_told (Kd.R_old (rY HO_359000.out) hb) (Kd.R_base ho0)) (Kd.R_base ho1)) (fun _ h_ => h_.1))
      have n6_ := Aside0.mk (Kd.R_mono (Kd.R_told (Kd.R_told (Kd.R_old (rY HO_359001.out) hb) (Kd.R_base ho0)) (Kd.R_base ho1)) (fun _ h_ => h_.1))
      have n7_ := Aside0.mk (Kd.R_mono (Kd.R_told (Kd.R_told (Kd.R_old (rY HO390.out) hb) (Kd.R_base ho0)) (Kd.R_base ho1)) (fun _ h_ => h_.1))
      have n8_ := Aside0.mk (Kd.R_mono (Kd.R_told (Kd.R_told (Kd.R_old (rY HO393.out) hb) (Kd.R_base ho0)) (Kd.R_base ho1)) (fun _ h_ => h_.1))
      have n9_ := Aside0.mk (Kd.R_mono (Kd.R_told (Kd.R_told (Kd.R_old (rY HO403.out) hb) (Kd.R_base ho0)) (Kd.R_base ho1)) (fun _ h_ => h_.1))
      have n10_ := Aside0.mk (Kd.R_lower (Kd.R_new' (Kd.R_new' (Kd.R_new' (Kd.R_new' (Kd.R_new' (Kd.R_new' (Kd.R_new' (Kd.R_new' (Kd.R_new' (Kd.R_new' ho0 (Kd.R_lt (rY HO_333000.out))) (Kd.R_lt (rY HO_333001.out))) (Kd.R_lt (rY HO_340000.out))) (Kd.R_lt (rY HO_340001.out))) (Kd.R_lt (rY HO_351007.out))) (Kd.R_lt (rY HO_359000.out))) (Kd.R_lt (rY HO_359001.out))) (Kd.R_lt (rY HO390.out))) (Kd.R_lt (rY HO393.out))) (Kd.R_lt (rY HO403.out))) (below_size (by repeat (first | (with_reducible first | exact HB.out | apply below_alloc | apply pw_below_drewN | apply below_drew1 | refine below_set ?_ GE305.out | refine below_set ?_ GE306.out | refine below_set ?_ GE332.out | refine below_set ?_ GE339.out | refine below_set ?_ GE350.out | refine below_set ?_ GE358.out) | exact HB.out))))
      have n11_ := Aside0.mk (Kd.R_lower (Kd.R_new' (Kd.R_new' (Kd.R_new' (Kd.R_new' (Kd.R_new' (Kd.R_new' (Kd.R_new' (Kd.R_new' (Kd.R_new' (Kd.R_new' ho1 (Kd.R_lt (rY HO_333000.out))) (Kd.R_lt (rY HO_333001.out))) (Kd.R_lt (rY HO_340000.out))) (Kd.R_lt (rY HO_340001.out))) (Kd.R_lt (rY HO_351007.out))) (Kd.R_lt (rY HO_359000.out))) (Kd.R_lt (rY HO_359001.out))) (Kd.R_lt (rY HO390.out))) (Kd.R_lt (rY HO393.out))) (Kd.R_lt (rY HO403.out))) (below_size (by repeat (first | (with_reducible first | exact HB.out | apply below_alloc | apply pw_below_drewN | apply below_drew1 | refine below_set ?_ GE305.out | refine below_set ?_ GE306.out | refine below_set ?_ GE332.out | refine below_set ?_ GE339.out | refine below_set ?_ GE350.out | refine below_set ?_ GE358.out) | exact HB.out))))
      have n12_ := Aside0.mk (blk_below (bY BK305.out) hb)
      have n13_ := Aside0.mk (blk_below (bY BK306.out) hb)
      have n14_ := Aside0.mk (blk_below (bY BK332.out) hb)
      have n15_ := Aside0.mk (blk_below (bY BK339.out) hb)
      have n16_ := Aside0.mk (blk_below (bY BK350.out) hb)
      have n17_ := Aside0.mk (blk_below (bY BK358.out) hb)
      have n18_ := Aside0.mk (below_step (by repeat (first | (with_reducible first | exact HB.out | apply below_alloc | apply pw_below_drewN | apply below_drew1 | refine below_set ?_ GE305.out | refine below_set ?_ GE306.out | refine below_set ?_ GE332.out | refine below_set ?_ GE339.out | refine below_set ?_ GE350.out | refine below_set ?_ GE358.out) | exact HB.out)) hb)
      clear HO_333000
      clear HO_333001
      clear HO_340000
      clear HO_340001
      clear HO_351007
      clear HO_359000
      clear HO_359001
      clear HO390
      clear HO393
      clear HO403
      clear BK305
      clear BK306
      clear BK332
      clear BK339
      clear BK350
      clear BK358
      clear HB
      have HO_333000 := n0_
      have HO_333001 := n1_
      have HO_340000 := n2_
      have HO_340001 := n3_
      have HO_351007 := n4_
      have HO_359000 := n5_
      have HO_359001 := n6_
      have HO390 := n7_
      have HO393 := n8_
      have HO403 := n9_
      have HO406 := n10_
      have HO409 := n11_
      have BK305 := n12_
      have BK306 := n13_
      have BK332 := n14_
      have BK339 := n15_
      have BK350 := n16_
      have BK358 := n17_
      have HB := n18_
      clear n0_ n1_ n2_ n3_ n4_ n5_ n6_ n7_ n8_ n9_ n10_ n11_ n12_ n13_ n14_ n15_ n16_ n17_ n18_
      refine hK.out _ _ ⟨(blk_cell BK305.out 0).trans rfl, (blk_cell BK305.out 1).trans rfl, (blk_cell BK306.out 0).trans rfl, (blk_cell BK306.out 1).trans rfl, (blk_cell BK306.out 2).trans rfl, (blk_cell BK306.out 3).trans rfl, (blk_cell BK306.out 4).trans rfl, (blk_cell BK306.out 5).trans rfl, (blk_cell BK306.out 6).trans rfl, (blk_cell BK306.out 7).trans rfl⟩ (fun hHeld => ?_)
      clear hK K
      refine norm_ (a' := ?_) ?_ ?_
      rotate_left
      ·show Act.put _ (some 99) _ = _
       simp only [pS]
       rfl
      refine pure_ (i := 5) (N := some 94) (v := ?_) (a' := ?_) #[T, T, T, T, T, T, F, F, F, F, F] rfl rfl (any_of HT_.out (by kernel_rfl)) (fun _ _ _ h => h) (Or.inl ⟨by rfl, ?_⟩) ?_ ?_
      rotate_left
      ·intro w'
       go_simp
       with_reducible rfl
      rotate_left
      ·simp only [pS]
       rfl
      refine pure_ (i := 6) (N := some 100) (v := ?_) (a' := ?_) #[T, T, T, T, T, T, T, F, F, F, F] rfl rfl (any_of HT_.out (by kernel_rfl)) (fun _ _ _ h => h) (Or.inl ⟨by rfl, ?_⟩) ?_ ?_
      rotate_left
      ·intro w'
       go_simp
       with_reducible rfl
      rotate_left
      ·simp only [pS]
       rfl
      refine pure_ (i := 7) (N := some 101) (v := ?_) (a' := ?_) #[T, T, T, T, T, T, T, T, F, F, F] rfl rfl (any_of HT_.out (by kernel_rfl)) (fun _ _ _ h => h) (Or.inl ⟨by rfl, ?_⟩) ?_ ?_
      rotate_left
      ·intro w'
       go_simp
       with_reducible rfl
      rotate_left
      ·simp only [pS]
       rfl
      refine one_ (i := 8) (N := some 15) #[T, T, T, T, T, T, T, T, T, F, F] rfl rfl (one_of HT_.out (by kernel_rfl)) (by decide) (fun K hK => ?_)
      refine box_step ?hg (N := 15) ?hd (cs := #[.slice none 0 0, .slice none 0 0]) (t := 27) ?hr ?_; (case hd => rfl); (case hg => rfl); (case hr => first | (go_simp; done) | (go_simp; rfl))
      intro gb411 hg w187 hbox hb
      have n0_ := Aside0.mk (Kd.R_below (rY HO_333000.out) hb)
      have n1_ := Aside0.mk (Kd.R_below (rY HO_333001.out) hb)
      have n2_ := Aside0.mk (Kd.R_below (rY HO_340000.out) hb)
      have n3_ := Aside0.mk (Kd.R_below (rY HO_340001.out) hb)
      have n4_ := Aside0.mk (Kd.R_below (rY HO_351007.out) hb)
      have n5_ := Aside0.mk (Kd.R_below (rY HO_359000.out) hb)
      have n6_ := Aside0.mk (Kd.R_below (rY HO_359001.out) hb)
      have n7_ := Aside0.mk (Kd.R_below (rY HO390.out) hb)
      have n8_ := Aside0.mk (Kd.R_below (rY HO393.out) hb)
      have n9_ := Aside0.mk (Kd.R_below (rY HO403.out) hb)
      have n10_ := Aside0.mk (Kd.R_below (rY HO406.out) hb)
      have n11_ := Aside0.mk (Kd.R_below (rY HO409.out) hb)
      have n12_ := Aside0.mk (blk_below (bY BK305.out) hb)
      have n13_ := Aside0.mk (blk_below (bY BK306.out) hb)
      have n14_ := Aside0.mk (blk_below (bY BK332.out) hb)
      have n15_ := Aside0.mk (blk_below (bY BK339.out) hb)
      have n16_ := Aside0.mk (blk_below (bY BK350.out) hb)
      have n17_ := Aside0.mk (blk_below (bY BK358.out) hb)
      have n18_ := Aside0.mk (below_step (by repeat (first | (with_reducible first | exact HB.out | apply below_alloc | apply pw_below_drewN | apply below_drew1 | refine below_set ?_ GE305.out | refine below_set ?_ GE306.out | refine below_set ?_ GE332.out | refine below_set ?_ GE339.out | refine below_set ?_ GE350.out | refine below_set ?_ GE358.out) | exact HB.out)) hb)
      have n19_ := Aside0.mk (hbox)
      have n20_ := Aside0.mk ((by rw [hg]; exact (below_size (by repeat (first | (with_reducible first | exact HB.out | apply below_alloc | apply pw_below_drewN | apply below_drew1 | refine below_set ?_ GE305.out | refine below_set ?_ GE306.out | refine below_set ?_ GE332.out | refine below_set ?_ GE339.out | refine below_set ?_ GE350.out | refine below_set ?_ GE358.out) | exact HB.out))) : w.heap.size ≤ gb411))
      have n21_ := Aside0.mk ((by rw [hg]; exact (below_size (by repeat (first | (with_reducible first | exact HB.out | apply below_alloc | apply pw_below_drewN | apply below_drew1 | refine below_set ?_ GE305.out | refine below_set ?_ GE306.out | refine below_set ?_ GE332.out | refine below_set ?_ GE339.out | refine below_set ?_ GE350.out | refine below_set ?_ GE358.out) | exact HB.out))) : w.heap.size ≤ gb411))
      have n22_ := Aside0.mk ((by rw [hg]; exact Nat.ne_of_lt (blk_lt (bY BK305.out)) : gb305 ≠ gb411))
      have n23_ := Aside0.mk ((by rw [hg]; exact Nat.ne_of_gt (blk_lt (bY BK305.out)) : gb411 ≠ gb305))
      have n24_ := Aside0.mk ((by rw [hg]; exact Nat.ne_of_lt (blk_lt (bY BK306.out)) : gb306 ≠ gb411))
      have n25_ := Aside0.mk ((by rw [hg]; exact Nat.ne_of_gt (blk_lt (bY BK306.out)) : gb411 ≠ gb306))
      have n26_ := Aside0.mk ((by rw [hg]; exact Nat.ne_of_lt (blk_lt (bY BK332.out)) : gb332 ≠ gb411))
      have n27_ := Aside0.mk ((by rw [hg]; exact Nat.ne_of_gt (blk_lt (bY BK332.out)) : gb411 ≠ gb332))
      have n28_ := Aside0.mk ((by rw [hg]; exact Nat.ne_of_lt (blk_lt (bY BK339.out)) : gb339 ≠ gb411))
      have n29_ := Aside0.mk ((by rw [hg]; exact Nat.ne_of_gt (blk_lt (bY BK339.out)) : gb411 ≠ gb339))
      have n30_ := Aside0.mk ((by rw [hg]; exact Nat.ne_of_lt (blk_lt (bY BK350.out)) : gb350 ≠ gb411))
      have n31_ := Aside0.mk ((by rw [hg]; exact Nat.ne_of_gt (blk_lt (bY BK350.out)) : gb411 ≠ gb350))
      have n32_ := Aside0.mk ((by rw [hg]; exact Nat.ne_of_lt (blk_lt (bY BK358.out)) : gb358 ≠ gb411))
      have n33_ := Aside0.mk ((by rw [hg]; exact Nat.ne_of_gt (blk_lt (bY BK358.out)) : gb411 ≠ gb358))
      clear HO_333000
      clear HO_333001
      clear HO_340000
      clear HO_340001
      clear HO_351007
      clear HO_359000
      clear HO_359001
      clear HO390
      clear HO393
      clear HO403
      clear HO406
      clear HO409
      clear BK305
      clear BK306
      clear BK332
      clear BK339
      clear BK350
      clear BK358
      clear HB
      have HO_333000 := n0_
      have HO_333001 := n1_
      have HO_340000 := n2_
      have HO_340001 := n3_
      have HO_351007 := n4_
      have HO_359000 := n5_
      have HO_359001 := n6_
      have HO390 := n7_
      have HO393 := n8_
      have HO403 := n9_
      have HO406 := n10_
      have HO409 := n11_
      have BK305 := n12_
      have BK306 := n13_
      have BK332 := n14_
      have BK339 := n15_
      have BK350 := n16_
      have BK358 := n17_
      have HB := n18_
      have BK411 := n19_
      have GW411 := n20_
      have GE411 := n21_
      have NB305_411 := n22_
      have NB411_305 := n23_
      have NB306_411 := n24_
      have NB411_306 := n25_
      have NB332_411 := n26_
      have NB411_332 := n27_
      have NB339_411 := n28_
      have NB411_339 := n29_
      have NB350_411 := n30_
      have NB411_350 := n31_
      have NB358_411 := n32_
      have NB411_358 := n33_
      clear n0_ n1_ n2_ n3_ n4_ n5_ n6_ n7_ n8_ n9_ n10_ n11_ n12_ n13_ n14_ n15_ n16_ n17_ n18_ n19_ n20_ n21_ n22_ n23_ n24_ n25_ n26_ n27_ n28_ n29_ n30_ n31_ n32_ n33_
      clear hb hbox hg
      refine hK.out _ _ ⟨(blk_cell BK305.out 0).trans rfl, (blk_cell BK305.out 1).trans rfl, (blk_cell BK306.out 0).trans rfl, (blk_cell BK306.out 1).trans rfl, (blk_cell BK306.out 2).trans rfl, (blk_cell BK306.out 3).trans rfl, (blk_cell BK306.out 4).trans rfl, (blk_cell BK306.out 5).trans rfl, (blk_cell BK306.out 6).trans rfl, (blk_cell BK306.out 7).trans rfl⟩ (fun hHeld => ?_)
      clear hK K
      refine norm_ (a' := ?_) ?_ ?_
      rotate_left
      ·show Act.put _ (some 15) _ = _
       simp only [pS]
       rfl
      exact norm_ (by simp only [putAll, Act.put, List.setIfInBounds_toArray, List.set_cons_zero, List.set_cons_succ]) (hCont (.slice Ao183 t388.length co183, .slice Ao184 t391.length co184, .slice Ao185 t401.length co185, v405, v408, gb411) _ ⟨hHeld, (by (repeat apply rX); exact Kd.R_mono HO390.out (fun _ hk => ⟨hk.1.1.1.1.1.1.1.1.1.1, ⟨hk.1.1.2, ⟨hk.1.2, ⟨hk.2, ⟨hk.1.1.1.1.1.1.1.1.1.2, ⟨hk.1.1.1.1.1.1.1.1.2, ⟨hk.1.1.1.1.1.1.1.2, ⟨hk.1.1.1.1.1.1.2, ⟨hk.1.1.1.1.1.2, ⟨hk.1.1.1.1.2, hk.1.1.1.2⟩⟩⟩⟩⟩⟩⟩⟩⟩⟩)), (by (repeat apply rX); exact Kd.R_mono HO393.out (fun _ hk => ⟨hk.1.1.1.1.1.1.1.1.1.1, ⟨hk.1.1.2, ⟨hk.1.2, ⟨hk.2, ⟨hk.1.1.1.1.1.1.1.1.1.2, ⟨hk.1.1.1.1.1.1.1.1.2, ⟨hk.1.1.1.1.1.1.1.2, ⟨hk.1.1.1.1.1.1.2, ⟨hk.1.1.1.1.1.2, ⟨hk.1.1.1.1.2, hk.1.1.1.2⟩⟩⟩⟩⟩⟩⟩⟩⟩⟩)), (by (repeat apply rX); exact Kd.R_mono HO403.out (fun _ hk => ⟨hk.1.1.1.2, ⟨hk.1.1.2, ⟨hk.1.2, ⟨hk.2, ⟨hk.1.1.1.1.1.1.1.1.1.1.2, ⟨hk.1.1.1.1.1.1.1.1.1.2, ⟨hk.1.1.1.1.1.1.1.1.2, ⟨hk.1.1.1.1.1.1.1.2, ⟨hk.1.1.1.1.1.1.2, ⟨hk.1.1.1.1.1.2, hk.1.1.1.1.2⟩⟩⟩⟩⟩⟩⟩⟩⟩⟩)), (by (repeat apply rX); exact Kd.R_mono HO406.out (fun _ hk => ⟨hk.1.1.2, ⟨hk.1.2, ⟨hk.2, ⟨hk.1.1.1.1.1.1.1.1.1.1, ⟨hk.1.1.1.1.1.1.1.1.1.2, ⟨hk.1.1.1.1.1.1.1.1.2, ⟨hk.1.1.1.1.1.1.1.2, ⟨hk.1.1.1.1.1.1.2, ⟨hk.1.1.1.1.1.2, ⟨hk.1.1.1.1.2, hk.1.1.1.2⟩⟩⟩⟩⟩⟩⟩⟩⟩⟩)), (by (repeat apply rX); exact Kd.R_mono HO409.out (fun _ hk => ⟨hk.1.1.2, ⟨hk.1.2, ⟨hk.2, ⟨hk.1.1.1.1.1.1.1.1.1.1, ⟨hk.1.1.1.1.1.1.1.1.1.2, ⟨hk.1.1.1.1.1.1.1.1.2, ⟨hk.1.1.1.1.1.1.1.2, ⟨hk.1.1.1.1.1.1.2, ⟨hk.1.1.1.1.1.2, ⟨hk.1.1.1.1.2, hk.1.1.1.2⟩⟩⟩⟩⟩⟩⟩⟩⟩⟩)), (by (repeat apply rX); exact Kd.R_mono HO_333000.out (fun _ hk => ⟨hk.1.1.1.1.2, ⟨hk.1.1.1.2, ⟨hk.1.1.2, ⟨hk.1.2, ⟨hk.2, ⟨hk.1.1.1.1.1.1, ⟨hk.1.1.1.1.1.2.1, ⟨hk.1.1.1.1.1.2.2.1, ⟨hk.1.1.1.1.1.2.2.2.1, ⟨hk.1.1.1.1.1.2.2.2.2.1, hk.1.1.1.1.1.2.2.2.2.2⟩⟩⟩⟩⟩⟩⟩⟩⟩⟩)), (by (repeat apply rX); exact Kd.R_mono HO_333001.out (fun _ hk => ⟨hk.1.1.1.1.2, ⟨hk.1.1.1.2, ⟨hk.1.1.2, ⟨hk.1.2, ⟨hk.2, ⟨hk.1.1.1.1.1.1, ⟨hk.1.1.1.1.1.2.1, ⟨hk.1.1.1.1.1.2.2.1, ⟨hk.1.1.1.1.1.2.2.2.1, ⟨hk.1.1.1.1.1.2.2.2.2.1, hk.1.1.1.1.1.2.2.2.2.2⟩⟩⟩⟩⟩⟩⟩⟩⟩⟩)), (by (repeat apply rX); exact Kd.R_mono HO_340000.out (fun _ hk => ⟨hk.1.1.1.1.2, ⟨hk.1.1.1.2, ⟨hk.1.1.2, ⟨hk.1.2, ⟨hk.2, ⟨hk.1.1.1.1.1.1, ⟨hk.1.1.1.1.1.2.1, ⟨hk.1.1.1.1.1.2.2.1, ⟨hk.1.1.1.1.1.2.2.2.1, ⟨hk.1.1.1.1.1.2.2.2.2.1, hk.1.1.1.1.1.2.2.2.2.2⟩⟩⟩⟩⟩⟩⟩⟩⟩⟩)), (by (repeat apply rX); exact Kd.R_mono HO_340001.out (fun _ hk => ⟨hk.1.1.1.1.2, ⟨hk.1.1.1.2, ⟨hk.1.1.2, ⟨hk.1.2, ⟨hk.2, ⟨hk.1.1.1.1.1.1, ⟨hk.1.1.1.1.1.2.1, ⟨hk.1.1.1.1.1.2.2.1, ⟨hk.1.1.1.1.1.2.2.2.1, ⟨hk.1.1.1.1.1.2.2.2.2.1, hk.1.1.1.1.1.2.2.2.2.2⟩⟩⟩⟩⟩⟩⟩⟩⟩⟩)), (by (repeat apply rX); exact Kd.R_mono HO_351007.out (fun _ hk => ⟨hk.1.1.1.1.2, ⟨hk.1.1.1.2, ⟨hk.1.1.2, ⟨hk.1.2, ⟨hk.2, ⟨hk.1.1.1.1.1.1, ⟨hk.1.1.1.1.1.2.1, ⟨hk.1.1.1.1.1.2.2.1, ⟨hk.1.1.1.1.1.2.2.2.1, ⟨hk.1.1.1.1.1.2.2.2.2.1, hk.1.1.1.1.1.2.2.2.2.2⟩⟩⟩⟩⟩⟩⟩⟩⟩⟩)), (by (repeat apply rX); exact Kd.R_mono HO_359000.out (fun _ hk => ⟨hk.1.1.1.1.2, ⟨hk.1.1.1.2, ⟨hk.1.1.2, ⟨hk.1.2, ⟨hk.2, ⟨hk.1.1.1.1.1.1, ⟨hk.1.1.1.1.1.2.1, ⟨hk.1.1.1.1.1.2.2.1, ⟨hk.1.1.1.1.1.2.2.2.1, ⟨hk.1.1.1.1.1.2.2.2.2.1, hk.1.1.1.1.1.2.2.2.2.2⟩⟩⟩⟩⟩⟩⟩⟩⟩⟩)), (by (repeat apply rX); exact Kd.R_mono HO_359001.out (fun _ hk => ⟨hk.1.1.1.1.2, ⟨hk.1.1.1.2, ⟨hk.1.1.2, ⟨hk.1.2, ⟨hk.2, ⟨hk.1.1.1.1.1.1, ⟨hk.1.1.1.1.1.2.1, ⟨hk.1.1.1.1.1.2.2.1, ⟨hk.1.1.1.1.1.2.2.2.1, ⟨hk.1.1.1.1.1.2.2.2.2.1, hk.1.1.1.1.1.2.2.2.2.2⟩⟩⟩⟩⟩⟩⟩⟩⟩⟩)), (bY BK305.out), (bY BK306.out), (bY BK332.out), (bY BK339.out), (bY BK350.out), (bY BK358.out), (bY BK411.out), GW411.out, GE411.out, NB305_411.out, NB411_305.out, NB306_411.out, NB411_306.out, NB332_411.out, NB411_332.out, NB339_411.out, NB411_339.out, NB350_411.out, NB411_350.out, NB358_411.out, NB411_358.out, (by repeat (first | (with_reducible first | exact HB.out | apply below_alloc | apply pw_below_drewN | apply below_drew1 | refine below_set ?_ GE305.out | refine below_set ?_ GE306.out | refine below_set ?_ GE332.out | refine below_set ?_ GE339.out | refine below_set ?_ GE350.out | refine below_set ?_ GE358.out | refine below_set ?_ GE411.out) | exact HB.out))⟩)
     ·skip
      refine box_step ?hg (N := 15) ?hd (cs := #[.slice none 0 0, .slice none 0 0]) (t := 27) ?hr ?_; (case hd => rfl); (case hg => rfl); (case hr => first | (go_simp; done) | (go_simp; rfl))
      intro gb411 hg w183 hbox hb
      have n0_ := Aside0.mk (Kd.R_below (rY HO_333000.out) hb)
      have n1_ := Aside0.mk (Kd.R_below (rY HO_333001.out) hb)
      have n2_ := Aside0.mk (Kd.R_below (rY HO_340000.out) hb)
      have n3_ := Aside0.mk (Kd.R_below (rY HO_340001.out) hb)
      have n4_ := Aside0.mk (Kd.R_below (rY HO_351007.out) hb)
      have n5_ := Aside0.mk (Kd.R_below (rY HO_359000.out) hb)
      have n6_ := Aside0.mk (Kd.R_below (rY HO_359001.out) hb)
      have n7_ := Aside0.mk (Kd.R_below (rY HO390.out) hb)
      have n8_ := Aside0.mk (Kd.R_below (rY HO393.out) hb)
      have n9_ := Aside0.mk (Kd.R_below (rY HO403.out) hb)
      have n10_ := Aside0.mk (blk_below (bY BK305.out) hb)
      have n11_ := Aside0.mk (blk_below (bY BK306.out) hb)
      have n12_ := Aside0.mk (blk_below (bY BK332.out) hb)
      have n13_ := Aside0.mk (blk_below (bY BK339.out) hb)
      have n14_ := Aside0.mk (blk_below (bY BK350.out) hb)
      have n15_ := Aside0.mk (blk_below (bY BK358.out) hb)
      have n16_ := Aside0.mk (below_step (by repeat (first | (with_reducible first | exact HB.out | apply below_alloc | apply pw_below_drewN | apply below_drew1 | refine below_set ?_ GE305.out | refine below_set ?_ GE306.out | refine below_set ?_ GE332.out | refine below_set ?_ GE339.out | refine below_set ?_ GE350.out | refine below_set ?_ GE358.out) | exact HB.out)) hb)
      have n17_ := Aside0.mk (hbox)
      have n18_ := Aside0.mk ((by rw [hg]; exact (below_size (by repeat (first | (with_reducible first | exact HB.out | apply below_alloc | apply pw_below_drewN | apply below_drew1 | refine below_set ?_ GE305.out | refine below_set ?_ GE306.out | refine below_set ?_ GE332.out | refine below_set ?_ GE339.out | refine below_set ?_ GE350.out | refine below_set ?_ GE358.out) | exact HB.out))) : w.heap.size ≤ gb411))
      have n19_ := Aside0.mk ((by rw [hg]; exact (below_size (by repeat (first | (with_reducible first | exact HB.out | apply below_alloc | apply pw_below_drewN | apply below_drew1 | refine below_set ?_ GE305.out | refine below_set ?_ GE306.out | refine below_set ?_ GE332.out | refine below_set ?_ GE339.out | refine below_set ?_ GE350.out | refine below_set ?_ GE358.out) | exact HB.out))) : w.heap.size ≤ gb411))
      have n20_ := Aside0.mk ((by rw [hg]; exact Nat.ne_of_lt (blk_lt (bY BK305.out)) : gb305 ≠ gb411))
      have n21_ := Aside0.mk ((by rw [hg]; exact Nat.ne_of_gt (blk_lt (bY BK305.out)) : gb411 ≠ gb305))
      have n22_ := Aside0.mk ((by rw [hg]; exact Nat.ne_of_lt (blk_lt (bY BK306.out)) : gb306 ≠ gb411))
      have n23_ := Aside0.mk ((by rw [hg]; exact Nat.ne_of_gt (blk_lt (bY BK306.out)) : gb411 ≠ gb306))
      have n24_ := Aside0.mk ((by rw [hg]; exact Nat.ne_of_lt (blk_lt (bY BK332.out)) : gb332 ≠ gb411))
      have n25_ := Aside0.mk ((by rw [hg]; exact Nat.ne_of_gt (blk_lt (bY BK332.out)) : gb411 ≠ gb332))
      have n26_ := Aside0.mk ((by rw [hg]; exact Nat.ne_of_lt (blk_lt (bY BK339.out)) : gb339 ≠ gb411))
      have n27_ := Aside0.mk ((by rw [hg]; exact Nat.ne_of_gt (blk_lt (bY BK339.out)) : gb411 ≠ gb339))
      have n28_ := Aside0.mk ((by rw [hg]; exact Nat.ne_of_lt (blk_lt (bY BK350.out)) : gb350 ≠ gb411))
      have n29_ := Aside0.mk ((by rw [hg]; exact Nat.ne_of_gt (blk_lt (bY BK350.out)) : gb411 ≠ gb350))
      have n30_ := Aside0.mk ((by rw [hg]; exact Nat.ne_of_lt (blk_lt (bY BK358.out)) : gb358 ≠ gb411))
      have n31_ := Aside0.mk ((by rw [hg]; exact Nat.ne_of_gt (blk_lt (bY BK358.out)) : gb411 ≠ gb358))
      clear HO_333000
      clear HO_333001
      clear HO_340000
      clear HO_340001
      clear HO_351007
      clear HO_359000
      clear HO_359001
      clear HO390
      clear HO393
      clear HO403
      clear BK305
      clear BK306
      clear BK332
      clear BK339
      clear BK350
      clear BK358
      clear HB
      have HO_333000 := n0_
      have HO_333001 := n1_
      have HO_340000 := n2_
      have HO_340001 := n3_
      have HO_351007 := n4_
      have HO_359000 := n5_
      have HO_359001 := n6_
      have HO390 := n7_
      have HO393 := n8_
      have HO403 := n9_
      have BK305 := n10_
      have BK306 := n11_
      have BK332 := n12_
      have BK339 := n13_
      have BK350 := n14_
      have BK358 := n15_
      have HB := n16_
      have BK411 := n17_
      have GW411 := n18_
      have GE411 := n19_
      have NB305_411 := n20_
      have NB411_305 := n21_
      have NB306_411 := n22_
      have NB411_306 := n23_
      have NB332_411 := n24_
      have NB411_332 := n25_
      have NB339_411 := n26_
      have NB411_339 := n27_
      have NB350_411 := n28_
      have NB411_350 := n29_
      have NB358_411 := n30_
      have NB411_358 := n31_
      clear n0_ n1_ n2_ n3_ n4_ n5_ n6_ n7_ n8_ n9_ n10_ n11_ n12_ n13_ n14_ n15_ n16_ n17_ n18_ n19_ n20_ n21_ n22_ n23_ n24_ n25_ n26_ n27_ n28_ n29_ n30_ n31_
      clear hb hbox hg
      obtain ⟨Ao184, co184, eo184⟩ := Kd.R_slice HO390.out
      (first | subst eo184 | (injection eo184 with f1_ f2_ f3_; have f4_ := f1_.symm; have f5_ := f3_.symm; clear f1_ f2_ f3_; subst f4_; subst f5_))
      obtain ⟨Ao185, co185, eo185⟩ := Kd.R_slice HO393.out
      (first | subst eo185 | (injection eo185 with f1_ f2_ f3_; have f4_ := f1_.symm; have f5_ := f3_.symm; clear f1_ f2_ f3_; subst f4_; subst f5_))
      obtain ⟨Ao186, co186, eo186⟩ := Kd.R_slice HO403.out
      (first | subst eo186 | (injection eo186 with f1_ f2_ f3_; have f4_ := f1_.symm; have f5_ := f3_.symm; clear f1_ f2_ f3_; subst f4_; subst f5_))
      refine hK.out _ _ ⟨(blk_cell BK305.out 0).trans rfl, (blk_cell BK305.out 1).trans rfl, (blk_cell BK306.out 0).trans rfl, (blk_cell BK306.out 1).trans rfl, (blk_cell BK306.out 2).trans rfl, (blk_cell BK306.out 3).trans rfl, (blk_cell BK306.out 4).trans rfl, (blk_cell BK306.out 5).trans rfl, (blk_cell BK306.out 6).trans rfl, (blk_cell BK306.out 7).trans rfl⟩ (fun hHeld => ?_)
      clear hK K
      refine norm_ (a' := ?_) ?_ ?_
      rotate_left
      ·show Act.put _ (some 15) _ = _
       simp only [pS]
       rfl
      refine one_ (i := 4) (N := some 99) #[T, T, T, T, T, F, F, F, T, F, F] rfl rfl (one_of HT_.out (by kernel_rfl)) (by decide) (fun K hK => ?_)
      refine goes_ Try.func61 (by kernel_rfl) rfl #[.agg #[.slice Ao184 t388.length co184, .slice Ao185 t391.length co185], .agg #[.int .i64 t394, .int .i64 t395, .int .i64 t396, .int .i64 t397, .int .i64 t398, .int .i64 t399, .int .i64 t400, .slice Ao186 t401.length co186]] (by rfl) rfl rfl (by (try simp only [List.map_toArray, List.map_cons, List.map_nil]); first | done | rfl) ?_
      with_reducible refine (impl_SpendCredits.calls kj111 _ _ t388 _ _ t391 t394 t395 t396 t397 t398 t399 t400 _ _ t401 t404 t407 t410 _ ?side1 ?side2 ?side3 ?side4 ?side5 ?side6 A169.out).mono ?_
      (case side1 => exact cY ((Kd.R_reads' HO390.out).2.2))
      (case side2 => exact (Kd.R_reads' HO390.out).2.1)
      (case side3 => exact cY ((Kd.R_reads' HO393.out).2.2))
      (case side4 => exact (Kd.R_reads' HO393.out).2.1)
      (case side5 => exact cY ((Kd.R_reads' HO403.out).2.2))
      (case side6 => exact (Kd.R_reads' HO403.out).2.1)
      rintro e w187 ⟨v405, v408, rfl, ho0, ho1, hb⟩
      refine ⟨_, rfl, ?_⟩
      have n0_ := Aside0.mk (Kd.R_mono (Kd.R_told (Kd.R_told (Kd.R_old (rY HO_333000.out) hb) (Kd.R_base ho0)) (Kd.R_base ho1)) (fun _ h_ => h_.1))
      have n1_ := Aside0.mk (Kd.R_mono (Kd.R_told (Kd.R_told (Kd.R_old (rY HO_333001.out) hb) (Kd.R_base ho0)) (Kd.R_base ho1)) (fun _ h_ => h_.1))
      have n2_ := Aside0.mk (Kd.R_mono (Kd.R_told (Kd.R_told (Kd.R_old (rY HO_340000.out) hb) (Kd.R_base ho0)) (Kd.R_base ho1)) (fun _ h_ => h_.1))
      have n3_ := Aside0.mk (Kd.R_mono (Kd.R_told (Kd.R_told (Kd.R_old (rY HO_340001.out) hb) (Kd.R_base ho0)) (Kd.R_base ho1)) (fun _ h_ => h_.1))
      have n4_ := Aside0.mk (Kd.R_mono (Kd.R_told (Kd.R_told (Kd.R_old (rY HO_351007.out) hb) (Kd.R_base ho0)) (Kd.R_base ho1)) (fun _ h_ => h_.1))
      have n5_ := Aside0.mk (Kd.R_mono (Kd.R_told (Kd.R_told (Kd.R_old (rY HO_359000.out) hb) (Kd.R_base ho0)) (Kd.R_base ho1)) (fun _ h_ => h_.1))
      have n6_ := Aside0.mk (Kd.R_mono (Kd.R_told (Kd.R_told (Kd.R_old (rY HO_359001.out) hb) (Kd.R_base ho0)) (Kd.R_base ho1)) (fun _ h_ => h_.1))
      have n7_ := Aside0.mk (Kd.R_mono (Kd.R_told (Kd.R_told (Kd.R_old (rY HO390.out) hb) (Kd.R_base ho0)) (Kd.R_base ho1)) (fun _ h_ => h_.1))
      have n8_ := Aside0.mk (Kd.R_mono (Kd.R_told (Kd.R_told (Kd.R_old (rY HO393.out) hb) (Kd.R_base ho0)) (Kd.R_base ho1)) (fun _ h_ => h_.1))
      have n9_ := Aside0.mk (Kd.R_mono (Kd.R_told (Kd.R_told (Kd.R_old (rY HO403.out) hb) (Kd.R_base ho0)) (Kd.R_base ho1)) (fun _ h_ => h_.1))
      have n10_ := Aside0.mk (Kd.R_lower (Kd.R_new' (Kd.R_new' (Kd.R_new' (Kd.R_new' (Kd.R_new' (Kd.R_new' (Kd.R_new' (Kd.R_new' (Kd.R_new' (Kd.R_new' ho0 (Kd.R_lt (rY HO_333000.out))) (Kd.R_lt (rY HO_333001.out))) (Kd.R_lt (rY HO_340000.out))) (Kd.R_lt (rY HO_340001.out))) (Kd.R_lt (rY HO_351007.out))) (Kd.R_lt (rY HO_359000.out))) (Kd.R_lt (rY HO_359001.out))) (Kd.R_lt (rY HO390.out))) (Kd.R_lt (rY HO393.out))) (Kd.R_lt (rY HO403.out))) (below_size (by repeat (first | (with_reducible first | exact HB.out | apply below_alloc | apply pw_below_drewN | apply below_drew1 | refine below_set ?_ GE305.out | refine below_set ?_ GE306.out | refine below_set ?_ GE332.out | refine below_set ?_ GE339.out | refine below_set ?_ GE350.out | refine below_set ?_ GE358.out | refine below_set ?_ GE411.out) | exact HB.out))))
      have n11_ := Aside0.mk (Kd.R_lower (Kd.R_new' (Kd.R_new' (Kd.R_new' (Kd.R_new' (Kd.R_new' (Kd.R_new' (Kd.R_new' (Kd.R_new' (Kd.R_new' (Kd.R_new' ho1 (Kd.R_lt (rY HO_333000.out))) (Kd.R_lt (rY HO_333001.out))) (Kd.R_lt (rY HO_340000.out))) (Kd.R_lt (rY HO_340001.out))) (Kd.R_lt (rY HO_351007.out))) (Kd.R_lt (rY HO_359000.out))) (Kd.R_lt (rY HO_359001.out))) (Kd.R_lt (rY HO390.out))) (Kd.R_lt (rY HO393.out))) (Kd.R_lt (rY HO403.out))) (below_size (by repeat (first | (with_reducible first | exact HB.out | apply below_alloc | apply pw_below_drewN | apply below_drew1 | refine below_set ?_ GE305.out | refine below_set ?_ GE306.out | refine below_set ?_ GE332.out | refine below_set ?_ GE339.out | refine below_set ?_ GE350.out | refine below_set ?_ GE358.out | refine below_set ?_ GE411.out) | exact HB.out))))
      have n12_ := Aside0.mk (blk_below (bY BK305.out) hb)
      have n13_ := Aside0.mk (blk_below (bY BK306.out) hb)
      have n14_ := Aside0.mk (blk_below (bY BK332.out) hb)
      have n15_ := Aside0.mk (blk_below (bY BK339.out) hb)
      have n16_ := Aside0.mk (blk_below (bY BK350.out) hb)
      have n17_ := Aside0.mk (blk_below (bY BK358.out) hb)
      have n18_ := Aside0.mk (blk_below (bY BK411.out) hb)
      have n19_ := Aside0.mk (below_step (by repeat (first | (with_reducible first | exact HB.out | apply below_alloc | apply pw_below_drewN | apply below_drew1 | refine below_set ?_ GE305.out | refine below_set ?_ GE306.out | refine below_set ?_ GE332.out | refine below_set ?_ GE339.out | refine below_set ?_ GE350.out | refine below_set ?_ GE358.out | refine below_set ?_ GE411.out) | exact HB.out)) hb)
      clear HO_333000
      clear HO_333001
      clear HO_340000
      clear HO_340001
      clear HO_351007
      clear HO_359000
      clear HO_359001
      clear HO390
      clear HO393
      clear HO403
      clear BK305
      clear BK306
      clear BK332
      clear BK339
      clear BK350
      clear BK358
      clear BK411
      clear HB
      have HO_333000 := n0_
      have HO_333001 := n1_
      have HO_340000 := n2_
      have HO_340001 := n3_
      have HO_351007 := n4_
      have HO_359000 := n5_
      have HO_359001 := n6_
      have HO390 := n7_
      have HO393 := n8_
      have HO403 := n9_
      have HO406 := n10_
      have HO409 := n11_
      have BK305 := n12_
      have BK306 := n13_
      have BK332 := n14_
      have BK339 := n15_
      have BK350 := n16_
      have BK358 := n17_
      have BK411 := n18_
      have HB := n19_
      clear n0_ n1_ n2_ n3_ n4_ n5_ n6_ n7_ n8_ n9_ n10_ n11_ n12_ n13_ n14_ n15_ n16_ n17_ n18_ n19_
      refine hK.out _ _ ⟨(blk_cell BK305.out 0).trans rfl, (blk_cell BK305.out 1).trans rfl, (blk_cell BK306.out 0).trans rfl, (blk_cell BK306.out 1).trans rfl, (blk_cell BK306.out 2).trans rfl, (blk_cell BK306.out 3).trans rfl, (blk_cell BK306.out 4).trans rfl, (blk_cell BK306.out 5).trans rfl, (blk_cell BK306.out 6).trans rfl, (blk_cell BK306.out 7).trans rfl⟩ (fun hHeld => ?_)
      clear hK K
      refine norm_ (a' := ?_) ?_ ?_
      rotate_left
      ·show Act.put _ (some 99) _ = _
       simp only [pS]
       rfl
      refine pure_ (i := 5) (N := some 94) (v := ?_) (a' := ?_) #[T, T, T, T, T, T, F, F, T, F, F] rfl rfl (any_of HT_.out (by kernel_rfl)) (fun _ _ _ h => h) (Or.inl ⟨by rfl, ?_⟩) ?_ ?_
      rotate_left
      ·intro w'
       go_simp
       with_reducible rfl
      rotate_left
      ·simp only [pS]
       rfl
      refine pure_ (i := 6) (N := some 100) (v := ?_) (a' := ?_) #[T, T, T, T, T, T, T, F, T, F, F] rfl rfl (any_of HT_.out (by kernel_rfl)) (fun _ _ _ h => h) (Or.inl ⟨by rfl, ?_⟩) ?_ ?_
      rotate_left
      ·intro w'
       go_simp
       with_reducible rfl
      rotate_left
      ·simp only [pS]
       rfl
      refine pure_ (i := 7) (N := some 101) (v := ?_) (a' := ?_) #[T, T, T, T, T, T, T, T, T, F, F] rfl rfl (any_of HT_.out (by kernel_rfl)) (fun _ _ _ h => h) (Or.inl ⟨by rfl, ?_⟩) ?_ ?_
      rotate_left
      ·intro w'
       go_simp
       with_reducible rfl
      rotate_left
      ·simp only [pS]
       rfl
      exact norm_ (by simp only [putAll, Act.put, List.setIfInBounds_toArray, List.set_cons_zero, List.set_cons_succ]) (hCont (.slice Ao184 t388.length co184, .slice Ao185 t391.length co185, .slice Ao186 t401.length co186, v405, v408, gb411) _ ⟨hHeld, (by (repeat apply rX); exact Kd.R_mono HO390.out (fun _ hk => ⟨hk.1.1.1.1.1.1.1.1.1.1, ⟨hk.1.1.2, ⟨hk.1.2, ⟨hk.2, ⟨hk.1.1.1.1.1.1.1.1.1.2, ⟨hk.1.1.1.1.1.1.1.1.2, ⟨hk.1.1.1.1.1.1.1.2, ⟨hk.1.1.1.1.1.1.2, ⟨hk.1.1.1.1.1.2, ⟨hk.1.1.1.1.2, hk.1.1.1.2⟩⟩⟩⟩⟩⟩⟩⟩⟩⟩)), (by (repeat apply rX); exact Kd.R_mono HO393.out (fun _ hk => ⟨hk.1.1.1.1.1.1.1.1.1.1, ⟨hk.1.1.2, ⟨hk.1.2, ⟨hk.2, ⟨hk.1.1.1.1.1.1.1.1.1.2, ⟨hk.1.1.1.1.1.1.1.1.2, ⟨hk.1.1.1.1.1.1.1.2, ⟨hk.1.1.1.1.1.1.2, ⟨hk.1.1.1.1.1.2, ⟨hk.1.1.1.1.2, hk.1.1.1.2⟩⟩⟩⟩⟩⟩⟩⟩⟩⟩)), (by (repeat apply rX); exact Kd.R_mono HO403.out (fun _ hk => ⟨hk.1.1.1.2, ⟨hk.1.1.2, ⟨hk.1.2, ⟨hk.2, ⟨hk.1.1.1.1.1.1.1.1.1.1.2, ⟨hk.1.1.1.1.1.1.1.1.1.2, ⟨hk.1.1.1.1.1.1.1.1.2, ⟨hk.1.1.1.1.1.1.1.2, ⟨hk.1.1.1.1.1.1.2, ⟨hk.1.1.1.1.1.2, hk.1.1.1.1.2⟩⟩⟩⟩⟩⟩⟩⟩⟩⟩)), (by (repeat apply rX); exact Kd.R_mono HO406.out (fun _ hk => ⟨hk.1.1.2, ⟨hk.1.2, ⟨hk.2, ⟨hk.1.1.1.1.1.1.1.1.1.1, ⟨hk.1.1.1.1.1.1.1.1.1.2, ⟨hk.1.1.1.1.1.1.1.1.2, ⟨hk.1.1.1.1.1.1.1.2, ⟨hk.1.1.1.1.1.1.2, ⟨hk.1.1.1.1.1.2, ⟨hk.1.1.1.1.2, hk.1.1.1.2⟩⟩⟩⟩⟩⟩⟩⟩⟩⟩)), (by (repeat apply rX); exact Kd.R_mono HO409.out (fun _ hk => ⟨hk.1.1.2, ⟨hk.1.2, ⟨hk.2, ⟨hk.1.1.1.1.1.1.1.1.1.1, ⟨hk.1.1.1.1.1.1.1.1.1.2, ⟨hk.1.1.1.1.1.1.1.1.2, ⟨hk.1.1.1.1.1.1.1.2, ⟨hk.1.1.1.1.1.1.2, ⟨hk.1.1.1.1.1.2, ⟨hk.1.1.1.1.2, hk.1.1.1.2⟩⟩⟩⟩⟩⟩⟩⟩⟩⟩)), (by (repeat apply rX); exact Kd.R_mono HO_333000.out (fun _ hk => ⟨hk.1.1.1.1.2, ⟨hk.1.1.1.2, ⟨hk.1.1.2, ⟨hk.1.2, ⟨hk.2, ⟨hk.1.1.1.1.1.1, ⟨hk.1.1.1.1.1.2.1, ⟨hk.1.1.1.1.1.2.2.1, ⟨hk.1.1.1.1.1.2.2.2.1, ⟨hk.1.1.1.1.1.2.2.2.2.1, hk.1.1.1.1.1.2.2.2.2.2⟩⟩⟩⟩⟩⟩⟩⟩⟩⟩)), (by (repeat apply rX); exact Kd.R_mono HO_333001.out (fun _ hk => ⟨hk.1.1.1.1.2, ⟨hk.1.1.1.2, ⟨hk.1.1.2, ⟨hk.1.2, ⟨hk.2, ⟨hk.1.1.1.1.1.1, ⟨hk.1.1.1.1.1.2.1, ⟨hk.1.1.1.1.1.2.2.1, ⟨hk.1.1.1.1.1.2.2.2.1, ⟨hk.1.1.1.1.1.2.2.2.2.1, hk.1.1.1.1.1.2.2.2.2.2⟩⟩⟩⟩⟩⟩⟩⟩⟩⟩)), (by (repeat apply rX); exact Kd.R_mono HO_340000.out (fun _ hk => ⟨hk.1.1.1.1.2, ⟨hk.1.1.1.2, ⟨hk.1.1.2, ⟨hk.1.2, ⟨hk.2, ⟨hk.1.1.1.1.1.1, ⟨hk.1.1.1.1.1.2.1, ⟨hk.1.1.1.1.1.2.2.1, ⟨hk.1.1.1.1.1.2.2.2.1, ⟨hk.1.1.1.1.1.2.2.2.2.1, hk.1.1.1.1.1.2.2.2.2.2⟩⟩⟩⟩⟩⟩⟩⟩⟩⟩)), (by (repeat apply rX); exact Kd.R_mono HO_340001.out (fun _ hk => ⟨hk.1.1.1.1.2, ⟨hk.1.1.1.2, ⟨hk.1.1.2, ⟨hk.1.2, ⟨hk.2, ⟨hk.1.1.1.1.1.1, ⟨hk.1.1.1.1.1.2.1, ⟨hk.1.1.1.1.1.2.2.1, ⟨hk.1.1.1.1.1.2.2.2.1, ⟨hk.1.1.1.1.1.2.2.2.2.1, hk.1.1.1.1.1.2.2.2.2.2⟩⟩⟩⟩⟩⟩⟩⟩⟩⟩)), (by (repeat apply rX); exact Kd.R_mono HO_351007.out (fun _ hk => ⟨hk.1.1.1.1.2, ⟨hk.1.1.1.2, ⟨hk.1.1.2, ⟨hk.1.2, ⟨hk.2, ⟨hk.1.1.1.1.1.1, ⟨hk.1.1.1.1.1.2.1, ⟨hk.1.1.1.1.1.2.2.1, ⟨hk.1.1.1.1.1.2.2.2.1, ⟨hk.1.1.1.1.1.2.2.2.2.1, hk.1.1.1.1.1.2.2.2.2.2⟩⟩⟩⟩⟩⟩⟩⟩⟩⟩)), (by (repeat apply rX); exact Kd.R_mono HO_359000.out (fun _ hk => ⟨hk.1.1.1.1.2, ⟨hk.1.1.1.2, ⟨hk.1.1.2, ⟨hk.1.2, ⟨hk.2, ⟨hk.1.1.1.1.1.1, ⟨hk.1.1.1.1.1.2.1, ⟨hk.1.1.1.1.1.2.2.1, ⟨hk.1.1.1.1.1.2.2.2.1, ⟨hk.1.1.1.1.1.2.2.2.2.1, hk.1.1.1.1.1.2.2.2.2.2⟩⟩⟩⟩⟩⟩⟩⟩⟩⟩)), (by (repeat apply rX); exact Kd.R_mono HO_359001.out (fun _ hk => ⟨hk.1.1.1.1.2, ⟨hk.1.1.1.2, ⟨hk.1.1.2, ⟨hk.1.2, ⟨hk.2, ⟨hk.1.1.1.1.1.1, ⟨hk.1.1.1.1.1.2.1, ⟨hk.1.1.1.1.1.2.2.1, ⟨hk.1.1.1.1.1.2.2.2.1, ⟨hk.1.1.1.1.1.2.2.2.2.1, hk.1.1.1.1.1.2.2.2.2.2⟩⟩⟩⟩⟩⟩⟩⟩⟩⟩)), (bY BK305.out), (bY BK306.out), (bY BK332.out), (bY BK339.out), (bY BK350.out), (bY BK358.out), (bY BK411.out), GW411.out, GE411.out, NB305_411.out, NB411_305.out, NB306_411.out, NB411_306.out, NB332_411.out, NB411_332.out, NB339_411.out, NB411_339.out, NB350_411.out, NB411_350.out, NB358_411.out, NB411_358.out, (by repeat (first | (with_reducible first | exact HB.out | apply below_alloc | apply pw_below_drewN | apply below_drew1 | refine below_set ?_ GE305.out | refine below_set ?_ GE306.out | refine below_set ?_ GE332.out | refine below_set ?_ GE339.out | refine below_set ?_ GE350.out | refine below_set ?_ GE358.out | refine below_set ?_ GE411.out) | exact HB.out))⟩)
    ·skip
     refine box_step ?hg (N := 15) ?hd (cs := #[.slice none 0 0, .slice none 0 0]) (t := 27) ?hr ?_; (case hd => rfl); (case hg => rfl); (case hr => first | (go_simp; done) | (go_simp; rfl))
     intro gb411 hg w182 hbox hb
     have n0_ := Aside0.mk (Kd.R_below (rY HO_333000.out) hb)
     have n1_ := Aside0.mk (Kd.R_below (rY HO_333001.out) hb)
     have n2_ := Aside0.mk (Kd.R_below (rY HO_340000.out) hb)
     have n3_ := Aside0.mk (Kd.R_below (rY HO_340001.out) hb)
     have n4_ := Aside0.mk (Kd.R_below (rY HO_351007.out) hb)
     have n5_ := Aside0.mk (Kd.R_below (rY HO_359000.out) hb)
     have n6_ := Aside0.mk (Kd.R_below (rY HO_359001.out) hb)
     have n7_ := Aside0.mk (Kd.R_below (rY HO390.out) hb)
     have n8_ := Aside0.mk (Kd.R_below (rY HO393.out) hb)
     have n9_ := Aside0.mk (blk_below (bY BK305.out) hb)
     have n10_ := Aside0.mk (blk_below (bY BK306.out) hb)
     have n11_ := Aside0.mk (blk_below (bY BK332.out) hb)
     have n12_ := Aside0.mk (blk_below (bY BK339.out) hb)
     have n13_ := Aside0.mk (blk_below (bY BK350.out) hb)
     have n14_ := Aside0.mk (blk_below (bY BK358.out) hb)
     have n15_ := Aside0.mk (below_step (by repeat (first | (with_reducible first | exact HB.out | apply below_alloc | apply pw_below_drewN | apply below_drew1 | refine below_set ?_ GE305.out | refine below_set ?_ GE306.out | refine below_set ?_ GE332.out | refine below_set ?_ GE339.out | refine below_set ?_ GE350.out | refine below_set ?_ GE358.out) | exact HB.out)) hb)
     have n16_ := Aside0.mk (hbox)
     have n17_ := Aside0.mk ((by rw [hg]; exact (below_size (by repeat (first | (with_reducible first | exact HB.out | apply below_alloc | apply pw_below_drewN | apply below_drew1 | refine below_set ?_ GE305.out | refine below_set ?_ GE306.out | refine below_set ?_ GE332.out | refine below_set ?_ GE339.out | refine below_set ?_ GE350.out | refine below_set ?_ GE358.out) | exact HB.out))) : w.heap.size ≤ gb411))
     have n18_ := Aside0.mk ((by rw [hg]; exact (below_size (by repeat (first | (with_reducible first | exact HB.out | apply below_alloc | apply pw_below_drewN | apply below_drew1 | refine below_set ?_ GE305.out | refine below_set ?_ GE306.out | refine below_set ?_ GE332.out | refine below_set ?_ GE339.out | refine below_set ?_ GE350.out | refine below_set ?_ GE358.out) | exact HB.out))) : w.heap.size ≤ gb411))
     have n19_ := Aside0.mk ((by rw [hg]; exact Nat.ne_of_lt (blk_lt (bY BK305.out)) : gb305 ≠ gb411))
     have n20_ := Aside0.mk ((by rw [hg]; exact Nat.ne_of_gt (blk_lt (bY BK305.out)) : gb411 ≠ gb305))
     have n21_ := Aside0.mk ((by rw [hg]; exact Nat.ne_of_lt (blk_lt (bY BK306.out)) : gb306 ≠ gb411))
     have n22_ := Aside0.mk ((by rw [hg]; exact Nat.ne_of_gt (blk_lt (bY BK306.out)) : gb411 ≠ gb306))
     have n23_ := Aside0.mk ((by rw [hg]; exact Nat.ne_of_lt (blk_lt (bY BK332.out)) : gb332 ≠ gb411))
     have n24_ := Aside0.mk ((by rw [hg]; exact Nat.ne_of_gt (blk_lt (bY BK332.out)) : gb411 ≠ gb332))
     have n25_ := Aside0.mk ((by rw [hg]; exact Nat.ne_of_lt (blk_lt (bY BK339.out)) : gb339 ≠ gb411))
     have n26_ := Aside0.mk ((by rw [hg]; exact Nat.ne_of_gt (blk_lt (bY BK339.out)) : gb411 ≠ gb339))
     have n27_ := Aside0.mk ((by rw [hg]; exact Nat.ne_of_lt (blk_lt (bY BK350.out)) : gb350 ≠ gb411))
     have n28_ := Aside0.mk ((by rw [hg]; exact Nat.ne_of_gt (blk_lt (bY BK350.out)) : gb411 ≠ gb350))
     have n29_ := Aside0.mk ((by rw [hg]; exact Nat.ne_of_lt (blk_lt (bY BK358.out)) : gb358 ≠ gb411))
     have n30_ := Aside0.mk ((by rw [hg]; exact Nat.ne_of_gt (blk_lt (bY BK358.out)) : gb411 ≠ gb358))
     clear HO_333000
     clear HO_333001
     clear HO_340000
     clear HO_340001
     clear HO_351007
     clear HO_359000
     clear HO_359001
     clear HO390
     clear HO393
     clear BK305
     clear BK306
     clear BK332
     clear BK339
     clear BK350
     clear BK358
     clear HB
     have HO_333000 := n0_
     have HO_333001 := n1_
     have HO_340000 := n2_
     have HO_340001 := n3_
     have HO_351007 := n4_
     have HO_359000 := n5_
     have HO_359001 := n6_
     have HO390 := n7_
     have HO393 := n8_
     have BK305 := n9_
     have BK306 := n10_
     have BK332 := n11_
     have BK339 := n12_
     have BK350 := n13_
     have BK358 := n14_
     have HB := n15_
     have BK411 := n16_
     have GW411 := n17_
     have GE411 := n18_
     have NB305_411 := n19_
     have NB411_305 := n20_
     have NB306_411 := n21_
     have NB411_306 := n22_
     have NB332_411 := n23_
     have NB411_332 := n24_
     have NB339_411 := n25_
     have NB411_339 := n26_
     have NB350_411 := n27_
     have NB411_350 := n28_
     have NB358_411 := n29_
     have NB411_358 := n30_
     clear n0_ n1_ n2_ n3_ n4_ n5_ n6_ n7_ n8_ n9_ n10_ n11_ n12_ n13_ n14_ n15_ n16_ n17_ n18_ n19_ n20_ n21_ n22_ n23_ n24_ n25_ n26_ n27_ n28_ n29_ n30_
     clear hb hbox hg
     refine hK.out _ _ ⟨(blk_cell BK305.out 0).trans rfl, (blk_cell BK305.out 1).trans rfl, (blk_cell BK306.out 0).trans rfl, (blk_cell BK306.out 1).trans rfl, (blk_cell BK306.out 2).trans rfl, (blk_cell BK306.out 3).trans rfl, (blk_cell BK306.out 4).trans rfl, (blk_cell BK306.out 5).trans rfl, (blk_cell BK306.out 6).trans rfl, (blk_cell BK306.out 7).trans rfl⟩ (fun hHeld => ?_)
     clear hK K
     refine norm_ (a' := ?_) ?_ ?_
     rotate_left
     ·show Act.put _ (some 15) _ = _
      simp only [pS]
      rfl
     refine one_ (i := 3) (N := some 98) #[T, T, T, T, F, F, F, F, T, F, F] rfl rfl (one_of HT_.out (by kernel_rfl)) (by decide) (fun K hK => ?_)
     refine goes_ Try.func22 (by kernel_rfl) rfl #[.agg #[.int .i64 a1_0, .int .i64 a1_1, .int .i64 a1_2, .int .i64 a1_3, .int .i64 a1_4, .int .i64 a1_5, .int .i64 a1_6, .slice A1_7 l1_7.length c1_7]] (by rfl) rfl rfl (by (try simp only [List.map_toArray, List.map_cons, List.map_nil]); first | done | rfl) ?_
     with_reducible refine (laws_toPacket.calls kj111 a1_0 a1_1 a1_2 a1_3 a1_4 a1_5 a1_6 _ _ l1_7 t394 t395 t396 t397 t398 t399 t400 t401 _ ?side1 ?side2 A168.out).mono ?_
     (case side1 => exact cY ((Kd.C_below HR1_7.out HB.out)))
     (case side2 => exact HC1_7.out)
     rintro e w183 ⟨v402, rfl, ho0, hb⟩
     refine ⟨_, rfl, ?_⟩
     have n0_ := Aside0.mk (Kd.R_elder' (rY HO_333000.out) (Kd.R_base ho0) hb)
     have n1_ := Aside0.mk (Kd.R_elder' (rY HO_333001.out) (Kd.R_base ho0) hb)
     have n2_ := Aside0.mk (Kd.R_elder' (rY HO_340000.out) (Kd.R_base ho0) hb)
     have n3_ := Aside0.mk (Kd.R_elder' (rY HO_340001.out) (Kd.R_base ho0) hb)
     have n4_ := Aside0.mk (Kd.R_elder' (rY HO_351007.out) (Kd.R_base ho0) hb)
     have n5_ := Aside0.mk (Kd.R_elder' (rY HO_359000.out) (Kd.R_base ho0) hb)
     have n6_ := Aside0.mk (Kd.R_elder' (rY HO_359001.out) (Kd.R_base ho0) hb)
     have n7_ := Aside0.mk (Kd.R_elder' (rY HO390.out) (Kd.R_base ho0) hb)
     have n8_ := Aside0.mk (Kd.R_elder' (rY HO393.out) (Kd.R_base ho0) hb)
     have n9_ := Aside0.mk (Kd.R_lower (Kd.R_new' (Kd.R_new' (Kd.R_new' (Kd.R_new' (Kd.R_new' (Kd.R_new' (Kd.R_new' (Kd.R_new' (Kd.R_new' ho0 (Kd.R_lt (rY HO_333000.out))) (Kd.R_lt (rY HO_333001.out))) (Kd.R_lt (rY HO_340000.out))) (Kd.R_lt (rY HO_340001.out))) (Kd.R_lt (rY HO_351007.out))) (Kd.R_lt (rY HO_359000.out))) (Kd.R_lt (rY HO_359001.out))) (Kd.R_lt (rY HO390.out))) (Kd.R_lt (rY HO393.out))) (below_size (by repeat (first | (with_reducible first | exact HB.out | apply below_alloc | apply pw_below_drewN | apply below_drew1 | refine below_set ?_ GE305.out | refine below_set ?_ GE306.out | refine below_set ?_ GE332.out | refine below_set ?_ GE339.out | refine below_set ?_ GE350.out | refine below_set ?_ GE358.out | refine below_set ?_ GE411.out) | exact HB.out))))
     have n10_ := Aside0.mk (blk_below (bY BK305.out) hb)
     have n11_ := Aside0.mk (blk_below (bY BK306.out) hb)
     have n12_ := Aside0.mk (blk_below (bY BK332.out) hb)
     have n13_ := Aside0.mk (blk_below (bY BK339.out) hb)
     have n14_ := Aside0.mk (blk_below (bY BK350.out) hb)
     have n15_ := Aside0.mk (blk_below (bY BK358.out) hb)
     have n16_ := Aside0.mk (blk_below (bY BK411.out) hb)
     have n17_ := Aside0.mk (below_step (by repeat (first | (with_reducible first | exact HB.out | apply below_alloc | apply pw_below_drewN | apply below_drew1 | refine below_set ?_ GE305.out | refine below_set ?_ GE306.out | refine below_set ?_ GE332.out | refine below_set ?_ GE339.out | refine below_set ?_ GE350.out | refine below_set ?_ GE358.out | refine below_set ?_ GE411.out) | exact HB.out)) hb)
     clear HO_333000
     clear HO_333001
     clear HO_340000
     clear HO_340001
     clear HO_351007
     clear HO_359000
     clear HO_359001
     clear HO390
     clear HO393
     clear BK305
     clear BK306
     clear BK332
     clear BK339
     clear BK350
     clear BK358
     clear BK411
     clear HB
     have HO_333000 := n0_
     have HO_333001 := n1_
     have HO_340000 := n2_
     have HO_340001 := n3_
     have HO_351007 := n4_
     have HO_359000 := n5_
     have HO_359001 := n6_
     have HO390 := n7_
     have HO393 := n8_
     have HO403 := n9_
     have BK305 := n10_
     have BK306 := n11_
     have BK332 := n12_
     have BK339 := n13_
     have BK350 := n14_
     have BK358 := n15_
     have BK411 := n16_
     have HB := n17_
     clear n0_ n1_ n2_ n3_ n4_ n5_ n6_ n7_ n8_ n9_ n10_ n11_ n12_ n13_ n14_ n15_ n16_ n17_
     obtain ⟨Ao184, co184, eo184⟩ := Kd.R_slice HO390.out
     (first | subst eo184 | (injection eo184 with f1_ f2_ f3_; have f4_ := f1_.symm; have f5_ := f3_.symm; clear f1_ f2_ f3_; subst f4_; subst f5_))
     obtain ⟨Ao185, co185, eo185⟩ := Kd.R_slice HO393.out
     (first | subst eo185 | (injection eo185 with f1_ f2_ f3_; have f4_ := f1_.symm; have f5_ := f3_.symm; clear f1_ f2_ f3_; subst f4_; subst f5_))
     obtain ⟨Ao186, co186, eo186⟩ := Kd.R_slice HO403.out
     (first | subst eo186 | (injection eo186 with f1_ f2_ f3_; have f4_ := f1_.symm; have f5_ := f3_.symm; clear f1_ f2_ f3_; subst f4_; subst f5_))
     refine hK.out _ _ ⟨(blk_cell BK305.out 0).trans rfl, (blk_cell BK305.out 1).trans rfl, (blk_cell BK306.out 0).trans rfl, (blk_cell BK306.out 1).trans rfl, (blk_cell BK306.out 2).trans rfl, (blk_cell BK306.out 3).trans rfl, (blk_cell BK306.out 4).trans rfl, (blk_cell BK306.out 5).trans rfl, (blk_cell BK306.out 6).trans rfl, (blk_cell BK306.out 7).trans rfl⟩ (fun hHeld => ?_)
     clear hK K
     refine norm_ (a' := ?_) ?_ ?_
     rotate_left
     ·show Act.put _ (some 98) _ = _
      simp only [pS]
      rfl
     refine one_ (i := 4) (N := some 99) #[T, T, T, T, T, F, F, F, T, F, F] rfl rfl (one_of HT_.out (by kernel_rfl)) (by decide) (fun K hK => ?_)
     refine goes_ Try.func61 (by kernel_rfl) rfl #[.agg #[.slice Ao184 t388.length co184, .slice Ao185 t391.length co185], .agg #[.int .i64 t394, .int .i64 t395, .int .i64 t396, .int .i64 t397, .int .i64 t398, .int .i64 t399, .int .i64 t400, .slice Ao186 t401.length co186]] (by rfl) rfl rfl (by (try simp only [List.map_toArray, List.map_cons, List.map_nil]); first | done | rfl) ?_
     with_reducible refine (impl_SpendCredits.calls kj111 _ _ t388 _ _ t391 t394 t395 t396 t397 t398 t399 t400 _ _ t401 t404 t407 t410 _ ?side1 ?side2 ?side3 ?side4 ?side5 ?side6 A169.out).mono ?_
     (case side1 => exact cY ((Kd.R_reads' HO390.out).2.2))
     (case side2 => exact (Kd.R_reads' HO390.out).2.1)
     (case side3 => exact cY ((Kd.R_reads' HO393.out).2.2))
     (case side4 => exact (Kd.R_reads' HO393.out).2.1)
     (case side5 => exact cY ((Kd.R_reads' HO403.out).2.2))
     (case side6 => exact (Kd.R_reads' HO403.out).2.1)
     rintro e w187 ⟨v405, v408, rfl, ho0, ho1, hb⟩
     refine ⟨_, rfl, ?_⟩
     have n0_ := Aside0.mk (Kd.R_mono (Kd.R_told (Kd.R_told (Kd.R_old (rY HO_333000.out) hb) (Kd.R_base ho0)) (Kd.R_base ho1)) (fun _ h_ => h_.1))
     have n1_ := Aside0.mk (Kd.R_mono (Kd.R_told (Kd.R_told (Kd.R_old (rY HO_333001.out) hb) (Kd.R_base ho0)) (Kd.R_base ho1)) (fun _ h_ => h_.1))
     have n2_ := Aside0.mk (Kd.R_mono (Kd.R_told (Kd.R_told (Kd.R_old (rY HO_340000.out) hb) (Kd.R_base ho0)) (Kd.R_base ho1)) (fun _ h_ => h_.1))
     have n3_ := Aside0.mk (Kd.R_mono (Kd.R_told (Kd.R_told (Kd.R_old (rY HO_340001.out) hb) (Kd.R_base ho0)) (Kd.R_base ho1)) (fun _ h_ => h_.1))
     have n4_ := Aside0.mk (Kd.R_mono (Kd.R_told (Kd.R_told (Kd.R_old (rY HO_351007.out) hb) (Kd.R_base ho0)) (Kd.R_base ho1)) (fun _ h_ => h_.1))
     have n5_ := Aside0.mk (Kd.R_mono (Kd.R_told (Kd.R_told (Kd.R_old (rY HO_359000.out) hb) (Kd.R_base ho0)) (Kd.R_base ho1)) (fun _ h_ => h_.1))
     have n6_ := Aside0.mk (Kd.R_mono (Kd.R_told (Kd.R_told (Kd.R_old (rY HO_359001.out) hb) (Kd.R_base ho0)) (Kd.R_base ho1)) (fun _ h_ => h_.1))
     have n7_ := Aside0.mk (Kd.R_mono (Kd.R_told (Kd.R_told (Kd.R_old (rY HO390.out) hb) (Kd.R_base ho0)) (Kd.R_base ho1)) (fun _ h_ => h_.1))
     have n8_ := Aside0.mk (Kd.R_mono (Kd.R_told (Kd.R_told (Kd.R_old (rY HO393.out) hb) (Kd.R_base ho0)) (Kd.R_base ho1)) (fun _ h_ => h_.1))
     have n9_ := Aside0.mk (Kd.R_mono (Kd.R_told (Kd.R_told (Kd.R_old (rY HO403.out) hb) (Kd.R_base ho0)) (Kd.R_base ho1)) (fun _ h_ => h_.1))
     have n10_ := Aside0.mk (Kd.R_lower (Kd.R_new' (Kd.R_new' (Kd.R_new' (Kd.R_new' (Kd.R_new' (Kd.R_new' (Kd.R_new' (Kd.R_new' (Kd.R_new' (Kd.R_new' ho0 (Kd.R_lt (rY HO_333000.out))) (Kd.R_lt (rY HO_333001.out))) (Kd.R_lt (rY HO_340000.out))) (Kd.R_lt (rY HO_340001.out))) (Kd.R_lt (rY HO_351007.out))) (Kd.R_lt (rY HO_359000.out))) (Kd.R_lt (rY HO_359001.out))) (Kd.R_lt (rY HO390.out))) (Kd.R_lt (rY HO393.out))) (Kd.R_lt (rY HO403.out))) (below_size (by repeat (first | (with_reducible first | exact HB.out | apply below_alloc | apply pw_below_drewN | apply below_drew1 | refine below_set ?_ GE305.out | refine below_set ?_ GE306.out | refine below_set ?_ GE332.out | refine below_set ?_ GE339.out | refine below_set ?_ GE350.out | refine below_set ?_ GE358.out | refine below_set ?_ GE411.out) | exact HB.out))))
     have n11_ := Aside0.mk (Kd.R_lower (Kd.R_new' (Kd.R_new' (Kd.R_new' (Kd.R_new' (Kd.R_new' (Kd.R_new' (Kd.R_new' (Kd.R_new' (Kd.R_new' (Kd.R_new' ho1 (Kd.R_lt (rY HO_333000.out))) (Kd.R_lt (rY HO_333001.out))) (Kd.R_lt (rY HO_340000.out))) (Kd.R_lt (rY HO_340001.out))) (Kd.R_lt (rY HO_351007.out))) (Kd.R_lt (rY HO_359000.out))) (Kd.R_lt (rY HO_359001.out))) (Kd.R_lt (rY HO390.out))) (Kd.R_lt (rY HO393.out))) (Kd.R_lt (rY HO403.out))) (below_size (by repeat (first | (with_reducible first | exact HB.out | apply below_alloc | apply pw_below_drewN | apply below_drew1 | refine below_set ?_ GE305.out | refine below_set ?_ GE306.out | refine below_set ?_ GE332.out | refine below_set ?_ GE339.out | refine below_set ?_ GE350.out | refine below_set ?_ GE358.out | refine below_set ?_ GE411.out) | exact HB.out))))
     have n12_ := Aside0.mk (blk_below (bY BK305.out) hb)
     have n13_ := Aside0.mk (blk_below (bY BK306.out) hb)
     have n14_ := Aside0.mk (blk_below (bY BK332.out) hb)
     have n15_ := Aside0.mk (blk_below (bY BK339.out) hb)
     have n16_ := Aside0.mk (blk_below (bY BK350.out) hb)
     have n17_ := Aside0.mk (blk_below (bY BK358.out) hb)
     have n18_ := Aside0.mk (blk_below (bY BK411.out) hb)
     have n19_ := Aside0.mk (below_step (by repeat (first | (with_reducible first | exact HB.out | apply below_alloc | apply pw_below_drewN | apply below_drew1 | refine below_set ?_ GE305.out | refine below_set ?_ GE306.out | refine below_set ?_ GE332.out | refine below_set ?_ GE339.out | refine below_set ?_ GE350.out | refine below_set ?_ GE358.out | refine below_set ?_ GE411.out) | exact HB.out)) hb)
     clear HO_333000
     clear HO_333001
     clear HO_340000
     clear HO_340001
     clear HO_351007
     clear HO_359000
     clear HO_359001
     clear HO390
     clear HO393
     clear HO403
     clear BK305
     clear BK306
     clear BK332
     clear BK339
     clear BK350
     clear BK358
     clear BK411
     clear HB
     have HO_333000 := n0_
     have HO_333001 := n1_
     have HO_340000 := n2_
     have HO_340001 := n3_
     have HO_351007 := n4_
     have HO_359000 := n5_
     have HO_359001 := n6_
     have HO390 := n7_
     have HO393 := n8_
     have HO403 := n9_
     have HO406 := n10_
     have HO409 := n11_
     have BK305 := n12_
     have BK306 := n13_
     have BK332 := n14_
     have BK339 := n15_
     have BK350 := n16_
     have BK358 := n17_
     have BK411 := n18_
     have HB := n19_
     clear n0_ n1_ n2_ n3_ n4_ n5_ n6_ n7_ n8_ n9_ n10_ n11_ n12_ n13_ n14_ n15_ n16_ n17_ n18_ n19_
     refine hK.out _ _ ⟨(blk_cell BK305.out 0).trans rfl, (blk_cell BK305.out 1).trans rfl, (blk_cell BK306.out 0).trans rfl, (blk_cell BK306.out 1).trans rfl, (blk_cell BK306.out 2).trans rfl, (blk_cell BK306.out 3).trans rfl, (blk_cell BK306.out 4).trans rfl, (blk_cell BK306.out 5).trans rfl, (blk_cell BK306.out 6).trans rfl, (blk_cell BK306.out 7).trans rfl⟩ (fun hHeld => ?_)
     clear hK K
     refine norm_ (a' := ?_) ?_ ?_
     rotate_left
     ·show Act.put _ (some 99) _ = _
      simp only [pS]
      rfl
     refine pure_ (i := 5) (N := some 94) (v := ?_) (a' := ?_) #[T, T, T, T, T, T, F, F, T, F, F] rfl rfl (any_of HT_.out (by kernel_rfl)) (fun _ _ _ h => h) (Or.inl ⟨by rfl, ?_⟩) ?_ ?_
     rotate_left
     ·intro w'
      go_simp
      with_reducible rfl
     rotate_left
     ·simp only [pS]
      rfl
     refine pure_ (i := 6) (N := some 100) (v := ?_) (a' := ?_) #[T, T, T, T, T, T, T, F, T, F, F] rfl rfl (any_of HT_.out (by kernel_rfl)) (fun _ _ _ h => h) (Or.inl ⟨by rfl, ?_⟩) ?_ ?_
     rotate_left
     ·intro w'
      go_simp
      with_reducible rfl
     rotate_left
     ·simp only [pS]
      rfl
     refine pure_ (i := 7) (N := some 101) (v := ?_) (a' := ?_) #[T, T, T, T, T, T, T, T, T, F, F] rfl rfl (any_of HT_.out (by kernel_rfl)) (fun _ _ _ h => h) (Or.inl ⟨by rfl, ?_⟩) ?_ ?_
     rotate_left
     ·intro w'
      go_simp
      with_reducible rfl
     rotate_left
     ·simp only [pS]
      rfl
     exact norm_ (by simp only [putAll, Act.put, List.setIfInBounds_toArray, List.set_cons_zero, List.set_cons_succ]) (hCont (.slice Ao184 t388.length co184, .slice Ao185 t391.length co185, .slice Ao186 t401.length co186, v405, v408, gb411) _ ⟨hHeld, (by (repeat apply rX); exact Kd.R_mono HO390.out (fun _ hk => ⟨hk.1.1.1.1.1.1.1.1.1.1, ⟨hk.1.1.2, ⟨hk.1.2, ⟨hk.2, ⟨hk.1.1.1.1.1.1.1.1.1.2, ⟨hk.1.1.1.1.1.1.1.1.2, ⟨hk.1.1.1.1.1.1.1.2, ⟨hk.1.1.1.1.1.1.2, ⟨hk.1.1.1.1.1.2, ⟨hk.1.1.1.1.2, hk.1.1.1.2⟩⟩⟩⟩⟩⟩⟩⟩⟩⟩)), (by (repeat apply rX); exact Kd.R_mono HO393.out (fun _ hk => ⟨hk.1.1.1.1.1.1.1.1.1.1, ⟨hk.1.1.2, ⟨hk.1.2, ⟨hk.2, ⟨hk.1.1.1.1.1.1.1.1.1.2, ⟨hk.1.1.1.1.1.1.1.1.2, ⟨hk.1.1.1.1.1.1.1.2, ⟨hk.1.1.1.1.1.1.2, ⟨hk.1.1.1.1.1.2, ⟨hk.1.1.1.1.2, hk.1.1.1.2⟩⟩⟩⟩⟩⟩⟩⟩⟩⟩)), (by (repeat apply rX); exact Kd.R_mono HO403.out (fun _ hk => ⟨hk.1.1.1.2, ⟨hk.1.1.2, ⟨hk.1.2, ⟨hk.2, ⟨hk.1.1.1.1.1.1.1.1.1.1.2, ⟨hk.1.1.1.1.1.1.1.1.1.2, ⟨hk.1.1.1.1.1.1.1.1.2, ⟨hk.1.1.1.1.1.1.1.2, ⟨hk.1.1.1.1.1.1.2, ⟨hk.1.1.1.1.1.2, hk.1.1.1.1.2⟩⟩⟩⟩⟩⟩⟩⟩⟩⟩)), (by (repeat apply rX); exact Kd.R_mono HO406.out (fun _ hk => ⟨hk.1.1.2, ⟨hk.1.2, ⟨hk.2, ⟨hk.1.1.1.1.1.1.1.1.1.1, ⟨hk.1.1.1.1.1.1.1.1.1.2, ⟨hk.1.1.1.1.1.1.1.1.2, ⟨hk.1.1.1.1.1.1.1.2, ⟨hk.1.1.1.1.1.1.2, ⟨hk.1.1.1.1.1.2, ⟨hk.1.1.1.1.2, hk.1.1.1.2⟩⟩⟩⟩⟩⟩⟩⟩⟩⟩)), (by (repeat apply rX); exact Kd.R_mono HO409.out (fun _ hk => ⟨hk.1.1.2, ⟨hk.1.2, ⟨hk.2, ⟨hk.1.1.1.1.1.1.1.1.1.1, ⟨hk.1.1.1.1.1.1.1.1.1.2, ⟨hk.1.1.1.1.1.1.1.1.2, ⟨hk.1.1.1.1.1.1.1.2, ⟨hk.1.1.1.1.1.1.2, ⟨hk.1.1.1.1.1.2, ⟨hk.1.1.1.1.2, hk.1.1.1.2⟩⟩⟩⟩⟩⟩⟩⟩⟩⟩)), (by (repeat apply rX); exact Kd.R_mono HO_333000.out (fun _ hk => ⟨hk.1.1.1.1.2, ⟨hk.1.1.1.2, ⟨hk.1.1.2, ⟨hk.1.2, ⟨hk.2, ⟨hk.1.1.1.1.1.1, ⟨hk.1.1.1.1.1.2.1, ⟨hk.1.1.1.1.1.2.2.1, ⟨hk.1.1.1.1.1.2.2.2.1, ⟨hk.1.1.1.1.1.2.2.2.2.1, hk.1.1.1.1.1.2.2.2.2.2⟩⟩⟩⟩⟩⟩⟩⟩⟩⟩)), (by (repeat apply rX); exact Kd.R_mono HO_333001.out (fun _ hk => ⟨hk.1.1.1.1.2, ⟨hk.1.1.1.2, ⟨hk.1.1.2, ⟨hk.1.2, ⟨hk.2, ⟨hk.1.1.1.1.1.1, ⟨hk.1.1.1.1.1.2.1, ⟨hk.1.1.1.1.1.2.2.1, ⟨hk.1.1.1.1.1.2.2.2.1, ⟨hk.1.1.1.1.1.2.2.2.2.1, hk.1.1.1.1.1.2.2.2.2.2⟩⟩⟩⟩⟩⟩⟩⟩⟩⟩)), (by (repeat apply rX); exact Kd.R_mono HO_340000.out (fun _ hk => ⟨hk.1.1.1.1.2, ⟨hk.1.1.1.2, ⟨hk.1.1.2, ⟨hk.1.2, ⟨hk.2, ⟨hk.1.1.1.1.1.1, ⟨hk.1.1.1.1.1.2.1, ⟨hk.1.1.1.1.1.2.2.1, ⟨hk.1.1.1.1.1.2.2.2.1, ⟨hk.1.1.1.1.1.2.2.2.2.1, hk.1.1.1.1.1.2.2.2.2.2⟩⟩⟩⟩⟩⟩⟩⟩⟩⟩)), (by (repeat apply rX); exact Kd.R_mono HO_340001.out (fun _ hk => ⟨hk.1.1.1.1.2, ⟨hk.1.1.1.2, ⟨hk.1.1.2, ⟨hk.1.2, ⟨hk.2, ⟨hk.1.1.1.1.1.1, ⟨hk.1.1.1.1.1.2.1, ⟨hk.1.1.1.1.1.2.2.1, ⟨hk.1.1.1.1.1.2.2.2.1, ⟨hk.1.1.1.1.1.2.2.2.2.1, hk.1.1.1.1.1.2.2.2.2.2⟩⟩⟩⟩⟩⟩⟩⟩⟩⟩)), (by (repeat apply rX); exact Kd.R_mono HO_351007.out (fun _ hk => ⟨hk.1.1.1.1.2, ⟨hk.1.1.1.2, ⟨hk.1.1.2, ⟨hk.1.2, ⟨hk.2, ⟨hk.1.1.1.1.1.1, ⟨hk.1.1.1.1.1.2.1, ⟨hk.1.1.1.1.1.2.2.1, ⟨hk.1.1.1.1.1.2.2.2.1, ⟨hk.1.1.1.1.1.2.2.2.2.1, hk.1.1.1.1.1.2.2.2.2.2⟩⟩⟩⟩⟩⟩⟩⟩⟩⟩)), (by (repeat apply rX); exact Kd.R_mono HO_359000.out (fun _ hk => ⟨hk.1.1.1.1.2, ⟨hk.1.1.1.2, ⟨hk.1.1.2, ⟨hk.1.2, ⟨hk.2, ⟨hk.1.1.1.1.1.1, ⟨hk.1.1.1.1.1.2.1, ⟨hk.1.1.1.1.1.2.2.1, ⟨hk.1.1.1.1.1.2.2.2.1, ⟨hk.1.1.1.1.1.2.2.2.2.1, hk.1.1.1.1.1.2.2.2.2.2⟩⟩⟩⟩⟩⟩⟩⟩⟩⟩)), (by (repeat apply rX); exact Kd.R_mono HO_359001.out (fun _ hk => ⟨hk.1.1.1.1.2, ⟨hk.1.1.1.2, ⟨hk.1.1.2, ⟨hk.1.2, ⟨hk.2, ⟨hk.1.1.1.1.1.1, ⟨hk.1.1.1.1.1.2.1, ⟨hk.1.1.1.1.1.2.2.1, ⟨hk.1.1.1.1.1.2.2.2.1, ⟨hk.1.1.1.1.1.2.2.2.2.1, hk.1.1.1.1.1.2.2.2.2.2⟩⟩⟩⟩⟩⟩⟩⟩⟩⟩)), (bY BK305.out), (bY BK306.out), (bY BK332.out), (bY BK339.out), (bY BK350.out), (bY BK358.out), (bY BK411.out), GW411.out, GE411.out, NB305_411.out, NB411_305.out, NB306_411.out, NB411_306.out, NB332_411.out, NB411_332.out, NB339_411.out, NB411_339.out, NB350_411.out, NB411_350.out, NB358_411.out, NB411_358.out, (by repeat (first | (with_reducible first | exact HB.out | apply below_alloc | apply pw_below_drewN | apply below_drew1 | refine below_set ?_ GE305.out | refine below_set ?_ GE306.out | refine below_set ?_ GE332.out | refine below_set ?_ GE339.out | refine below_set ?_ GE350.out | refine below_set ?_ GE358.out | refine below_set ?_ GE411.out) | exact HB.out))⟩)
   ·skip
    refine box_step ?hg (N := 15) ?hd (cs := #[.slice none 0 0, .slice none 0 0]) (t := 27) ?hr ?_; (case hd => rfl); (case hg => rfl); (case hr => first | (go_simp; done) | (go_simp; rfl))
    intro gb411 hg w181 hbox hb
    have n0_ := Aside0.mk (Kd.R_below (rY HO_333000.out) hb)
    have n1_ := Aside0.mk (Kd.R_below (rY HO_333001.out) hb)
    have n2_ := Aside0.mk (Kd.R_below (rY HO_340000.out) hb)
    have n3_ := Aside0.mk (Kd.R_below (rY HO_340001.out) hb)
    have n4_ := Aside0.mk (Kd.R_below (rY HO_351007.out) hb)
    have n5_ := Aside0.mk (Kd.R_below (rY HO_359000.out) hb)
    have n6_ := Aside0.mk (Kd.R_below (rY HO_359001.out) hb)
    have n7_ := Aside0.mk (blk_below (bY BK305.out) hb)
    have n8_ := Aside0.mk (blk_below (bY BK306.out) hb)
    have n9_ := Aside0.mk (blk_below (bY BK332.out) hb)
    have n10_ := Aside0.mk (blk_below (bY BK339.out) hb)
    have n11_ := Aside0.mk (blk_below (bY BK350.out) hb)
    have n12_ := Aside0.mk (blk_below (bY BK358.out) hb)
    have n13_ := Aside0.mk (below_step (by repeat (first | (with_reducible first | exact HB.out | apply below_alloc | apply pw_below_drewN | apply below_drew1 | refine below_set ?_ GE305.out | refine below_set ?_ GE306.out | refine below_set ?_ GE332.out | refine below_set ?_ GE339.out | refine below_set ?_ GE350.out | refine below_set ?_ GE358.out) | exact HB.out)) hb)
    have n14_ := Aside0.mk (hbox)
    have n15_ := Aside0.mk ((by rw [hg]; exact (below_size (by repeat (first | (with_reducible first | exact HB.out | apply below_alloc | apply pw_below_drewN | apply below_drew1 | refine below_set ?_ GE305.out | refine below_set ?_ GE306.out | refine below_set ?_ GE332.out | refine below_set ?_ GE339.out | refine below_set ?_ GE350.out | refine below_set ?_ GE358.out) | exact HB.out))) : w.heap.size ≤ gb411))
    have n16_ := Aside0.mk ((by rw [hg]; exact (below_size (by repeat (first | (with_reducible first | exact HB.out | apply below_alloc | apply pw_below_drewN | apply below_drew1 | refine below_set ?_ GE305.out | refine below_set ?_ GE306.out | refine below_set ?_ GE332.out | refine below_set ?_ GE339.out | refine below_set ?_ GE350.out | refine below_set ?_ GE358.out) | exact HB.out))) : w.heap.size ≤ gb411))
    have n17_ := Aside0.mk ((by rw [hg]; exact Nat.ne_of_lt (blk_lt (bY BK305.out)) : gb305 ≠ gb411))
    have n18_ := Aside0.mk ((by rw [hg]; exact Nat.ne_of_gt (blk_lt (bY BK305.out)) : gb411 ≠ gb305))
    have n19_ := Aside0.mk ((by rw [hg]; exact Nat.ne_of_lt (blk_lt (bY BK306.out)) : gb306 ≠ gb411))
    have n20_ := Aside0.mk ((by rw [hg]; exact Nat.ne_of_gt (blk_lt (bY BK306.out)) : gb411 ≠ gb306))
    have n21_ := Aside0.mk ((by rw [hg]; exact Nat.ne_of_lt (blk_lt (bY BK332.out)) : gb332 ≠ gb411))
    have n22_ := Aside0.mk ((by rw [hg]; exact Nat.ne_of_gt (blk_lt (bY BK332.out)) : gb411 ≠ gb332))
    have n23_ := Aside0.mk ((by rw [hg]; exact Nat.ne_of_lt (blk_lt (bY BK339.out)) : gb339 ≠ gb411))
    have n24_ := Aside0.mk ((by rw [hg]; exact Nat.ne_of_gt (blk_lt (bY BK339.out)) : gb411 ≠ gb339))
    have n25_ := Aside0.mk ((by rw [hg]; exact Nat.ne_of_lt (blk_lt (bY BK350.out)) : gb350 ≠ gb411))
    have n26_ := Aside0.mk ((by rw [hg]; exact Nat.ne_of_gt (blk_lt (bY BK350.out)) : gb411 ≠ gb350))
    have n27_ := Aside0.mk ((by rw [hg]; exact Nat.ne_of_lt (blk_lt (bY BK358.out)) : gb358 ≠ gb411))
    have n28_ := Aside0.mk ((by rw [hg]; exact Nat.ne_of_gt (blk_lt (bY BK358.out)) : gb411 ≠ gb358))
    clear HO_333000
    clear HO_333001
    clear HO_340000
    clear HO_340001
    clear HO_351007
    clear HO_359000
    clear HO_359001
    clear BK305
    clear BK306
    clear BK332
    clear BK339
    clear BK350
    clear BK358
    clear HB
    have HO_333000 := n0_
    have HO_333001 := n1_
    have HO_340000 := n2_
    have HO_340001 := n3_
    have HO_351007 := n4_
    have HO_359000 := n5_
    have HO_359001 := n6_
    have BK305 := n7_
    have BK306 := n8_
    have BK332 := n9_
    have BK339 := n10_
    have BK350 := n11_
    have BK358 := n12_
    have HB := n13_
    have BK411 := n14_
    have GW411 := n15_
    have GE411 := n16_
    have NB305_411 := n17_
    have NB411_305 := n18_
    have NB306_411 := n19_
    have NB411_306 := n20_
    have NB332_411 := n21_
    have NB411_332 := n22_
    have NB339_411 := n23_
    have NB411_339 := n24_
    have NB350_411 := n25_
    have NB411_350 := n26_
    have NB358_411 := n27_
    have NB411_358 := n28_
    clear n0_ n1_ n2_ n3_ n4_ n5_ n6_ n7_ n8_ n9_ n10_ n11_ n12_ n13_ n14_ n15_ n16_ n17_ n18_ n19_ n20_ n21_ n22_ n23_ n24_ n25_ n26_ n27_ n28_
    clear hb hbox hg
    refine hK.out _ _ ⟨(blk_cell BK305.out 0).trans rfl, (blk_cell BK305.out 1).trans rfl, (blk_cell BK306.out 0).trans rfl, (blk_cell BK306.out 1).trans rfl, (blk_cell BK306.out 2).trans rfl, (blk_cell BK306.out 3).trans rfl, (blk_cell BK306.out 4).trans rfl, (blk_cell BK306.out 5).trans rfl, (blk_cell BK306.out 6).trans rfl, (blk_cell BK306.out 7).trans rfl⟩ (fun hHeld => ?_)
    clear hK K
    refine norm_ (a' := ?_) ?_ ?_
    rotate_left
    ·show Act.put _ (some 15) _ = _
     simp only [pS]
     rfl
    refine one_ (i := 1) (N := some 96) #[T, T, T, F, F, F, F, F, T, F, F] rfl rfl (one_of HT_.out (by kernel_rfl)) (by decide) (fun K hK => ?_)
    refine goes_ Try.func17 (by kernel_rfl) rfl #[.agg #[.slice A0_0 l0_0.length c0_0, .slice A0_1 l0_1.length c0_1]] (by rfl) rfl rfl (by (try simp only [List.map_toArray, List.map_cons, List.map_nil]); first | done | rfl) ?_
    with_reducible refine (laws_toCredits.calls kj111 _ _ l0_0 _ _ l0_1 t388 t391 _ ?side1 ?side2 ?side3 ?side4 A167.out).mono ?_
    (case side1 => exact cY ((Kd.C_below HR0_0.out HB.out)))
    (case side2 => exact HC0_0.out)
    (case side3 => exact cY ((Kd.C_below HR0_1.out HB.out)))
    (case side4 => exact HC0_1.out)
    rintro e w182 ⟨v389, v392, rfl, ho0, ho1, hb⟩
    refine ⟨_, rfl, ?_⟩
    have n0_ := Aside0.mk (Kd.R_mono (Kd.R_told (Kd.R_told (Kd.R_old (rY HO_333000.out) hb) (Kd.R_base ho0)) (Kd.R_base ho1)) (fun _ h_ => h_.1))
    have n1_ := Aside0.mk (Kd.R_mono (Kd.R_told (Kd.R_told (Kd.R_old (rY HO_333001.out) hb) (Kd.R_base ho0)) (Kd.R_base ho1)) (fun _ h_ => h_.1))
    have n2_ := Aside0.mk (Kd.R_mono (Kd.R_told (Kd.R_told (Kd.R_old (rY HO_340000.out) hb) (Kd.R_base ho0)) (Kd.R_base ho1)) (fun _ h_ => h_.1))
    have n3_ := Aside0.mk (Kd.R_mono (Kd.R_told (Kd.R_told (Kd.R_old (rY HO_340001.out) hb) (Kd.R_base ho0)) (Kd.R_base ho1)) (fun _ h_ => h_.1))
    have n4_ := Aside0.mk (Kd.R_mono (Kd.R_told (Kd.R_told (Kd.R_old (rY HO_351007.out) hb) (Kd.R_base ho0)) (Kd.R_base ho1)) (fun _ h_ => h_.1))
    have n5_ := Aside0.mk (Kd.R_mono (Kd.R_told (Kd.R_told (Kd.R_old (rY HO_359000.out) hb) (Kd.R_base ho0)) (Kd.R_base ho1)) (fun _ h_ => h_.1))
    have n6_ := Aside0.mk (Kd.R_mono (Kd.R_told (Kd.R_told (Kd.R_old (rY HO_359001.out) hb) (Kd.R_base ho0)) (Kd.R_base ho1)) (fun _ h_ => h_.1))
    have n7_ := Aside0.mk (Kd.R_lower (Kd.R_new' (Kd.R_new' (Kd.R_new' (Kd.R_new' (Kd.R_new' (Kd.R_new' (Kd.R_new' ho0 (Kd.R_lt (rY HO_333000.out))) (Kd.R_lt (rY HO_333001.out))) (Kd.R_lt (rY HO_340000.out))) (Kd.R_lt (rY HO_340001.out))) (Kd.R_lt (rY HO_351007.out))) (Kd.R_lt (rY HO_359000.out))) (Kd.R_lt (rY HO_359001.out))) (below_size (by repeat (first | (with_reducible first | exact HB.out | apply below_alloc | apply pw_below_drewN | apply below_drew1 | refine below_set ?_ GE305.out | refine below_set ?_ GE306.out | refine below_set ?_ GE332.out | refine below_set ?_ GE339.out | refine below_set ?_ GE350.out | refine below_set ?_ GE358.out | refine below_set ?_ GE411.out) | exact HB.out))))
    have n8_ := Aside0.mk (Kd.R_lower (Kd.R_new' (Kd.R_new' (Kd.R_new' (Kd.R_new' (Kd.R_new' (Kd.R_new' (Kd.R_new' ho1 (Kd.R_lt (rY HO_333000.out))) (Kd.R_lt (rY HO_333001.out))) (Kd.R_lt (rY HO_340000.out))) (Kd.R_lt (rY HO_340001.out))) (Kd.R_lt (rY HO_351007.out))) (Kd.R_lt (rY HO_359000.out))) (Kd.R_lt (rY HO_359001.out))) (below_size (by repeat (first | (with_reducible first | exact HB.out | apply below_alloc | apply pw_below_drewN | apply below_drew1 | refine below_set ?_ GE305.out | refine below_set ?_ GE306.out | refine below_set ?_ GE332.out | refine below_set ?_ GE339.out | refine below_set ?_ GE350.out | refine below_set ?_ GE358.out | refine below_set ?_ GE411.out) | exact HB.out))))
    have n9_ := Aside0.mk (blk_below (bY BK305.out) hb)
    have n10_ := Aside0.mk (blk_below (bY BK306.out) hb)
    have n11_ := Aside0.mk (blk_below (bY BK332.out) hb)
    have n12_ := Aside0.mk (blk_below (bY BK339.out) hb)
    have n13_ := Aside0.mk (blk_below (bY BK350.out) hb)
    have n14_ := Aside0.mk (blk_below (bY BK358.out) hb)
    have n15_ := Aside0.mk (blk_below (bY BK411.out) hb)
    have n16_ := Aside0.mk (below_step (by repeat (first | (with_reducible first | exact HB.out | apply below_alloc | apply pw_below_drewN | apply below_drew1 | refine below_set ?_ GE305.out | refine below_set ?_ GE306.out | refine below_set ?_ GE332.out | refine below_set ?_ GE339.out | refine below_set ?_ GE350.out | refine below_set ?_ GE358.out | refine below_set ?_ GE411.out) | exact HB.out)) hb)
    clear HO_333000
    clear HO_333001
    clear HO_340000
    clear HO_340001
    clear HO_351007
    clear HO_359000
    clear HO_359001
    clear BK305
    clear BK306
    clear BK332
    clear BK339
    clear BK350
    clear BK358
    clear BK411
    clear HB
    have HO_333000 := n0_
    have HO_333001 := n1_
    have HO_340000 := n2_
    have HO_340001 := n3_
    have HO_351007 := n4_
    have HO_359000 := n5_
    have HO_359001 := n6_
    have HO390 := n7_
    have HO393 := n8_
    have BK305 := n9_
    have BK306 := n10_
    have BK332 := n11_
    have BK339 := n12_
    have BK350 := n13_
    have BK358 := n14_
    have BK411 := n15_
    have HB := n16_
    clear n0_ n1_ n2_ n3_ n4_ n5_ n6_ n7_ n8_ n9_ n10_ n11_ n12_ n13_ n14_ n15_ n16_
    refine hK.out _ _ ⟨(blk_cell BK305.out 0).trans rfl, (blk_cell BK305.out 1).trans rfl, (blk_cell BK306.out 0).trans rfl, (blk_cell BK306.out 1).trans rfl, (blk_cell BK306.out 2).trans rfl, (blk_cell BK306.out 3).trans rfl, (blk_cell BK306.out 4).trans rfl, (blk_cell BK306.out 5).trans rfl, (blk_cell BK306.out 6).trans rfl, (blk_cell BK306.out 7).trans rfl⟩ (fun hHeld => ?_)
    clear hK K
    refine norm_ (a' := ?_) ?_ ?_
    rotate_left
    ·show Act.put _ (some 96) _ = _
     simp only [pS]
     rfl
    refine one_ (i := 3) (N := some 98) #[T, T, T, T, F, F, F, F, T, F, F] rfl rfl (one_of HT_.out (by kernel_rfl)) (by decide) (fun K hK => ?_)
    refine goes_ Try.func22 (by kernel_rfl) rfl #[.agg #[.int .i64 a1_0, .int .i64 a1_1, .int .i64 a1_2, .int .i64 a1_3, .int .i64 a1_4, .int .i64 a1_5, .int .i64 a1_6, .slice A1_7 l1_7.length c1_7]] (by rfl) rfl rfl (by (try simp only [List.map_toArray, List.map_cons, List.map_nil]); first | done | rfl) ?_
    with_reducible refine (laws_toPacket.calls kj111 a1_0 a1_1 a1_2 a1_3 a1_4 a1_5 a1_6 _ _ l1_7 t394 t395 t396 t397 t398 t399 t400 t401 _ ?side1 ?side2 A168.out).mono ?_
    (case side1 => exact cY ((Kd.C_below HR1_7.out HB.out)))
    (case side2 => exact HC1_7.out)
    rintro e w183 ⟨v402, rfl, ho0, hb⟩
    refine ⟨_, rfl, ?_⟩
    have n0_ := Aside0.mk (Kd.R_elder' (rY HO_333000.out) (Kd.R_base ho0) hb)
    have n1_ := Aside0.mk (Kd.R_elder' (rY HO_333001.out) (Kd.R_base ho0) hb)
    have n2_ := Aside0.mk (Kd.R_elder' (rY HO_340000.out) (Kd.R_base ho0) hb)
    have n3_ := Aside0.mk (Kd.R_elder' (rY HO_340001.out) (Kd.R_base ho0) hb)
    have n4_ := Aside0.mk (Kd.R_elder' (rY HO_351007.out) (Kd.R_base ho0) hb)
    have n5_ := Aside0.mk (Kd.R_elder' (rY HO_359000.out) (Kd.R_base ho0) hb)
    have n6_ := Aside0.mk (Kd.R_elder' (rY HO_359001.out) (Kd.R_base ho0) hb)
    have n7_ := Aside0.mk (Kd.R_elder' (rY HO390.out) (Kd.R_base ho0) hb)
    have n8_ := Aside0.mk (Kd.R_elder' (rY HO393.out) (Kd.R_base ho0) hb)
    have n9_ := Aside0.mk (Kd.R_lower (Kd.R_new' (Kd.R_new' (Kd.R_new' (Kd.R_new' (Kd.R_new' (Kd.R_new' (Kd.R_new' (Kd.R_new' (Kd.R_new' ho0 (Kd.R_lt (rY HO_333000.out))) (Kd.R_lt (rY HO_333001.out))) (Kd.R_lt (rY HO_340000.out))) (Kd.R_lt (rY HO_340001.out))) (Kd.R_lt (rY HO_351007.out))) (Kd.R_lt (rY HO_359000.out))) (Kd.R_lt (rY HO_359001.out))) (Kd.R_lt (rY HO390.out))) (Kd.R_lt (rY HO393.out))) (below_size (by repeat (first | (with_reducible first | exact HB.out | apply below_alloc | apply pw_below_drewN | apply below_drew1 | refine below_set ?_ GE305.out | refine below_set ?_ GE306.out | refine below_set ?_ GE332.out | refine below_set ?_ GE339.out | refine below_set ?_ GE350.out | refine below_set ?_ GE358.out | refine below_set ?_ GE411.out) | exact HB.out))))
    have n10_ := Aside0.mk (blk_below (bY BK305.out) hb)
    have n11_ := Aside0.mk (blk_below (bY BK306.out) hb)
    have n12_ := Aside0.mk (blk_below (bY BK332.out) hb)
    have n13_ := Aside0.mk (blk_below (bY BK339.out) hb)
    have n14_ := Aside0.mk (blk_below (bY BK350.out) hb)
    have n15_ := Aside0.mk (blk_below (bY BK358.out) hb)
    have n16_ := Aside0.mk (blk_below (bY BK411.out) hb)
    have n17_ := Aside0.mk (below_step (by repeat (first | (with_reducible first | exact HB.out | apply below_alloc | apply pw_below_drewN | apply below_drew1 | refine below_set ?_ GE305.out | refine below_set ?_ GE306.out | refine below_set ?_ GE332.out | refine below_set ?_ GE339.out | refine below_set ?_ GE350.out | refine below_set ?_ GE358.out | refine below_set ?_ GE411.out) | exact HB.out)) hb)
    clear HO_333000
    clear HO_333001
    clear HO_340000
    clear HO_340001
    clear HO_351007
    clear HO_359000
    clear HO_359001
    clear HO390
    clear HO393
    clear BK305
    clear BK306
    clear BK332
    clear BK339
    clear BK350
    clear BK358
    clear BK411
    clear HB
    have HO_333000 := n0_
    have HO_333001 := n1_
    have HO_340000 := n2_
    have HO_340001 := n3_
    have HO_351007 := n4_
    have HO_359000 := n5_
    have HO_359001 := n6_
    have HO390 := n7_
    have HO393 := n8_
    have HO403 := n9_
    have BK305 := n10_
    have BK306 := n11_
    have BK332 := n12_
    have BK339 := n13_
    have BK350 := n14_
    have BK358 := n15_
    have BK411 := n16_
    have HB := n17_
    clear n0_ n1_ n2_ n3_ n4_ n5_ n6_ n7_ n8_ n9_ n10_ n11_ n12_ n13_ n14_ n15_ n16_ n17_
    obtain ⟨Ao184, co184, eo184⟩ := Kd.R_slice HO390.out
    (first | subst eo184 | (injection eo184 with f1_ f2_ f3_; have f4_ := f1_.symm; have f5_ := f3_.symm; clear f1_ f2_ f3_; subst f4_; subst f5_))
    obtain ⟨Ao185, co185, eo185⟩ := Kd.R_slice HO393.out
    (first | subst eo185 | (injection eo185 with f1_ f2_ f3_; have f4_ := f1_.symm; have f5_ := f3_.symm; clear f1_ f2_ f3_; subst f4_; subst f5_))
    obtain ⟨Ao186, co186, eo186⟩ := Kd.R_slice HO403.out
    (first | subst eo186 | (injection eo186 with f1_ f2_ f3_; have f4_ := f1_.symm; have f5_ := f3_.symm; clear f1_ f2_ f3_; subst f4_; subst f5_))
    refine hK.out _ _ ⟨(blk_cell BK305.out 0).trans rfl, (blk_cell BK305.out 1).trans rfl, (blk_cell BK306.out 0).trans rfl, (blk_cell BK306.out 1).trans rfl, (blk_cell BK306.out 2).trans rfl, (blk_cell BK306.out 3).trans rfl, (blk_cell BK306.out 4).trans rfl, (blk_cell BK306.out 5).trans rfl, (blk_cell BK306.out 6).trans rfl, (blk_cell BK306.out 7).trans rfl⟩ (fun hHeld => ?_)
    clear hK K
    refine norm_ (a' := ?_) ?_ ?_
    rotate_left
    ·show Act.put _ (some 98) _ = _
     simp only [pS]
     rfl
    refine one_ (i := 4) (N := some 99) #[T, T, T, T, T, F, F, F, T, F, F] rfl rfl (one_of HT_.out (by kernel_rfl)) (by decide) (fun K hK => ?_)
    refine goes_ Try.func61 (by kernel_rfl) rfl #[.agg #[.slice Ao184 t388.length co184, .slice Ao185 t391.length co185], .agg #[.int .i64 t394, .int .i64 t395, .int .i64 t396, .int .i64 t397, .int .i64 t398, .int .i64 t399, .int .i64 t400, .slice Ao186 t401.length co186]] (by rfl) rfl rfl (by (try simp only [List.map_toArray, List.map_cons, List.map_nil]); first | done | rfl) ?_
    with_reducible refine (impl_SpendCredits.calls kj111 _ _ t388 _ _ t391 t394 t395 t396 t397 t398 t399 t400 _ _ t401 t404 t407 t410 _ ?side1 ?side2 ?side3 ?side4 ?side5 ?side6 A169.out).mono ?_
    (case side1 => exact cY ((Kd.R_reads' HO390.out).2.2))
    (case side2 => exact (Kd.R_reads' HO390.out).2.1)
    (case side3 => exact cY ((Kd.R_reads' HO393.out).2.2))
    (case side4 => exact (Kd.R_reads' HO393.out).2.1)
    (case side5 => exact cY ((Kd.R_reads' HO403.out).2.2))
    (case side6 => exact (Kd.R_reads' HO403.out).2.1)
    rintro e w187 ⟨v405, v408, rfl, ho0, ho1, hb⟩
    refine ⟨_, rfl, ?_⟩
    have n0_ := Aside0.mk (Kd.R_mono (Kd.R_told (Kd.R_told (Kd.R_old (rY HO_333000.out) hb) (Kd.R_base ho0)) (Kd.R_base ho1)) (fun _ h_ => h_.1))
    have n1_ := Aside0.mk (Kd.R_mono (Kd.R_told (Kd.R_told (Kd.R_old (rY HO_333001.out) hb) (Kd.R_base ho0)) (Kd.R_base ho1)) (fun _ h_ => h_.1))
    have n2_ := Aside0.mk (Kd.R_mono (Kd.R_told (Kd.R_told (Kd.R_old (rY HO_340000.out) hb) (Kd.R_base ho0)) (Kd.R_base ho1)) (fun _ h_ => h_.1))
    have n3_ := Aside0.mk (Kd.R_mono (Kd.R_told (Kd.R_told (Kd.R_old (rY HO_340001.out) hb) (Kd.R_base ho0)) (Kd.R_base ho1)) (fun _ h_ => h_.1))
    have n4_ := Aside0.mk (Kd.R_mono (Kd.R_told (Kd.R_told (Kd.R_old (rY HO_351007.out) hb) (Kd.R_base ho0)) (Kd.R_base ho1)) (fun _ h_ => h_.1))
    have n5_ := Aside0.mk (Kd.R_mono (Kd.R_told (Kd.R_told (Kd.R_old (rY HO_359000.out) hb) (Kd.R_base ho0)) (Kd.R_base ho1)) (fun _ h_ => h_.1))
    have n6_ := Aside0.mk (Kd.R_mono (Kd.R_told (Kd.R_told (Kd.R_old (rY HO_359001.out) hb) (Kd.R_base ho0)) (Kd.R_base ho1)) (fun _ h_ => h_.1))
    have n7_ := Aside0.mk (Kd.R_mono (Kd.R_told (Kd.R_told (Kd.R_old (rY HO390.out) hb) (Kd.R_base ho0)) (Kd.R_base ho1)) (fun _ h_ => h_.1))
    have n8_ := Aside0.mk (Kd.R_mono (Kd.R_told (Kd.R_told (Kd.R_old (rY HO393.out) hb) (Kd.R_base ho0)) (Kd.R_base ho1)) (fun _ h_ => h_.1))
    have n9_ := Aside0.mk (Kd.R_mono (Kd.R_told (Kd.R_told (Kd.R_old (rY HO403.out) hb) (Kd.R_base ho0)) (Kd.R_base ho1)) (fun _ h_ => h_.1))
    have n10_ := Aside0.mk (Kd.R_lower (Kd.R_new' (Kd.R_new' (Kd.R_new' (Kd.R_new' (Kd.R_new' (Kd.R_new' (Kd.R_new' (Kd.R_new' (Kd.R_new' (Kd.R_new' ho0 (Kd.R_lt (rY HO_333000.out))) (Kd.R_lt (rY HO_333001.out))) (Kd.R_lt (rY HO_340000.out))) (Kd.R_lt (rY HO_340001.out))) (Kd.R_lt (rY HO_351007.out))) (Kd.R_lt (rY HO_359000.out))) (Kd.R_lt (rY HO_359001.out))) (Kd.R_lt (rY HO390.out))) (Kd.R_lt (rY HO393.out))) (Kd.R_lt (rY HO403.out))) (below_size (by repeat (first | (with_reducible first | exact HB.out | apply below_alloc | apply pw_below_drewN | apply below_drew1 | refine below_set ?_ GE305.out | refine below_set ?_ GE306.out | refine below_set ?_ GE332.out | refine below_set ?_ GE339.out | refine below_set ?_ GE350.out | refine below_set ?_ GE358.out | refine below_set ?_ GE411.out) | exact HB.out))))
    have n11_ := Aside0.mk (Kd.R_lower (Kd.R_new' (Kd.R_new' (Kd.R_new' (Kd.R_new' (Kd.R_new' (Kd.R_new' (Kd.R_new' (Kd.R_new' (Kd.R_new' (Kd.R_new' ho1 (Kd.R_lt (rY HO_333000.out))) (Kd.R_lt (rY HO_333001.out))) (Kd.R_lt (rY HO_340000.out))) (Kd.R_lt (rY HO_340001.out))) (Kd.R_lt (rY HO_351007.out))) (Kd.R_lt (rY HO_359000.out))) (Kd.R_lt (rY HO_359001.out))) (Kd.R_lt (rY HO390.out))) (Kd.R_lt (rY HO393.out))) (Kd.R_lt (rY HO403.out))) (below_size (by repeat (first | (with_reducible first | exact HB.out | apply below_alloc | apply pw_below_drewN | apply below_drew1 | refine below_set ?_ GE305.out | refine below_set ?_ GE306.out | refine below_set ?_ GE332.out | refine below_set ?_ GE339.out | refine below_set ?_ GE350.out | refine below_set ?_ GE358.out | refine below_set ?_ GE411.out) | exact HB.out))))
    have n12_ := Aside0.mk (blk_below (bY BK305.out) hb)
    have n13_ := Aside0.mk (blk_below (bY BK306.out) hb)
    have n14_ := Aside0.mk (blk_below (bY BK332.out) hb)
    have n15_ := Aside0.mk (blk_below (bY BK339.out) hb)
    have n16_ := Aside0.mk (blk_below (bY BK350.out) hb)
    have n17_ := Aside0.mk (blk_below (bY BK358.out) hb)
    have n18_ := Aside0.mk (blk_below (bY BK411.out) hb)
    have n19_ := Aside0.mk (below_step (by repeat (first | (with_reducible first | exact HB.out | apply below_alloc | apply pw_below_drewN | apply below_drew1 | refine below_set ?_ GE305.out | refine below_set ?_ GE306.out | refine below_set ?_ GE332.out | refine below_set ?_ GE339.out | refine below_set ?_ GE350.out | refine below_set ?_ GE358.out | refine below_set ?_ GE411.out) | exact HB.out)) hb)
    clear HO_333000
    clear HO_333001
    clear HO_340000
    clear HO_340001
    clear HO_351007
    clear HO_359000
    clear HO_359001
    clear HO390
    clear HO393
    clear HO403
    clear BK305
    clear BK306
    clear BK332
    clear BK339
    clear BK350
    clear BK358
    clear BK411
    clear HB
    have HO_333000 := n0_
    have HO_333001 := n1_
    have HO_340000 := n2_
    have HO_340001 := n3_
    have HO_351007 := n4_
    have HO_359000 := n5_
    have HO_359001 := n6_
    have HO390 := n7_
    have HO393 := n8_
    have HO403 := n9_
    have HO406 := n10_
    have HO409 := n11_
    have BK305 := n12_
    have BK306 := n13_
    have BK332 := n14_
    have BK339 := n15_
    have BK350 := n16_
    have BK358 := n17_
    have BK411 := n18_
    have HB := n19_
    clear n0_ n1_ n2_ n3_ n4_ n5_ n6_ n7_ n8_ n9_ n10_ n11_ n12_ n13_ n14_ n15_ n16_ n17_ n18_ n19_
    refine hK.out _ _ ⟨(blk_cell BK305.out 0).trans rfl, (blk_cell BK305.out 1).trans rfl, (blk_cell BK306.out 0).trans rfl, (blk_cell BK306.out 1).trans rfl, (blk_cell BK306.out 2).trans rfl, (blk_cell BK306.out 3).trans rfl, (blk_cell BK306.out 4).trans rfl, (blk_cell BK306.out 5).trans rfl, (blk_cell BK306.out 6).trans rfl, (blk_cell BK306.out 7).trans rfl⟩ (fun hHeld => ?_)
    clear hK K
    refine norm_ (a' := ?_) ?_ ?_
    rotate_left
    ·show Act.put _ (some 99) _ = _
     simp only [pS]
     rfl
    refine pure_ (i := 5) (N := some 94) (v := ?_) (a' := ?_) #[T, T, T, T, T, T, F, F, T, F, F] rfl rfl (any_of HT_.out (by kernel_rfl)) (fun _ _ _ h => h) (Or.inl ⟨by rfl, ?_⟩) ?_ ?_
    rotate_left
    ·intro w'
     go_simp
     with_reducible rfl
    rotate_left
    ·simp only [pS]
     rfl
    refine pure_ (i := 6) (N := some 100) (v := ?_) (a' := ?_) #[T, T, T, T, T, T, T, F, T, F, F] rfl rfl (any_of HT_.out (by kernel_rfl)) (fun _ _ _ h => h) (Or.inl ⟨by rfl, ?_⟩) ?_ ?_
    rotate_left
    ·intro w'
     go_simp
     with_reducible rfl
    rotate_left
    ·simp only [pS]
     rfl
    refine pure_ (i := 7) (N := some 101) (v := ?_) (a' := ?_) #[T, T, T, T, T, T, T, T, T, F, F] rfl rfl (any_of HT_.out (by kernel_rfl)) (fun _ _ _ h => h) (Or.inl ⟨by rfl, ?_⟩) ?_ ?_
    rotate_left
    ·intro w'
     go_simp
     with_reducible rfl
    rotate_left
    ·simp only [pS]
     rfl
    exact norm_ (by simp only [putAll, Act.put, List.setIfInBounds_toArray, List.set_cons_zero, List.set_cons_succ]) (hCont (.slice Ao184 t388.length co184, .slice Ao185 t391.length co185, .slice Ao186 t401.length co186, v405, v408, gb411) _ ⟨hHeld, (by (repeat apply rX); exact Kd.R_mono HO390.out (fun _ hk => ⟨hk.1.1.1.1.1.1.1.1.1.1, ⟨hk.1.1.2, ⟨hk.1.2, ⟨hk.2, ⟨hk.1.1.1.1.1.1.1.1.1.2, ⟨hk.1.1.1.1.1.1.1.1.2, ⟨hk.1.1.1.1.1.1.1.2, ⟨hk.1.1.1.1.1.1.2, ⟨hk.1.1.1.1.1.2, ⟨hk.1.1.1.1.2, hk.1.1.1.2⟩⟩⟩⟩⟩⟩⟩⟩⟩⟩)), (by (repeat apply rX); exact Kd.R_mono HO393.out (fun _ hk => ⟨hk.1.1.1.1.1.1.1.1.1.1, ⟨hk.1.1.2, ⟨hk.1.2, ⟨hk.2, ⟨hk.1.1.1.1.1.1.1.1.1.2, ⟨hk.1.1.1.1.1.1.1.1.2, ⟨hk.1.1.1.1.1.1.1.2, ⟨hk.1.1.1.1.1.1.2, ⟨hk.1.1.1.1.1.2, ⟨hk.1.1.1.1.2, hk.1.1.1.2⟩⟩⟩⟩⟩⟩⟩⟩⟩⟩)), (by (repeat apply rX); exact Kd.R_mono HO403.out (fun _ hk => ⟨hk.1.1.1.2, ⟨hk.1.1.2, ⟨hk.1.2, ⟨hk.2, ⟨hk.1.1.1.1.1.1.1.1.1.1.2, ⟨hk.1.1.1.1.1.1.1.1.1.2, ⟨hk.1.1.1.1.1.1.1.1.2, ⟨hk.1.1.1.1.1.1.1.2, ⟨hk.1.1.1.1.1.1.2, ⟨hk.1.1.1.1.1.2, hk.1.1.1.1.2⟩⟩⟩⟩⟩⟩⟩⟩⟩⟩)), (by (repeat apply rX); exact Kd.R_mono HO406.out (fun _ hk => ⟨hk.1.1.2, ⟨hk.1.2, ⟨hk.2, ⟨hk.1.1.1.1.1.1.1.1.1.1, ⟨hk.1.1.1.1.1.1.1.1.1.2, ⟨hk.1.1.1.1.1.1.1.1.2, ⟨hk.1.1.1.1.1.1.1.2, ⟨hk.1.1.1.1.1.1.2, ⟨hk.1.1.1.1.1.2, ⟨hk.1.1.1.1.2, hk.1.1.1.2⟩⟩⟩⟩⟩⟩⟩⟩⟩⟩)), (by (repeat apply rX); exact Kd.R_mono HO409.out (fun _ hk => ⟨hk.1.1.2, ⟨hk.1.2, ⟨hk.2, ⟨hk.1.1.1.1.1.1.1.1.1.1, ⟨hk.1.1.1.1.1.1.1.1.1.2, ⟨hk.1.1.1.1.1.1.1.1.2, ⟨hk.1.1.1.1.1.1.1.2, ⟨hk.1.1.1.1.1.1.2, ⟨hk.1.1.1.1.1.2, ⟨hk.1.1.1.1.2, hk.1.1.1.2⟩⟩⟩⟩⟩⟩⟩⟩⟩⟩)), (by (repeat apply rX); exact Kd.R_mono HO_333000.out (fun _ hk => ⟨hk.1.1.1.1.2, ⟨hk.1.1.1.2, ⟨hk.1.1.2, ⟨hk.1.2, ⟨hk.2, ⟨hk.1.1.1.1.1.1, ⟨hk.1.1.1.1.1.2.1, ⟨hk.1.1.1.1.1.2.2.1, ⟨hk.1.1.1.1.1.2.2.2.1, ⟨hk.1.1.1.1.1.2.2.2.2.1, hk.1.1.1.1.1.2.2.2.2.2⟩⟩⟩⟩⟩⟩⟩⟩⟩⟩)), (by (repeat apply rX); exact Kd.R_mono HO_333001.out (fun _ hk => ⟨hk.1.1.1.1.2, ⟨hk.1.1.1.2, ⟨hk.1.1.2, ⟨hk.1.2, ⟨hk.2, ⟨hk.1.1.1.1.1.1, ⟨hk.1.1.1.1.1.2.1, ⟨hk.1.1.1.1.1.2.2.1, ⟨hk.1.1.1.1.1.2.2.2.1, ⟨hk.1.1.1.1.1.2.2.2.2.1, hk.1.1.1.1.1.2.2.2.2.2⟩⟩⟩⟩⟩⟩⟩⟩⟩⟩)), (by (repeat apply rX); exact Kd.R_mono HO_340000.out (fun _ hk => ⟨hk.1.1.1.1.2, ⟨hk.1.1.1.2, ⟨hk.1.1.2, ⟨hk.1.2, ⟨hk.2, ⟨hk.1.1.1.1.1.1, ⟨hk.1.1.1.1.1.2.1, ⟨hk.1.1.1.1.1.2.2.1, ⟨hk.1.1.1.1.1.2.2.2.1, ⟨hk.1.1.1.1.1.2.2.2.2.1, hk.1.1.1.1.1.2.2.2.2.2⟩⟩⟩⟩⟩⟩⟩⟩⟩⟩)), (by (repeat apply rX); exact Kd.R_mono HO_340001.out (fun _ hk => ⟨hk.1.1.1.1.2, ⟨hk.1.1.1.2, ⟨hk.1.1.2, ⟨hk.1.2, ⟨hk.2, ⟨hk.1.1.1.1.1.1, ⟨hk.1.1.1.1.1.2.1, ⟨hk.1.1.1.1.1.2.2.1, ⟨hk.1.1.1.1.1.2.2.2.1, ⟨hk.1.1.1.1.1.2.2.2.2.1, hk.1.1.1.1.1.2.2.2.2.2⟩⟩⟩⟩⟩⟩⟩⟩⟩⟩)), (by (repeat apply rX); exact Kd.R_mono HO_351007.out (fun _ hk => ⟨hk.1.1.1.1.2, ⟨hk.1.1.1.2, ⟨hk.1.1.2, ⟨hk.1.2, ⟨hk.2, ⟨hk.1.1.1.1.1.1, ⟨hk.1.1.1.1.1.2.1, ⟨hk.1.1.1.1.1.2.2.1, ⟨hk.1.1.1.1.1.2.2.2.1, ⟨hk.1.1.1.1.1.2.2.2.2.1, hk.1.1.1.1.1.2.2.2.2.2⟩⟩⟩⟩⟩⟩⟩⟩⟩⟩)), (by (repeat apply rX); exact Kd.R_mono HO_359000.out (fun _ hk => ⟨hk.1.1.1.1.2, ⟨hk.1.1.1.2, ⟨hk.1.1.2, ⟨hk.1.2, ⟨hk.2, ⟨hk.1.1.1.1.1.1, ⟨hk.1.1.1.1.1.2.1, ⟨hk.1.1.1.1.1.2.2.1, ⟨hk.1.1.1.1.1.2.2.2.1, ⟨hk.1.1.1.1.1.2.2.2.2.1, hk.1.1.1.1.1.2.2.2.2.2⟩⟩⟩⟩⟩⟩⟩⟩⟩⟩)), (by (repeat apply rX); exact Kd.R_mono HO_359001.out (fun _ hk => ⟨hk.1.1.1.1.2, ⟨hk.1.1.1.2, ⟨hk.1.1.2, ⟨hk.1.2, ⟨hk.2, ⟨hk.1.1.1.1.1.1, ⟨hk.1.1.1.1.1.2.1, ⟨hk.1.1.1.1.1.2.2.1, ⟨hk.1.1.1.1.1.2.2.2.1, ⟨hk.1.1.1.1.1.2.2.2.2.1, hk.1.1.1.1.1.2.2.2.2.2⟩⟩⟩⟩⟩⟩⟩⟩⟩⟩)), (bY BK305.out), (bY BK306.out), (bY BK332.out), (bY BK339.out), (bY BK350.out), (bY BK358.out), (bY BK411.out), GW411.out, GE411.out, NB305_411.out, NB411_305.out, NB306_411.out, NB411_306.out, NB332_411.out, NB411_332.out, NB339_411.out, NB411_339.out, NB350_411.out, NB411_350.out, NB358_411.out, NB411_358.out, (by repeat (first | (with_reducible first | exact HB.out | apply below_alloc | apply pw_below_drewN | apply below_drew1 | refine below_set ?_ GE305.out | refine below_set ?_ GE306.out | refine below_set ?_ GE332.out | refine below_set ?_ GE339.out | refine below_set ?_ GE350.out | refine below_set ?_ GE358.out | refine below_set ?_ GE411.out) | exact HB.out))⟩)
  rintro ⟨v389, v392, v402, v405, v408, gb411⟩ w188 ⟨hS_, h0_, h1_, h2_, h3_, h4_, h5_, h6_, h7_, h8_, h9_, h10_, h11_, h12_, h13_, h14_, h15_, h16_, h17_, h18_, h19_, h20_, h21_, h22_, h23_, h24_, h25_, h26_, h27_, h28_, h29_, h30_, h31_, h32_, h33_⟩
  have n0_ : Aside0 (Kd.R (Kd.int .i64) 3 w188 w.heap.size (fun k_ => some k_ ≠ (v392 : Value).ownBlock ∧ some k_ ≠ (v402 : Value).ownBlock ∧ some k_ ≠ (v405 : Value).ownBlock ∧ some k_ ≠ (v408 : Value).ownBlock ∧ some k_ ≠ (.slice Ao42 t325.length co42 : Value).ownBlock ∧ some k_ ≠ (.slice Ao44 t328.length co44 : Value).ownBlock ∧ some k_ ≠ (.slice Ao50 t379.length co50 : Value).ownBlock ∧ some k_ ≠ (.slice Ao55 t380.length co55 : Value).ownBlock ∧ some k_ ≠ (.slice Ao65 t382.length co65 : Value).ownBlock ∧ some k_ ≠ (.slice Ao69 t351.length co69 : Value).ownBlock ∧ some k_ ≠ (.slice Ao76 t354.length co76 : Value).ownBlock) v389 t388) := ⟨h0_⟩
  have n1_ : Aside0 (Kd.R (Kd.int .i64) 3 w188 w.heap.size (fun k_ => some k_ ≠ (v389 : Value).ownBlock ∧ some k_ ≠ (v402 : Value).ownBlock ∧ some k_ ≠ (v405 : Value).ownBlock ∧ some k_ ≠ (v408 : Value).ownBlock ∧ some k_ ≠ (.slice Ao42 t325.length co42 : Value).ownBlock ∧ some k_ ≠ (.slice Ao44 t328.length co44 : Value).ownBlock ∧ some k_ ≠ (.slice Ao50 t379.length co50 : Value).ownBlock ∧ some k_ ≠ (.slice Ao55 t380.length co55 : Value).ownBlock ∧ some k_ ≠ (.slice Ao65 t382.length co65 : Value).ownBlock ∧ some k_ ≠ (.slice Ao69 t351.length co69 : Value).ownBlock ∧ some k_ ≠ (.slice Ao76 t354.length co76 : Value).ownBlock) v392 t391) := ⟨h1_⟩
  have n2_ : Aside0 (Kd.R (Kd.int .i64) 3 w188 w.heap.size (fun k_ => some k_ ≠ (v389 : Value).ownBlock ∧ some k_ ≠ (v392 : Value).ownBlock ∧ some k_ ≠ (v405 : Value).ownBlock ∧ some k_ ≠ (v408 : Value).ownBlock ∧ some k_ ≠ (.slice Ao42 t325.length co42 : Value).ownBlock ∧ some k_ ≠ (.slice Ao44 t328.length co44 : Value).ownBlock ∧ some k_ ≠ (.slice Ao50 t379.length co50 : Value).ownBlock ∧ some k_ ≠ (.slice Ao55 t380.length co55 : Value).ownBlock ∧ some k_ ≠ (.slice Ao65 t382.length co65 : Value).ownBlock ∧ some k_ ≠ (.slice Ao69 t351.length co69 : Value).ownBlock ∧ some k_ ≠ (.slice Ao76 t354.length co76 : Value).ownBlock) v402 t401) := ⟨h2_⟩
  have n3_ : Aside0 (Kd.R (Kd.int .i64) 3 w188 w.heap.size (fun k_ => some k_ ≠ (v389 : Value).ownBlock ∧ some k_ ≠ (v392 : Value).ownBlock ∧ some k_ ≠ (v402 : Value).ownBlock ∧ some k_ ≠ (v408 : Value).ownBlock ∧ some k_ ≠ (.slice Ao42 t325.length co42 : Value).ownBlock ∧ some k_ ≠ (.slice Ao44 t328.length co44 : Value).ownBlock ∧ some k_ ≠ (.slice Ao50 t379.length co50 : Value).ownBlock ∧ some k_ ≠ (.slice Ao55 t380.length co55 : Value).ownBlock ∧ some k_ ≠ (.slice Ao65 t382.length co65 : Value).ownBlock ∧ some k_ ≠ (.slice Ao69 t351.length co69 : Value).ownBlock ∧ some k_ ≠ (.slice Ao76 t354.length co76 : Value).ownBlock) v405 t404) := ⟨h3_⟩
  have n4_ : Aside0 (Kd.R (Kd.int .i64) 3 w188 w.heap.size (fun k_ => some k_ ≠ (v389 : Value).ownBlock ∧ some k_ ≠ (v392 : Value).ownBlock ∧ some k_ ≠ (v402 : Value).ownBlock ∧ some k_ ≠ (v405 : Value).ownBlock ∧ some k_ ≠ (.slice Ao42 t325.length co42 : Value).ownBlock ∧ some k_ ≠ (.slice Ao44 t328.length co44 : Value).ownBlock ∧ some k_ ≠ (.slice Ao50 t379.length co50 : Value).ownBlock ∧ some k_ ≠ (.slice Ao55 t380.length co55 : Value).ownBlock ∧ some k_ ≠ (.slice Ao65 t382.length co65 : Value).ownBlock ∧ some k_ ≠ (.slice Ao69 t351.length co69 : Value).ownBlock ∧ some k_ ≠ (.slice Ao76 t354.length co76 : Value).ownBlock) v408 t407) := ⟨h4_⟩
  have n5_ : Aside0 (Kd.R (Kd.int .i64) 3 w188 w.heap.size (fun k_ => some k_ ≠ (v389 : Value).ownBlock ∧ some k_ ≠ (v392 : Value).ownBlock ∧ some k_ ≠ (v402 : Value).ownBlock ∧ some k_ ≠ (v405 : Value).ownBlock ∧ some k_ ≠ (v408 : Value).ownBlock ∧ some k_ ≠ (.slice Ao44 t328.length co44 : Value).ownBlock ∧ some k_ ≠ (.slice Ao50 t379.length co50 : Value).ownBlock ∧ some k_ ≠ (.slice Ao55 t380.length co55 : Value).ownBlock ∧ some k_ ≠ (.slice Ao65 t382.length co65 : Value).ownBlock ∧ some k_ ≠ (.slice Ao69 t351.length co69 : Value).ownBlock ∧ some k_ ≠ (.slice Ao76 t354.length co76 : Value).ownBlock) (.slice Ao42 t325.length co42) t325) := ⟨h5_⟩
  have n6_ : Aside0 (Kd.R (Kd.int .i64) 3 w188 w.heap.size (fun k_ => some k_ ≠ (v389 : Value).ownBlock ∧ some k_ ≠ (v392 : Value).ownBlock ∧ some k_ ≠ (v402 : Value).ownBlock ∧ some k_ ≠ (v405 : Value).ownBlock ∧ some k_ ≠ (v408 : Value).ownBlock ∧ some k_ ≠ (.slice Ao42 t325.length co42 : Value).ownBlock ∧ some k_ ≠ (.slice Ao50 t379.length co50 : Value).ownBlock ∧ some k_ ≠ (.slice Ao55 t380.length co55 : Value).ownBlock ∧ some k_ ≠ (.slice Ao65 t382.length co65 : Value).ownBlock ∧ some k_ ≠ (.slice Ao69 t351.length co69 : Value).ownBlock ∧ some k_ ≠ (.slice Ao76 t354.length co76 : Value).ownBlock) (.slice Ao44 t328.length co44) t328) := ⟨h6_⟩
  have n7_ : Aside0 (Kd.R (Kd.int .i64) 3 w188 w.heap.size (fun k_ => some k_ ≠ (v389 : Value).ownBlock ∧ some k_ ≠ (v392 : Value).ownBlock ∧ some k_ ≠ (v402 : Value).ownBlock ∧ some k_ ≠ (v405 : Value).ownBlock ∧ some k_ ≠ (v408 : Value).ownBlock ∧ some k_ ≠ (.slice Ao42 t325.length co42 : Value).ownBlock ∧ some k_ ≠ (.slice Ao44 t328.length co44 : Value).ownBlock ∧ some k_ ≠ (.slice Ao55 t380.length co55 : Value).ownBlock ∧ some k_ ≠ (.slice Ao65 t382.length co65 : Value).ownBlock ∧ some k_ ≠ (.slice Ao69 t351.length co69 : Value).ownBlock ∧ some k_ ≠ (.slice Ao76 t354.length co76 : Value).ownBlock) (.slice Ao50 t379.length co50) t379) := ⟨h7_⟩
  have n8_ : Aside0 (Kd.R (Kd.int .i64) 3 w188 w.heap.size (fun k_ => some k_ ≠ (v389 : Value).ownBlock ∧ some k_ ≠ (v392 : Value).ownBlock ∧ some k_ ≠ (v402 : Value).ownBlock ∧ some k_ ≠ (v405 : Value).ownBlock ∧ some k_ ≠ (v408 : Value).ownBlock ∧ some k_ ≠ (.slice Ao42 t325.length co42 : Value).ownBlock ∧ some k_ ≠ (.slice Ao44 t328.length co44 : Value).ownBlock ∧ some k_ ≠ (.slice Ao50 t379.length co50 : Value).ownBlock ∧ some k_ ≠ (.slice Ao65 t382.length co65 : Value).ownBlock ∧ some k_ ≠ (.slice Ao69 t351.length co69 : Value).ownBlock ∧ some k_ ≠ (.slice Ao76 t354.length co76 : Value).ownBlock) (.slice Ao55 t380.length co55) t380) := ⟨h8_⟩
  have n9_ : Aside0 (Kd.R (Kd.int .i64) 3 w188 w.heap.size (fun k_ => some k_ ≠ (v389 : Value).ownBlock ∧ some k_ ≠ (v392 : Value).ownBlock ∧ some k_ ≠ (v402 : Value).ownBlock ∧ some k_ ≠ (v405 : Value).ownBlock ∧ some k_ ≠ (v408 : Value).ownBlock ∧ some k_ ≠ (.slice Ao42 t325.length co42 : Value).ownBlock ∧ some k_ ≠ (.slice Ao44 t328.length co44 : Value).ownBlock ∧ some k_ ≠ (.slice Ao50 t379.length co50 : Value).ownBlock ∧ some k_ ≠ (.slice Ao55 t380.length co55 : Value).ownBlock ∧ some k_ ≠ (.slice Ao69 t351.length co69 : Value).ownBlock ∧ some k_ ≠ (.slice Ao76 t354.length co76 : Value).ownBlock) (.slice Ao65 t382.length co65) t382) := ⟨h9_⟩
  have n10_ : Aside0 (Kd.R (Kd.int .i64) 3 w188 w.heap.size (fun k_ => some k_ ≠ (v389 : Value).ownBlock ∧ some k_ ≠ (v392 : Value).ownBlock ∧ some k_ ≠ (v402 : Value).ownBlock ∧ some k_ ≠ (v405 : Value).ownBlock ∧ some k_ ≠ (v408 : Value).ownBlock ∧ some k_ ≠ (.slice Ao42 t325.length co42 : Value).ownBlock ∧ some k_ ≠ (.slice Ao44 t328.length co44 : Value).ownBlock ∧ some k_ ≠ (.slice Ao50 t379.length co50 : Value).ownBlock ∧ some k_ ≠ (.slice Ao55 t380.length co55 : Value).ownBlock ∧ some k_ ≠ (.slice Ao65 t382.length co65 : Value).ownBlock ∧ some k_ ≠ (.slice Ao76 t354.length co76 : Value).ownBlock) (.slice Ao69 t351.length co69) t385) := ⟨h10_⟩
  have n11_ : Aside0 (Kd.R (Kd.int .i64) 3 w188 w.heap.size (fun k_ => some k_ ≠ (v389 : Value).ownBlock ∧ some k_ ≠ (v392 : Value).ownBlock ∧ some k_ ≠ (v402 : Value).ownBlock ∧ some k_ ≠ (v405 : Value).ownBlock ∧ some k_ ≠ (v408 : Value).ownBlock ∧ some k_ ≠ (.slice Ao42 t325.length co42 : Value).ownBlock ∧ some k_ ≠ (.slice Ao44 t328.length co44 : Value).ownBlock ∧ some k_ ≠ (.slice Ao50 t379.length co50 : Value).ownBlock ∧ some k_ ≠ (.slice Ao55 t380.length co55 : Value).ownBlock ∧ some k_ ≠ (.slice Ao65 t382.length co65 : Value).ownBlock ∧ some k_ ≠ (.slice Ao69 t351.length co69 : Value).ownBlock) (.slice Ao76 t354.length co76) t386) := ⟨h11_⟩
  have n12_ : Aside0 (w188.heap[gb305]? = some (.cells #[.slice A0_0 l0_0.length c0_0, .slice A0_1 l0_1.length c0_1] 24 (0, 0))) := ⟨h12_⟩
  have n13_ : Aside0 (w188.heap[gb306]? = some (.cells #[.int .i64 a1_0, .int .i64 a1_1, .int .i64 a1_2, .int .i64 a1_3, .int .i64 a1_4, .int .i64 a1_5, .int .i64 a1_6, .slice A1_7 l1_7.length c1_7] 32 (0, 0))) := ⟨h13_⟩
  have n14_ : Aside0 (w188.heap[gb332]? = some (.cells #[.slice Ao42 t325.length co42, .slice Ao44 t328.length co44] 27 (0, 0))) := ⟨h14_⟩
  have n15_ : Aside0 (w188.heap[gb339]? = some (.cells #[.slice Ao50 t379.length co50, .slice Ao55 t380.length co55] 27 (0, 0))) := ⟨h15_⟩
  have n16_ : Aside0 (w188.heap[gb350]? = some (.cells #[.int .i64 t340, .int .i64 t341, .int .i64 t342, .int .i64 t343, .int .i64 t344, .int .i64 t345, .int .i64 t346, .slice Ao65 t382.length co65] 35 (0, 0))) := ⟨h16_⟩
  have n17_ : Aside0 (w188.heap[gb358]? = some (.cells #[.slice Ao69 t351.length co69, .slice Ao76 t354.length co76] 27 (0, 0))) := ⟨h17_⟩
  have n18_ : Aside0 (w188.heap[gb411]? = some (.cells #[.slice none 0 0, .slice none 0 0] 27 (0, 0))) := ⟨h18_⟩
  have n19_ : Aside0 (w.heap.size ≤ gb411) := ⟨h19_⟩
  have n20_ : Aside0 (w.heap.size ≤ gb411) := ⟨h20_⟩
  have n21_ : Aside0 (gb305 ≠ gb411) := ⟨h21_⟩
  have n22_ : Aside0 (gb411 ≠ gb305) := ⟨h22_⟩
  have n23_ : Aside0 (gb306 ≠ gb411) := ⟨h23_⟩
  have n24_ : Aside0 (gb411 ≠ gb306) := ⟨h24_⟩
  have n25_ : Aside0 (gb332 ≠ gb411) := ⟨h25_⟩
  have n26_ : Aside0 (gb411 ≠ gb332) := ⟨h26_⟩
  have n27_ : Aside0 (gb339 ≠ gb411) := ⟨h27_⟩
  have n28_ : Aside0 (gb411 ≠ gb339) := ⟨h28_⟩
  have n29_ : Aside0 (gb350 ≠ gb411) := ⟨h29_⟩
  have n30_ : Aside0 (gb411 ≠ gb350) := ⟨h30_⟩
  have n31_ : Aside0 (gb358 ≠ gb411) := ⟨h31_⟩
  have n32_ : Aside0 (gb411 ≠ gb358) := ⟨h32_⟩
  have n33_ : Aside0 (Below w.heap.size w w188) := ⟨h33_⟩
  clear HO_333000
  clear HO_333001
  clear HO_340000
  clear HO_340001
  clear HO_351007
  clear HO_359000
  clear HO_359001
  clear BK305
  clear BK306
  clear BK332
  clear BK339
  clear BK350
  clear BK358
  clear HB
  clear h0_ h1_ h2_ h3_ h4_ h5_ h6_ h7_ h8_ h9_ h10_ h11_ h12_ h13_ h14_ h15_ h16_ h17_ h18_ h19_ h20_ h21_ h22_ h23_ h24_ h25_ h26_ h27_ h28_ h29_ h30_ h31_ h32_ h33_
  have HO390 := n0_
  have HO393 := n1_
  have HO403 := n2_
  have HO406 := n3_
  have HO409 := n4_
  have HO_333000 := n5_
  have HO_333001 := n6_
  have HO_340000 := n7_
  have HO_340001 := n8_
  have HO_351007 := n9_
  have HO_359000 := n10_
  have HO_359001 := n11_
  have BK305 := n12_
  have BK306 := n13_
  have BK332 := n14_
  have BK339 := n15_
  have BK350 := n16_
  have BK358 := n17_
  have BK411 := n18_
  have GW411 := n19_
  have GE411 := n20_
  have NB305_411 := n21_
  have NB411_305 := n22_
  have NB306_411 := n23_
  have NB411_306 := n24_
  have NB332_411 := n25_
  have NB411_332 := n26_
  have NB339_411 := n27_
  have NB411_339 := n28_
  have NB350_411 := n29_
  have NB411_350 := n30_
  have NB358_411 := n31_
  have NB411_358 := n32_
  have HB := n33_
  clear n0_ n1_ n2_ n3_ n4_ n5_ n6_ n7_ n8_ n9_ n10_ n11_ n12_ n13_ n14_ n15_ n16_ n17_ n18_ n19_ n20_ n21_ n22_ n23_ n24_ n25_ n26_ n27_ n28_ n29_ n30_ n31_ n32_ n33_
  have hHeld : w188.cell? ⟨gb305, 0, none⟩ = some (.slice A0_0 l0_0.length c0_0) ∧ w188.cell? ⟨gb305, 1, none⟩ = some (.slice A0_1 l0_1.length c0_1) ∧ w188.cell? ⟨gb306, 0, none⟩ = some (.int .i64 a1_0) ∧ w188.cell? ⟨gb306, 1, none⟩ = some (.int .i64 a1_1) ∧ w188.cell? ⟨gb306, 2, none⟩ = some (.int .i64 a1_2) ∧ w188.cell? ⟨gb306, 3, none⟩ = some (.int .i64 a1_3) ∧ w188.cell? ⟨gb306, 4, none⟩ = some (.int .i64 a1_4) ∧ w188.cell? ⟨gb306, 5, none⟩ = some (.int .i64 a1_5) ∧ w188.cell? ⟨gb306, 6, none⟩ = some (.int .i64 a1_6) ∧ w188.cell? ⟨gb306, 7, none⟩ = some (.slice A1_7 l1_7.length c1_7) := hS_
  obtain ⟨Ao189, co189, eo189⟩ := Kd.R_slice HO406.out
  (first | subst eo189 | (injection eo189 with f1_ f2_ f3_; have f4_ := f1_.symm; have f5_ := f3_.symm; clear f1_ f2_ f3_; subst f4_; subst f5_))
  obtain ⟨Ao191, co191, eo191⟩ := Kd.R_slice HO409.out
  (first | subst eo191 | (injection eo191 with f1_ f2_ f3_; have f4_ := f1_.symm; have f5_ := f3_.symm; clear f1_ f2_ f3_; subst f4_; subst f5_))
  refine norm_ (a' := ?_) ?_ ?_
  rotate_left
  ·simp only [putAll, Act.put, List.setIfInBounds_toArray, List.set_cons_zero, List.set_cons_succ]
   rfl
  refine one_ (i := 9) (N := none) #[T, T, T, T, T, T, T, T, T, T, F] rfl rfl (one_of HT_.out (by kernel_rfl)) (by decide) (fun K hK => ?_)
  have hs190 : w188.cell? ⟨gb411, 0, none⟩ = some (.slice none 0 0) := (blk_cell BK411.out 0).trans rfl
  have hfs190 := blk_frozen BK411.out 0
  have hns190_0 := NB305_411.out
  have hns190_1 := NB306_411.out
  have hns190_2 := NB332_411.out
  have hns190_3 := NB339_411.out
  have hns190_4 := NB350_411.out
  have hns190_5 := NB358_411.out
  have hms190_0 := NB411_305.out
  have hms190_1 := NB411_306.out
  have hms190_2 := NB411_332.out
  have hms190_3 := NB411_339.out
  have hms190_4 := NB411_350.out
  have hms190_5 := NB411_358.out
  have hs192 : w188.cell? ⟨gb411, 1, none⟩ = some (.slice none 0 0) := (blk_cell BK411.out 1).trans rfl
  have hfs192 := blk_frozen BK411.out 1
  have hns192_0 := NB305_411.out
  have hns192_1 := NB306_411.out
  have hns192_2 := NB332_411.out
  have hns192_3 := NB339_411.out
  have hns192_4 := NB350_411.out
  have hns192_5 := NB358_411.out
  have hms192_0 := NB411_305.out
  have hms192_1 := NB411_306.out
  have hms192_2 := NB411_332.out
  have hms192_3 := NB411_339.out
  have hms192_4 := NB411_350.out
  have hms192_5 := NB411_358.out
  refine skip_ (w1 := ?_) (by rfl) rfl ?_ ?_
  rotate_left
  ·go_simp
   rfl
  refine hK.out _ _ ⟨((cell_far (p := ⟨gb411, _, none⟩) NB305_411.out _).trans (((cell_far (p := ⟨gb411, _, none⟩) NB305_411.out _).trans (hHeld.1)))), ((cell_far (p := ⟨gb411, _, none⟩) NB305_411.out _).trans (((cell_far (p := ⟨gb411, _, none⟩) NB305_411.out _).trans (hHeld.2.1)))), ((cell_far (p := ⟨gb411, _, none⟩) NB306_411.out _).trans (((cell_far (p := ⟨gb411, _, none⟩) NB306_411.out _).trans (hHeld.2.2.1)))), ((cell_far (p := ⟨gb411, _, none⟩) NB306_411.out _).trans (((cell_far (p := ⟨gb411, _, none⟩) NB306_411.out _).trans (hHeld.2.2.2.1)))), ((cell_far (p := ⟨gb411, _, none⟩) NB306_411.out _).trans (((cell_far (p := ⟨gb411, _, none⟩) NB306_411.out _).trans (hHeld.2.2.2.2.1)))), ((cell_far (p := ⟨gb411, _, none⟩) NB306_411.out _).trans (((cell_far (p := ⟨gb411, _, none⟩) NB306_411.out _).trans (hHeld.2.2.2.2.2.1)))), ((cell_far (p := ⟨gb411, _, none⟩) NB306_411.out _).trans (((cell_far (p := ⟨gb411, _, none⟩) NB306_411.out _).trans (hHeld.2.2.2.2.2.2.1)))), ((cell_far (p := ⟨gb411, _, none⟩) NB306_411.out _).trans (((cell_far (p := ⟨gb411, _, none⟩) NB306_411.out _).trans (hHeld.2.2.2.2.2.2.2.1)))), ((cell_far (p := ⟨gb411, _, none⟩) NB306_411.out _).trans (((cell_far (p := ⟨gb411, _, none⟩) NB306_411.out _).trans (hHeld.2.2.2.2.2.2.2.2.1)))), ((cell_far (p := ⟨gb411, _, none⟩) NB306_411.out _).trans (((cell_far (p := ⟨gb411, _, none⟩) NB306_411.out _).trans (hHeld.2.2.2.2.2.2.2.2.2))))⟩ (fun hHeld => ?_)
  clear hK K
  refine pure_ (i := 10) (N := some 16) (v := ?_) (a' := ?_) #[T, T, T, T, T, T, T, T, T, T, T] rfl rfl (any_of HT_.out (by kernel_rfl)) (fun _ _ _ h => h) (Or.inl ⟨by rfl, ?_⟩) ?_ ?_
  rotate_left
  ·intro w'
   go_simp
   with_reducible rfl
  rotate_left
  ·simp only [pS]
   rfl
  refine done_ (done_of HT_.out (by kernel_rfl)) ?_
  go_upto_region 32 with (fail)
  go_cut [110] (fun v110 wc => ∃ (kq : Nat) (x110_169 : Bool), v110 = .bool x110_169 ∧ Aside0 (laws_FnExactSpendCredits.j2 kq t384 x110_169 t385 t386 = some r) ∧ Aside0 (kq ≤ kj111) ∧ Aside0 (Kd.R (Kd.int .i64) 3 wc w.heap.size (fun k_ => some k_ ≠ ((.slice Ao44 t328.length co44) : Value).ownBlock ∧ some k_ ≠ ((.slice Ao50 t379.length co50) : Value).ownBlock ∧ some k_ ≠ ((.slice Ao55 t380.length co55) : Value).ownBlock ∧ some k_ ≠ ((.slice Ao65 t382.length co65) : Value).ownBlock ∧ some k_ ≠ ((.slice Ao69 t351.length co69) : Value).ownBlock ∧ some k_ ≠ ((.slice Ao76 t354.length co76) : Value).ownBlock ∧ some k_ ≠ ((.slice Ao189 t404.length co189) : Value).ownBlock ∧ some k_ ≠ ((.slice Ao191 t407.length co191) : Value).ownBlock) (.slice Ao42 t325.length co42) t325) ∧ Aside0 (Kd.R (Kd.int .i64) 3 wc w.heap.size (fun k_ => some k_ ≠ ((.slice Ao42 t325.length co42) : Value).ownBlock ∧ some k_ ≠ ((.slice Ao50 t379.length co50) : Value).ownBlock ∧ some k_ ≠ ((.slice Ao55 t380.length co55) : Value).ownBlock ∧ some k_ ≠ ((.slice Ao65 t382.length co65) : Value).ownBlock ∧ some k_ ≠ ((.slice Ao69 t351.length co69) : Value).ownBlock ∧ some k_ ≠ ((.slice Ao76 t354.length co76) : Value).ownBlock ∧ some k_ ≠ ((.slice Ao189 t404.length co189) : Value).ownBlock ∧ some k_ ≠ ((.slice Ao191 t407.length co191) : Value).ownBlock) (.slice Ao44 t328.length co44) t328) ∧ Aside0 (Kd.R (Kd.int .i64) 3 wc w.heap.size (fun k_ => some k_ ≠ ((.slice Ao42 t325.length co42) : Value).ownBlock ∧ some k_ ≠ ((.slice Ao44 t328.length co44) : Value).ownBlock ∧ some k_ ≠ ((.slice Ao55 t380.length co55) : Value).ownBlock ∧ some k_ ≠ ((.slice Ao65 t382.length co65) : Value).ownBlock ∧ some k_ ≠ ((.slice Ao69 t351.length co69) : Value).ownBlock ∧ some k_ ≠ ((.slice Ao76 t354.length co76) : Value).ownBlock ∧ some k_ ≠ ((.slice Ao189 t404.length co189) : Value).ownBlock ∧ some k_ ≠ ((.slice Ao191 t407.length co191) : Value).ownBlock) (.slice Ao50 t379.length co50) t379) ∧ Aside0 (Kd.R (Kd.int .i64) 3 wc w.heap.size (fun k_ => some k_ ≠ ((.slice Ao42 t325.length co42) : Value).ownBlock ∧ some k_ ≠ ((.slice Ao44 t328.length co44) : Value).ownBlock ∧ some k_ ≠ ((.slice Ao50 t379.length co50) : Value).ownBlock ∧ some k_ ≠ ((.slice Ao65 t382.length co65) : Value).ownBlock ∧ some k_ ≠ ((.slice Ao69 t351.length co69) : Value).ownBlock ∧ some k_ ≠ ((.slice Ao76 t354.length co76) : Value).ownBlock ∧ some k_ ≠ ((.slice Ao189 t404.length co189) : Value).ownBlock ∧ some k_ ≠ ((.slice Ao191 t407.length co191) : Value).ownBlock) (.slice Ao55 t380.length co55) t380) ∧ Aside0 (Kd.R (Kd.int .i64) 3 wc w.heap.size (fun k_ => some k_ ≠ ((.slice Ao42 t325.length co42) : Value).ownBlock ∧ some k_ ≠ ((.slice Ao44 t328.length co44) : Value).ownBlock ∧ some k_ ≠ ((.slice Ao50 t379.length co50) : Value).ownBlock ∧ some k_ ≠ ((.slice Ao55 t380.length co55) : Value).ownBlock ∧ some k_ ≠ ((.slice Ao69 t351.length co69) : Value).ownBlock ∧ some k_ ≠ ((.slice Ao76 t354.length co76) : Value).ownBlock ∧ some k_ ≠ ((.slice Ao189 t404.length co189) : Value).ownBlock ∧ some k_ ≠ ((.slice Ao191 t407.length co191) : Value).ownBlock) (.slice Ao65 t382.length co65) t382) ∧ Aside0 (Kd.R (Kd.int .i64) 3 wc w.heap.size (fun k_ => some k_ ≠ ((.slice Ao42 t325.length co42) : Value).ownBlock ∧ some k_ ≠ ((.slice Ao44 t328.length co44) : Value).ownBlock ∧ some k_ ≠ ((.slice Ao50 t379.length co50) : Value).ownBlock ∧ some k_ ≠ ((.slice Ao55 t380.length co55) : Value).ownBlock ∧ some k_ ≠ ((.slice Ao65 t382.length co65) : Value).ownBlock ∧ some k_ ≠ ((.slice Ao76 t354.length co76) : Value).ownBlock ∧ some k_ ≠ ((.slice Ao189 t404.length co189) : Value).ownBlock ∧ some k_ ≠ ((.slice Ao191 t407.length co191) : Value).ownBlock) (.slice Ao69 t351.length co69) t385) ∧ Aside0 (Kd.R (Kd.int .i64) 3 wc w.heap.size (fun k_ => some k_ ≠ ((.slice Ao42 t325.length co42) : Value).ownBlock ∧ some k_ ≠ ((.slice Ao44 t328.length co44) : Value).ownBlock ∧ some k_ ≠ ((.slice Ao50 t379.length co50) : Value).ownBlock ∧ some k_ ≠ ((.slice Ao55 t380.length co55) : Value).ownBlock ∧ some k_ ≠ ((.slice Ao65 t382.length co65) : Value).ownBlock ∧ some k_ ≠ ((.slice Ao69 t351.length co69) : Value).ownBlock ∧ some k_ ≠ ((.slice Ao189 t404.length co189) : Value).ownBlock ∧ some k_ ≠ ((.slice Ao191 t407.length co191) : Value).ownBlock) (.slice Ao76 t354.length co76) t386) ∧ Aside0 (Kd.R (Kd.int .i64) 3 wc w.heap.size (fun k_ => some k_ ≠ ((.slice Ao42 t325.length co42) : Value).ownBlock ∧ some k_ ≠ ((.slice Ao44 t328.length co44) : Value).ownBlock ∧ some k_ ≠ ((.slice Ao50 t379.length co50) : Value).ownBlock ∧ some k_ ≠ ((.slice Ao55 t380.length co55) : Value).ownBlock ∧ some k_ ≠ ((.slice Ao65 t382.length co65) : Value).ownBlock ∧ some k_ ≠ ((.slice Ao69 t351.length co69) : Value).ownBlock ∧ some k_ ≠ ((.slice Ao76 t354.length co76) : Value).ownBlock ∧ some k_ ≠ ((.slice Ao191 t407.length co191) : Value).ownBlock) (.slice Ao189 t404.length co189) t404) ∧ Aside0 (Kd.R (Kd.int .i64) 3 wc w.heap.size (fun k_ => some k_ ≠ ((.slice Ao42 t325.length co42) : Value).ownBlock ∧ some k_ ≠ ((.slice Ao44 t328.length co44) : Value).ownBlock ∧ some k_ ≠ ((.slice Ao50 t379.length co50) : Value).ownBlock ∧ some k_ ≠ ((.slice Ao55 t380.length co55) : Value).ownBlock ∧ some k_ ≠ ((.slice Ao65 t382.length co65) : Value).ownBlock ∧ some k_ ≠ ((.slice Ao69 t351.length co69) : Value).ownBlock ∧ some k_ ≠ ((.slice Ao76 t354.length co76) : Value).ownBlock ∧ some k_ ≠ ((.slice Ao189 t404.length co189) : Value).ownBlock) (.slice Ao191 t407.length co191) t407) ∧ Aside0 (wc.heap[gb305]? = some (.cells #[(.slice A0_0 l0_0.length c0_0), (.slice A0_1 l0_1.length c0_1)] 24 (0, 0))) ∧ Aside0 (wc.heap[gb306]? = some (.cells #[.int .i64 a1_0, .int .i64 a1_1, .int .i64 a1_2, .int .i64 a1_3, .int .i64 a1_4, .int .i64 a1_5, .int .i64 a1_6, (.slice A1_7 l1_7.length c1_7)] 32 (0, 0))) ∧ Aside0 (wc.heap[gb332]? = some (.cells #[(.slice Ao42 t325.length co42), (.slice Ao44 t328.length co44)] 27 (0, 0))) ∧ Aside0 (wc.heap[gb339]? = some (.cells #[(.slice Ao50 t379.length co50), (.slice Ao55 t380.length co55)] 27 (0, 0))) ∧ Aside0 (wc.heap[gb350]? = some (.cells #[.int .i64 t340, .int .i64 t341, .int .i64 t342, .int .i64 t343, .int .i64 t344, .int .i64 t345, .int .i64 t346, (.slice Ao65 t382.length co65)] 35 (0, 0))) ∧ Aside0 (wc.heap[gb358]? = some (.cells #[(.slice Ao69 t351.length co69), (.slice Ao76 t354.length co76)] 27 (0, 0))) ∧ Aside0 (wc.heap[gb411]? = some (.cells #[(.slice Ao189 t404.length co189), (.slice Ao191 t407.length co191)] 27 (0, 0))) ∧ Aside0 (Below w.heap.size w wc))
  case first =>
   have H := HC170.out
   clear HC170
   replace H := Option.bind_eq_some_iff.mp H
   obtain ⟨t412, A1930, H⟩ := H
   have A193 := Aside0.mk A1930
   clear A1930
   by_cases c194 : t412 = true
   ·subst c194
    have H1 : (laws_FnExactSpendCredits.j2 kj111 t384 (t410 != t331) t385 t386) = some r := by rw [if_pos rfl] at H; exact H
    clear H
    have H := H1
    clear H1
    have H' := Aside0.mk H
    clear H
    have hnb195 := NB411_305.out
    have hnc195 := NB305_411.out
    have hnb196 := NB411_306.out
    have hnc196 := NB306_411.out
    have hnb197 := NB411_332.out
    have hnc197 := NB332_411.out
    have hnb198 := NB411_339.out
    have hnc198 := NB339_411.out
    have hnb199 := NB411_350.out
    have hnc199 := NB350_411.out
    have hnb200 := NB411_358.out
    have hnc200 := NB358_411.out
    obtain ⟨hcz201_0, hcz201_1, hfz201_0, hfz201_1⟩ := b2 BK411.out
    have hnb202 := NB332_305.out
    have hnc202 := NB305_332.out
    have hnb203 := NB332_306.out
    have hnc203 := NB306_332.out
    have hnb204 := NB332_339.out
    have hnc204 := NB339_332.out
    have hnb205 := NB332_350.out
    have hnc205 := NB350_332.out
    have hnb206 := NB332_358.out
    have hnc206 := NB358_332.out
    obtain ⟨hcz207_0, hcz207_1, hfz207_0, hfz207_1⟩ := b2 BK332.out
    go_wp2_with (first | ((with_reducible refine gate_callee (f := 19) rfl ?_); refine goesL_ (some 104) rfl rfl Try.func19 (by kernel_rfl) rfl #[.agg #[.slice Ao189 t404.length co189, .slice Ao191 t407.length co191], .agg #[.slice Ao42 t325.length co42, .slice Ao44 t328.length co44]] rfl (by (try simp only [List.map_toArray, List.map_cons, List.map_nil]); first | done | rfl) ?_; (with_reducible refine (laws_eqCredits.calls kj111 _ _ t404 _ _ t407 _ _ t325 _ _ t328 true _ ?side1 ?side2 ?side3 ?side4 ?side5 ?side6 ?side7 ?side8 A193.out).mono ?_); (case side1 => refine (Kd.R_reads' (e := 3) (base := w.heap.size) (ok := fun k_ => (some k_ ≠ (v389 : Value).ownBlock ∧ (some k_ ≠ (v392 : Value).ownBlock ∧ (some k_ ≠ (v402 : Value).ownBlock ∧ (some k_ ≠ (.slice Ao191 t407.length co191 : Value).ownBlock ∧ (some k_ ≠ (.slice Ao42 t325.length co42 : Value).ownBlock ∧ (some k_ ≠ (.slice Ao44 t328.length co44 : Value).ownBlock ∧ (some k_ ≠ (.slice Ao50 t379.length co50 : Value).ownBlock ∧ (some k_ ≠ (.slice Ao55 t380.length co55 : Value).ownBlock ∧ (some k_ ≠ (.slice Ao65 t382.length co65 : Value).ownBlock ∧ (some k_ ≠ (.slice Ao69 t351.length co69 : Value).ownBlock ∧ some k_ ≠ (.slice Ao76 t354.length co76 : Value).ownBlock))))))))))) (n := t404.length) (c := co189) ?_).2.2; exact (by (repeat apply rX); exact (Kd.R_mono (Kd.R_far (p := ⟨gb411, 1, none⟩) (Kd.R_far (p := ⟨gb411, 0, none⟩) (Kd.R_types HO406.out BK411.out (by decide)) (fun _ hk => hk.2) (.slice Ao189 t404.length co189)) (fun _ hk => hk.2) (.slice Ao191 t407.length co191)) (fun _ h_ => h_.1)))); (case side2 => exact (Kd.R_reads' HO406.out).2.1); (case side3 => refine (Kd.R_reads' (e := 3) (base := w.heap.size) (ok := fun k_ => (some k_ ≠ (v389 : Value).ownBlock ∧ (some k_ ≠ (v392 : Value).ownBlock ∧ (some k_ ≠ (v402 : Value).ownBlock ∧ (some k_ ≠ (.slice Ao189 t404.length co189 : Value).ownBlock ∧ (some k_ ≠ (.slice Ao42 t325.length co42 : Value).ownBlock ∧ (some k_ ≠ (.slice Ao44 t328.length co44 : Value).ownBlock ∧ (some k_ ≠ (.slice Ao50 t379.length co50 : Value).ownBlock ∧ (some k_ ≠ (.slice Ao55 t380.length co55 : Value).ownBlock ∧ (some k_ ≠ (.slice Ao65 t382.length co65 : Value).ownBlock ∧ (some k_ ≠ (.slice Ao69 t351.length co69 : Value).ownBlock ∧ some k_ ≠ (.slice Ao76 t354.length co76 : Value).ownBlock))))))))))) (n := t407.length) (c := co191) ?_).2.2; exact (by (repeat apply rX); exact (Kd.R_mono (Kd.R_far (p := ⟨gb411, 1, none⟩) (Kd.R_far (p := ⟨gb411, 0, none⟩) (Kd.R_types HO409.out BK411.out (by decide)) (fun _ hk => hk.2) (.slice Ao189 t404.length co189)) (fun _ hk => hk.2) (.slice Ao191 t407.length co191)) (fun _ h_ => h_.1)))); (case side4 => exact (Kd.R_reads' HO409.out).2.1); (case side5 => refine (Kd.R_reads' (e := 3) (base := w.heap.size) (ok := fun k_ => (some k_ ≠ (v389 : Value).ownBlock ∧ (some k_ ≠ (v392 : Value).ownBlock ∧ (some k_ ≠ (v402 : Value).ownBlock ∧ (some k_ ≠ (.slice Ao189 t404.length co189 : Value).ownBlock ∧ (some k_ ≠ (.slice Ao191 t407.length co191 : Value).ownBlock ∧ (some k_ ≠ (.slice Ao44 t328.length co44 : Value).ownBlock ∧ (some k_ ≠ (.slice Ao50 t379.length co50 : Value).ownBlock ∧ (some k_ ≠ (.slice Ao55 t380.length co55 : Value).ownBlock ∧ (some k_ ≠ (.slice Ao65 t382.length co65 : Value).ownBlock ∧ (some k_ ≠ (.slice Ao69 t351.length co69 : Value).ownBlock ∧ some k_ ≠ (.slice Ao76 t354.length co76 : Value).ownBlock))))))))))) (n := t325.length) (c := co42) ?_).2.2; exact (by (repeat apply rX); exact (Kd.R_mono (Kd.R_far (p := ⟨gb411, 1, none⟩) (Kd.R_far (p := ⟨gb411, 0, none⟩) (Kd.R_types HO_333000.out BK411.out (by decide)) (fun _ hk => hk.2) (.slice Ao189 t404.length co189)) (fun _ hk => hk.2) (.slice Ao191 t407.length co191)) (fun _ h_ => h_.1)))); (case side6 => exact (Kd.R_reads' HO_333000.out).2.1); (case side7 => refine (Kd.R_reads' (e := 3) (base := w.heap.size) (ok := fun k_ => (some k_ ≠ (v389 : Value).ownBlock ∧ (some k_ ≠ (v392 : Value).ownBlock ∧ (some k_ ≠ (v402 : Value).ownBlock ∧ (some k_ ≠ (.slice Ao189 t404.length co189 : Value).ownBlock ∧ (some k_ ≠ (.slice Ao191 t407.length co191 : Value).ownBlock ∧ (some k_ ≠ (.slice Ao42 t325.length co42 : Value).ownBlock ∧ (some k_ ≠ (.slice Ao50 t379.length co50 : Value).ownBlock ∧ (some k_ ≠ (.slice Ao55 t380.length co55 : Value).ownBlock ∧ (some k_ ≠ (.slice Ao65 t382.length co65 : Value).ownBlock ∧ (some k_ ≠ (.slice Ao69 t351.length co69 : Value).ownBlock ∧ some k_ ≠ (.slice Ao76 t354.length co76 : Value).ownBlock))))))))))) (n := t328.length) (c := co44) ?_).2.2; exact (by (repeat apply rX); exact (Kd.R_mono (Kd.R_far (p := ⟨gb411, 1, none⟩) (Kd.R_far (p := ⟨gb411, 0, none⟩) (Kd.R_types HO_333001.out BK411.out (by decide)) (fun _ hk => hk.2) (.slice Ao189 t404.length co189)) (fun _ hk => hk.2) (.slice Ao191 t407.length co191)) (fun _ h_ => h_.1)))); (case side8 => exact (Kd.R_reads' HO_333001.out).2.1); rintro e w208 ⟨rfl, hb⟩; refine ⟨_, rfl, ?_⟩; have n0_ := Aside0.mk (Kd.R_below (by (repeat apply rX); exact (Kd.R_mono (Kd.R_far (p := ⟨gb411, 1, none⟩) (Kd.R_far (p := ⟨gb411, 0, none⟩) (Kd.R_types HO_333000.out BK411.out (by decide)) (fun _ hk => hk.2) (.slice Ao189 t404.length co189)) (fun _ hk => hk.2) (.slice Ao191 t407.length co191)) (fun _ h_ => h_.1))) hb); have n1_ := Aside0.mk (Kd.R_below (by (repeat apply rX); exact (Kd.R_mono (Kd.R_far (p := ⟨gb411, 1, none⟩) (Kd.R_far (p := ⟨gb411, 0, none⟩) (Kd.R_types HO_333001.out BK411.out (by decide)) (fun _ hk => hk.2) (.slice Ao189 t404.length co189)) (fun _ hk => hk.2) (.slice Ao191 t407.length co191)) (fun _ h_ => h_.1))) hb); have n2_ := Aside0.mk (Kd.R_below (by (repeat apply rX); exact (Kd.R_mono (Kd.R_far (p := ⟨gb411, 1, none⟩) (Kd.R_far (p := ⟨gb411, 0, none⟩) (Kd.R_types HO_340000.out BK411.out (by decide)) (fun _ hk => hk.2) (.slice Ao189 t404.length co189)) (fun _ hk => hk.2) (.slice Ao191 t407.length co191)) (fun _ h_ => h_.1))) hb); have n3_ := Aside0.mk (Kd.R_below (by (repeat apply rX); exact (Kd.R_mono (Kd.R_far (p := ⟨gb411, 1, none⟩) (Kd.R_far (p := ⟨gb411, 0, none⟩) (Kd.R_types HO_340001.out BK411.out (by decide)) (fun _ hk => hk.2) (.slice Ao189 t404.length co189)) (fun _ hk => hk.2) (.slice Ao191 t407.length co191)) (fun _ h_ => h_.1))) hb); have n4_ := Aside0.mk (Kd.R_below (by (repeat apply rX); exact (Kd.R_mono (Kd.R_far (p := ⟨gb411, 1, none⟩) (Kd.R_far (p := ⟨gb411, 0, none⟩) (Kd.R_types HO_351007.out BK411.out (by decide)) (fun _ hk => hk.2) (.slice Ao189 t404.length co189)) (fun _ hk => hk.2) (.slice Ao191 t407.length co191)) (fun _ h_ => h_.1))) hb); have n5_ := Aside0.mk (Kd.R_below (by (repeat apply rX); exact (Kd.R_mono (Kd.R_far (p := ⟨gb411, 1, none⟩) (Kd.R_far (p := ⟨gb411, 0, none⟩) (Kd.R_types HO_359000.out BK411.out (by decide)) (fun _ hk => hk.2) (.slice Ao189 t404.length co189)) (fun _ hk => hk.2) (.slice Ao191 t407.length co191)) (fun _ h_ => h_.1))) hb); have n6_ := Aside0.mk (Kd.R_below (by (repeat apply rX); exact (Kd.R_mono (Kd.R_far (p := ⟨gb411, 1, none⟩) (Kd.R_far (p := ⟨gb411, 0, none⟩) (Kd.R_types HO_359001.out BK411.out (by decide)) (fun _ hk => hk.2) (.slice Ao189 t404.length co189)) (fun _ hk => hk.2) (.slice Ao191 t407.length co191)) (fun _ h_ => h_.1))) hb); have n7_ := Aside0.mk (Kd.R_below (by (repeat apply rX); exact (Kd.R_mono (Kd.R_far (p := ⟨gb411, 1, none⟩) (Kd.R_far (p := ⟨gb411, 0, none⟩) (Kd.R_types HO390.out BK411.out (by decide)) (fun _ hk => hk.2) (.slice Ao189 t404.length co189)) (fun _ hk => hk.2) (.slice Ao191 t407.length co191)) (fun _ h_ => h_.1))) hb); have n8_ := Aside0.mk (Kd.R_below (by (repeat apply rX); exact (Kd.R_mono (Kd.R_far (p := ⟨gb411, 1, none⟩) (Kd.R_far (p := ⟨gb411, 0, none⟩) (Kd.R_types HO393.out BK411.out (by decide)) (fun _ hk => hk.2) (.slice Ao189 t404.length co189)) (fun _ hk => hk.2) (.slice Ao191 t407.length co191)) (fun _ h_ => h_.1))) hb); have n9_ := Aside0.mk (Kd.R_below (by (repeat apply rX); exact (Kd.R_mono (Kd.R_far (p := ⟨gb411, 1, none⟩) (Kd.R_far (p := ⟨gb411, 0, none⟩) (Kd.R_types HO403.out BK411.out (by decide)) (fun _ hk => hk.2) (.slice Ao189 t404.length co189)) (fun _ hk => hk.2) (.slice Ao191 t407.length co191)) (fun _ h_ => h_.1))) hb); have n10_ := Aside0.mk (Kd.R_below (by (repeat apply rX); exact (Kd.R_mono (Kd.R_far (p := ⟨gb411, 1, none⟩) (Kd.R_far (p := ⟨gb411, 0, none⟩) (Kd.R_types HO406.out BK411.out (by decide)) (fun _ hk => hk.2) (.slice Ao189 t404.length co189)) (fun _ hk => hk.2) (.slice Ao191 t407.length co191)) (fun _ h_ => h_.1))) hb); have n11_ := Aside0.mk (Kd.R_below (by (repeat apply rX); exact (Kd.R_mono (Kd.R_far (p := ⟨gb411, 1, none⟩) (Kd.R_far (p := ⟨gb411, 0, none⟩) (Kd.R_types HO409.out BK411.out (by decide)) (fun _ hk => hk.2) (.slice Ao189 t404.length co189)) (fun _ hk => hk.2) (.slice Ao191 t407.length co191)) (fun _ h_ => h_.1))) hb); have n12_ := Aside0.mk (blk_below (g := gb305) (o := .cells #[.slice A0_0 l0_0.length c0_0, .slice A0_1 l0_1.length c0_1] 24 (0, 0)) (by (repeat apply bX); refine blk_far ?_ NB305_411.out _; (repeat apply bX); refine blk_far ?_ NB305_411.out _; (repeat apply bX); exact BK305.out) hb); have n13_ := Aside0.mk (blk_below (g := gb306) (o := .cells #[.int .i64 a1_0, .int .i64 a1_1, .int .i64 a1_2, .int .i64 a1_3, .int .i64 a1_4, .int .i64 a1_5, .int .i64 a1_6, .slice A1_7 l1_7.length c1_7] 32 (0, 0)) (by (repeat apply bX); refine blk_far ?_ NB306_411.out _; (repeat apply bX); refine blk_far ?_ NB306_411.out _; (repeat apply bX); exact BK306.out) hb); have n14_ := Aside0.mk (blk_below (g := gb332) (o := .cells #[.slice Ao42 t325.length co42, .slice Ao44 t328.length co44] 27 (0, 0)) (by (repeat apply bX); refine blk_far ?_ NB332_411.out _; (repeat apply bX); refine blk_far ?_ NB332_411.out _; (repeat apply bX); exact BK332.out) hb); have n15_ := Aside0.mk (blk_below (g := gb339) (o := .cells #[.slice Ao50 t379.length co50, .slice Ao55 t380.length co55] 27 (0, 0)) (by (repeat apply bX); refine blk_far ?_ NB339_411.out _; (repeat apply bX); refine blk_far ?_ NB339_411.out _; (repeat apply bX); exact BK339.out) hb); have n16_ := Aside0.mk (blk_below (g := gb350) (o := .cells #[.int .i64 t340, .int .i64 t341, .int .i64 t342, .int .i64 t343, .int .i64 t344, .int .i64 t345, .int .i64 t346, .slice Ao65 t382.length co65] 35 (0, 0)) (by (repeat apply bX); refine blk_far ?_ NB350_411.out _; (repeat apply bX); refine blk_far ?_ NB350_411.out _; (repeat apply bX); exact BK350.out) hb); have n17_ := Aside0.mk (blk_below (g := gb358) (o := .cells #[.slice Ao69 t351.length co69, .slice Ao76 t354.length co76] 27 (0, 0)) (by (repeat apply bX); refine blk_far ?_ NB358_411.out _; (repeat apply bX); refine blk_far ?_ NB358_411.out _; (repeat apply bX); exact BK358.out) hb); have n18_ := Aside0.mk (blk_below (g := gb411) (o := .cells #[.slice Ao189 t404.length co189, .slice Ao191 t407.length co191] 27 (0, 0)) (by (repeat apply bX); refine blk_put (cs := #[.slice Ao189 t404.length co189, .slice none 0 0]) ?_ 1 _ rfl; (repeat apply bX); refine blk_put (cs := #[.slice none 0 0, .slice none 0 0]) ?_ 0 _ rfl; (repeat apply bX); exact BK411.out) hb); have n19_ := Aside0.mk (below_step (by repeat (first | (with_reducible first | exact HB.out | apply below_alloc | apply pw_below_drewN | apply below_drew1 | refine below_set ?_ GE305.out | refine below_set ?_ GE306.out | refine below_set ?_ GE332.out | refine below_set ?_ GE339.out | refine below_set ?_ GE350.out | refine below_set ?_ GE358.out | refine below_set ?_ GE411.out) | exact HB.out)) hb); clear HO_333000; clear HO_333001; clear HO_340000; clear HO_340001; clear HO_351007; clear HO_359000; clear HO_359001; clear HO390; clear HO393; clear HO403; clear HO406; clear HO409; clear BK305; clear BK306; clear BK332; clear BK339; clear BK350; clear BK358; clear BK411; clear HB; have HO_333000 := n0_; have HO_333001 := n1_; have HO_340000 := n2_; have HO_340001 := n3_; have HO_351007 := n4_; have HO_359000 := n5_; have HO_359001 := n6_; have HO390 := n7_; have HO393 := n8_; have HO403 := n9_; have HO406 := n10_; have HO409 := n11_; have BK305 := n12_; have BK306 := n13_; have BK332 := n14_; have BK339 := n15_; have BK350 := n16_; have BK358 := n17_; have BK411 := n18_; have HB := n19_; clear n0_ n1_ n2_ n3_ n4_ n5_ n6_ n7_ n8_ n9_ n10_ n11_ n12_ n13_ n14_ n15_ n16_ n17_ n18_ n19_; (try clear hb); (try clear hb2); (try clear hk); (try clear hi)))
    go_meet
    case rel => exact ⟨_, ((t410 != t331)), (by first | rfl | (simp; done) | (simp [*]; done)), H', ⟨by have := HJ24.out; have := HJ111.out; first | omega | exact Nat.le_refl _⟩, ⟨by (try simp only [hl340000_111]); (try simp only [hl340001_111]); (try simp only [hl351007_111]); (repeat apply rX); exact Kd.R_mono HO_333000.out (fun _ hk => ⟨hk.2.2.2.2.2.1, ⟨hk.2.2.2.2.2.2.1, ⟨hk.2.2.2.2.2.2.2.1, ⟨hk.2.2.2.2.2.2.2.2.1, ⟨hk.2.2.2.2.2.2.2.2.2.1, ⟨hk.2.2.2.2.2.2.2.2.2.2, ⟨hk.2.2.2.1, hk.2.2.2.2.1⟩⟩⟩⟩⟩⟩⟩)⟩, ⟨by (try simp only [hl340000_111]); (try simp only [hl340001_111]); (try simp only [hl351007_111]); (repeat apply rX); exact Kd.R_mono HO_333001.out (fun _ hk => ⟨hk.2.2.2.2.2.1, ⟨hk.2.2.2.2.2.2.1, ⟨hk.2.2.2.2.2.2.2.1, ⟨hk.2.2.2.2.2.2.2.2.1, ⟨hk.2.2.2.2.2.2.2.2.2.1, ⟨hk.2.2.2.2.2.2.2.2.2.2, ⟨hk.2.2.2.1, hk.2.2.2.2.1⟩⟩⟩⟩⟩⟩⟩)⟩, ⟨by (try simp only [hl340000_111]); (try simp only [hl340001_111]); (try simp only [hl351007_111]); (repeat apply rX); exact Kd.R_mono HO_340000.out (fun _ hk => ⟨hk.2.2.2.2.2.1, ⟨hk.2.2.2.2.2.2.1, ⟨hk.2.2.2.2.2.2.2.1, ⟨hk.2.2.2.2.2.2.2.2.1, ⟨hk.2.2.2.2.2.2.2.2.2.1, ⟨hk.2.2.2.2.2.2.2.2.2.2, ⟨hk.2.2.2.1, hk.2.2.2.2.1⟩⟩⟩⟩⟩⟩⟩)⟩, ⟨by (try simp only [hl340000_111]); (try simp only [hl340001_111]); (try simp only [hl351007_111]); (repeat apply rX); exact Kd.R_mono HO_340001.out (fun _ hk => ⟨hk.2.2.2.2.2.1, ⟨hk.2.2.2.2.2.2.1, ⟨hk.2.2.2.2.2.2.2.1, ⟨hk.2.2.2.2.2.2.2.2.1, ⟨hk.2.2.2.2.2.2.2.2.2.1, ⟨hk.2.2.2.2.2.2.2.2.2.2, ⟨hk.2.2.2.1, hk.2.2.2.2.1⟩⟩⟩⟩⟩⟩⟩)⟩, ⟨by (try simp only [hl340000_111]); (try simp only [hl340001_111]); (try simp only [hl351007_111]); (repeat apply rX); exact Kd.R_mono HO_351007.out (fun _ hk => ⟨hk.2.2.2.2.2.1, ⟨hk.2.2.2.2.2.2.1, ⟨hk.2.2.2.2.2.2.2.1, ⟨hk.2.2.2.2.2.2.2.2.1, ⟨hk.2.2.2.2.2.2.2.2.2.1, ⟨hk.2.2.2.2.2.2.2.2.2.2, ⟨hk.2.2.2.1, hk.2.2.2.2.1⟩⟩⟩⟩⟩⟩⟩)⟩, ⟨by (try simp only [hl340000_111]); (try simp only [hl340001_111]); (try simp only [hl351007_111]); (repeat apply rX); exact Kd.R_mono HO_359000.out (fun _ hk => ⟨hk.2.2.2.2.2.1, ⟨hk.2.2.2.2.2.2.1, ⟨hk.2.2.2.2.2.2.2.1, ⟨hk.2.2.2.2.2.2.2.2.1, ⟨hk.2.2.2.2.2.2.2.2.2.1, ⟨hk.2.2.2.2.2.2.2.2.2.2, ⟨hk.2.2.2.1, hk.2.2.2.2.1⟩⟩⟩⟩⟩⟩⟩)⟩, ⟨by (try simp only [hl340000_111]); (try simp only [hl340001_111]); (try simp only [hl351007_111]); (repeat apply rX); exact Kd.R_mono HO_359001.out (fun _ hk => ⟨hk.2.2.2.2.2.1, ⟨hk.2.2.2.2.2.2.1, ⟨hk.2.2.2.2.2.2.2.1, ⟨hk.2.2.2.2.2.2.2.2.1, ⟨hk.2.2.2.2.2.2.2.2.2.1, ⟨hk.2.2.2.2.2.2.2.2.2.2, ⟨hk.2.2.2.1, hk.2.2.2.2.1⟩⟩⟩⟩⟩⟩⟩)⟩, ⟨by (try simp only [hl340000_111]); (try simp only [hl340001_111]); (try simp only [hl351007_111]); (repeat apply rX); exact Kd.R_mono HO406.out (fun _ hk => ⟨hk.2.2.2.2.1, ⟨hk.2.2.2.2.2.1, ⟨hk.2.2.2.2.2.2.1, ⟨hk.2.2.2.2.2.2.2.1, ⟨hk.2.2.2.2.2.2.2.2.1, ⟨hk.2.2.2.2.2.2.2.2.2.1, ⟨hk.2.2.2.2.2.2.2.2.2.2, hk.2.2.2.1⟩⟩⟩⟩⟩⟩⟩)⟩, ⟨by (try simp only [hl340000_111]); (try simp only [hl340001_111]); (try simp only [hl351007_111]); (repeat apply rX); exact Kd.R_mono HO409.out (fun _ hk => ⟨hk.2.2.2.2.1, ⟨hk.2.2.2.2.2.1, ⟨hk.2.2.2.2.2.2.1, ⟨hk.2.2.2.2.2.2.2.1, ⟨hk.2.2.2.2.2.2.2.2.1, ⟨hk.2.2.2.2.2.2.2.2.2.1, ⟨hk.2.2.2.2.2.2.2.2.2.2, hk.2.2.2.1⟩⟩⟩⟩⟩⟩⟩)⟩, ⟨by (try simp only [hl340000_111]); (try simp only [hl340001_111]); (try simp only [hl351007_111]); (repeat apply bX); exact BK305.out⟩, ⟨by (try simp only [hl340000_111]); (try simp only [hl340001_111]); (try simp only [hl351007_111]); (repeat apply bX); exact BK306.out⟩, ⟨by (try simp only [hl340000_111]); (try simp only [hl340001_111]); (try simp only [hl351007_111]); (repeat apply bX); exact BK332.out⟩, ⟨by (try simp only [hl340000_111]); (try simp only [hl340001_111]); (try simp only [hl351007_111]); (repeat apply bX); exact BK339.out⟩, ⟨by (try simp only [hl340000_111]); (try simp only [hl340001_111]); (try simp only [hl351007_111]); (repeat apply bX); exact BK350.out⟩, ⟨by (try simp only [hl340000_111]); (try simp only [hl340001_111]); (try simp only [hl351007_111]); (repeat apply bX); exact BK358.out⟩, ⟨by (try simp only [hl340000_111]); (try simp only [hl340001_111]); (try simp only [hl351007_111]); (repeat apply bX); exact BK411.out⟩, ⟨by repeat (first | (with_reducible first | exact HB.out | apply below_alloc | apply pw_below_drewN | apply below_drew1 | refine below_set ?_ GE305.out | refine below_set ?_ GE306.out | refine below_set ?_ GE332.out | refine below_set ?_ GE339.out | refine below_set ?_ GE350.out | refine below_set ?_ GE358.out | refine below_set ?_ GE411.out) | exact HB.out)⟩⟩
   replace c194 := Bool.eq_false_iff.mpr c194
   subst c194
   have H1 : (laws_FnExactSpendCredits.j2 kj111 t384 true t385 t386) = some r := by rw [if_neg (show ¬ (false = true) by decide)] at H; exact H
   clear H
   have H := H1
   clear H1
   have H' := Aside0.mk H
   clear H
   have hnb209 := NB411_305.out
   have hnc209 := NB305_411.out
   have hnb210 := NB411_306.out
   have hnc210 := NB306_411.out
   have hnb211 := NB411_332.out
   have hnc211 := NB332_411.out
   have hnb212 := NB411_339.out
   have hnc212 := NB339_411.out
   have hnb213 := NB411_350.out
   have hnc213 := NB350_411.out
   have hnb214 := NB411_358.out
   have hnc214 := NB358_411.out
   obtain ⟨hcz215_0, hcz215_1, hfz215_0, hfz215_1⟩ := b2 BK411.out
   have hnb216 := NB332_305.out
   have hnc216 := NB305_332.out
   have hnb217 := NB332_306.out
   have hnc217 := NB306_332.out
   have hnb218 := NB332_339.out
   have hnc218 := NB339_332.out
   have hnb219 := NB332_350.out
   have hnc219 := NB350_332.out
   have hnb220 := NB332_358.out
   have hnc220 := NB358_332.out
   obtain ⟨hcz221_0, hcz221_1, hfz221_0, hfz221_1⟩ := b2 BK332.out
   go_wp2_with (first | ((with_reducible refine gate_callee (f := 19) rfl ?_); refine goesL_ (some 104) rfl rfl Try.func19 (by kernel_rfl) rfl #[.agg #[.slice Ao189 t404.length co189, .slice Ao191 t407.length co191], .agg #[.slice Ao42 t325.length co42, .slice Ao44 t328.length co44]] rfl (by (try simp only [List.map_toArray, List.map_cons, List.map_nil]); first | done | rfl) ?_; (with_reducible refine (laws_eqCredits.calls kj111 _ _ t404 _ _ t407 _ _ t325 _ _ t328 false _ ?side1 ?side2 ?side3 ?side4 ?side5 ?side6 ?side7 ?side8 A193.out).mono ?_); (case side1 => refine (Kd.R_reads' (e := 3) (base := w.heap.size) (ok := fun k_ => (some k_ ≠ (v389 : Value).ownBlock ∧ (some k_ ≠ (v392 : Value).ownBlock ∧ (some k_ ≠ (v402 : Value).ownBlock ∧ (some k_ ≠ (.slice Ao191 t407.length co191 : Value).ownBlock ∧ (some k_ ≠ (.slice Ao42 t325.length co42 : Value).ownBlock ∧ (some k_ ≠ (.slice Ao44 t328.length co44 : Value).ownBlock ∧ (some k_ ≠ (.slice Ao50 t379.length co50 : Value).ownBlock ∧ (some k_ ≠ (.slice Ao55 t380.length co55 : Value).ownBlock ∧ (some k_ ≠ (.slice Ao65 t382.length co65 : Value).ownBlock ∧ (some k_ ≠ (.slice Ao69 t351.length co69 : Value).ownBlock ∧ some k_ ≠ (.slice Ao76 t354.length co76 : Value).ownBlock))))))))))) (n := t404.length) (c := co189) ?_).2.2; exact (by (repeat apply rX); exact (Kd.R_mono (Kd.R_far (p := ⟨gb411, 1, none⟩) (Kd.R_far (p := ⟨gb411, 0, none⟩) (Kd.R_types HO406.out BK411.out (by decide)) (fun _ hk => hk.2) (.slice Ao189 t404.length co189)) (fun _ hk => hk.2) (.slice Ao191 t407.length co191)) (fun _ h_ => h_.1)))); (case side2 => exact (Kd.R_reads' HO406.out).2.1); (case side3 => refine (Kd.R_reads' (e := 3) (base := w.heap.size) (ok := fun k_ => (some k_ ≠ (v389 : Value).ownBlock ∧ (some k_ ≠ (v392 : Value).ownBlock ∧ (some k_ ≠ (v402 : Value).ownBlock ∧ (some k_ ≠ (.slice Ao189 t404.length co189 : Value).ownBlock ∧ (some k_ ≠ (.slice Ao42 t325.length co42 : Value).ownBlock ∧ (some k_ ≠ (.slice Ao44 t328.length co44 : Value).ownBlock ∧ (some k_ ≠ (.slice Ao50 t379.length co50 : Value).ownBlock ∧ (some k_ ≠ (.slice Ao55 t380.length co55 : Value).ownBlock ∧ (some k_ ≠ (.slice Ao65 t382.length co65 : Value).ownBlock ∧ (some k_ ≠ (.slice Ao69 t351.length co69 : Value).ownBlock ∧ some k_ ≠ (.slice Ao76 t354.length co76 : Value).ownBlock))))))))))) (n := t407.length) (c := co191) ?_).2.2; exact (by (repeat apply rX); exact (Kd.R_mono (Kd.R_far (p := ⟨gb411, 1, none⟩) (Kd.R_far (p := ⟨gb411, 0, none⟩) (Kd.R_types HO409.out BK411.out (by decide)) (fun _ hk => hk.2) (.slice Ao189 t404.length co189)) (fun _ hk => hk.2) (.slice Ao191 t407.length co191)) (fun _ h_ => h_.1)))); (case side4 => exact (Kd.R_reads' HO409.out).2.1); (case side5 => refine (Kd.R_reads' (e := 3) (base := w.heap.size) (ok := fun k_ => (some k_ ≠ (v389 : Value).ownBlock ∧ (some k_ ≠ (v392 : Value).ownBlock ∧ (some k_ ≠ (v402 : Value).ownBlock ∧ (some k_ ≠ (.slice Ao189 t404.length co189 : Value).ownBlock ∧ (some k_ ≠ (.slice Ao191 t407.length co191 : Value).ownBlock ∧ (some k_ ≠ (.slice Ao44 t328.length co44 : Value).ownBlock ∧ (some k_ ≠ (.slice Ao50 t379.length co50 : Value).ownBlock ∧ (some k_ ≠ (.slice Ao55 t380.length co55 : Value).ownBlock ∧ (some k_ ≠ (.slice Ao65 t382.length co65 : Value).ownBlock ∧ (some k_ ≠ (.slice Ao69 t351.length co69 : Value).ownBlock ∧ some k_ ≠ (.slice Ao76 t354.length co76 : Value).ownBlock))))))))))) (n := t325.length) (c := co42) ?_).2.2; exact (by (repeat apply rX); exact (Kd.R_mono (Kd.R_far (p := ⟨gb411, 1, none⟩) (Kd.R_far (p := ⟨gb411, 0, none⟩) (Kd.R_types HO_333000.out BK411.out (by decide)) (fun _ hk => hk.2) (.slice Ao189 t404.length co189)) (fun _ hk => hk.2) (.slice Ao191 t407.length co191)) (fun _ h_ => h_.1)))); (case side6 => exact (Kd.R_reads' HO_333000.out).2.1); (case side7 => refine (Kd.R_reads' (e := 3) (base := w.heap.size) (ok := fun k_ => (some k_ ≠ (v389 : Value).ownBlock ∧ (some k_ ≠ (v392 : Value).ownBlock ∧ (some k_ ≠ (v402 : Value).ownBlock ∧ (some k_ ≠ (.slice Ao189 t404.length co189 : Value).ownBlock ∧ (some k_ ≠ (.slice Ao191 t407.length co191 : Value).ownBlock ∧ (some k_ ≠ (.slice Ao42 t325.length co42 : Value).ownBlock ∧ (some k_ ≠ (.slice Ao50 t379.length co50 : Value).ownBlock ∧ (some k_ ≠ (.slice Ao55 t380.length co55 : Value).ownBlock ∧ (some k_ ≠ (.slice Ao65 t382.length co65 : Value).ownBlock ∧ (some k_ ≠ (.slice Ao69 t351.length co69 : Value).ownBlock ∧ some k_ ≠ (.slice Ao76 t354.length co76 : Value).ownBlock))))))))))) (n := t328.length) (c := co44) ?_).2.2; exact (by (repeat apply rX); exact (Kd.R_mono (Kd.R_far (p := ⟨gb411, 1, none⟩) (Kd.R_far (p := ⟨gb411, 0, none⟩) (Kd.R_types HO_333001.out BK411.out (by decide)) (fun _ hk => hk.2) (.slice Ao189 t404.length co189)) (fun _ hk => hk.2) (.slice Ao191 t407.length co191)) (fun _ h_ => h_.1)))); (case side8 => exact (Kd.R_reads' HO_333001.out).2.1); rintro e w222 ⟨rfl, hb⟩; refine ⟨_, rfl, ?_⟩; have n0_ := Aside0.mk (Kd.R_below (by (repeat apply rX); exact (Kd.R_mono (Kd.R_far (p := ⟨gb411, 1, none⟩) (Kd.R_far (p := ⟨gb411, 0, none⟩) (Kd.R_types HO_333000.out BK411.out (by decide)) (fun _ hk => hk.2) (.slice Ao189 t404.length co189)) (fun _ hk => hk.2) (.slice Ao191 t407.length co191)) (fun _ h_ => h_.1))) hb); have n1_ := Aside0.mk (Kd.R_below (by (repeat apply rX); exact (Kd.R_mono (Kd.R_far (p := ⟨gb411, 1, none⟩) (Kd.R_far (p := ⟨gb411, 0, none⟩) (Kd.R_types HO_333001.out BK411.out (by decide)) (fun _ hk => hk.2) (.slice Ao189 t404.length co189)) (fun _ hk => hk.2) (.slice Ao191 t407.length co191)) (fun _ h_ => h_.1))) hb); have n2_ := Aside0.mk (Kd.R_below (by (repeat apply rX); exact (Kd.R_mono (Kd.R_far (p := ⟨gb411, 1, none⟩) (Kd.R_far (p := ⟨gb411, 0, none⟩) (Kd.R_types HO_340000.out BK411.out (by decide)) (fun _ hk => hk.2) (.slice Ao189 t404.length co189)) (fun _ hk => hk.2) (.slice Ao191 t407.length co191)) (fun _ h_ => h_.1))) hb); have n3_ := Aside0.mk (Kd.R_below (by (repeat apply rX); exact (Kd.R_mono (Kd.R_far (p := ⟨gb411, 1, none⟩) (Kd.R_far (p := ⟨gb411, 0, none⟩) (Kd.R_types HO_340001.out BK411.out (by decide)) (fun _ hk => hk.2) (.slice Ao189 t404.length co189)) (fun _ hk => hk.2) (.slice Ao191 t407.length co191)) (fun _ h_ => h_.1))) hb); have n4_ := Aside0.mk (Kd.R_below (by (repeat apply rX); exact (Kd.R_mono (Kd.R_far (p := ⟨gb411, 1, none⟩) (Kd.R_far (p := ⟨gb411, 0, none⟩) (Kd.R_types HO_351007.out BK411.out (by decide)) (fun _ hk => hk.2) (.slice Ao189 t404.length co189)) (fun _ hk => hk.2) (.slice Ao191 t407.length co191)) (fun _ h_ => h_.1))) hb); have n5_ := Aside0.mk (Kd.R_below (by (repeat apply rX); exact (Kd.R_mono (Kd.R_far (p := ⟨gb411, 1, none⟩) (Kd.R_far (p := ⟨gb411, 0, none⟩) (Kd.R_types HO_359000.out BK411.out (by decide)) (fun _ hk => hk.2) (.slice Ao189 t404.length co189)) (fun _ hk => hk.2) (.slice Ao191 t407.length co191)) (fun _ h_ => h_.1))) hb); have n6_ := Aside0.mk (Kd.R_below (by (repeat apply rX); exact (Kd.R_mono (Kd.R_far (p := ⟨gb411, 1, none⟩) (Kd.R_far (p := ⟨gb411, 0, none⟩) (Kd.R_types HO_359001.out BK411.out (by decide)) (fun _ hk => hk.2) (.slice Ao189 t404.length co189)) (fun _ hk => hk.2) (.slice Ao191 t407.length co191)) (fun _ h_ => h_.1))) hb); have n7_ := Aside0.mk (Kd.R_below (by (repeat apply rX); exact (Kd.R_mono (Kd.R_far (p := ⟨gb411, 1, none⟩) (Kd.R_far (p := ⟨gb411, 0, none⟩) (Kd.R_types HO390.out BK411.out (by decide)) (fun _ hk => hk.2) (.slice Ao189 t404.length co189)) (fun _ hk => hk.2) (.slice Ao191 t407.length co191)) (fun _ h_ => h_.1))) hb); have n8_ := Aside0.mk (Kd.R_below (by (repeat apply rX); exact (Kd.R_mono (Kd.R_far (p := ⟨gb411, 1, none⟩) (Kd.R_far (p := ⟨gb411, 0, none⟩) (Kd.R_types HO393.out BK411.out (by decide)) (fun _ hk => hk.2) (.slice Ao189 t404.length co189)) (fun _ hk => hk.2) (.slice Ao191 t407.length co191)) (fun _ h_ => h_.1))) hb); have n9_ := Aside0.mk (Kd.R_below (by (repeat apply rX); exact (Kd.R_mono (Kd.R_far (p := ⟨gb411, 1, none⟩) (Kd.R_far (p := ⟨gb411, 0, none⟩) (Kd.R_types HO403.out BK411.out (by decide)) (fun _ hk => hk.2) (.slice Ao189 t404.length co189)) (fun _ hk => hk.2) (.slice Ao191 t407.length co191)) (fun _ h_ => h_.1))) hb); have n10_ := Aside0.mk (Kd.R_below (by (repeat apply rX); exact (Kd.R_mono (Kd.R_far (p := ⟨gb411, 1, none⟩) (Kd.R_far (p := ⟨gb411, 0, none⟩) (Kd.R_types HO406.out BK411.out (by decide)) (fun _ hk => hk.2) (.slice Ao189 t404.length co189)) (fun _ hk => hk.2) (.slice Ao191 t407.length co191)) (fun _ h_ => h_.1))) hb); have n11_ := Aside0.mk (Kd.R_below (by (repeat apply rX); exact (Kd.R_mono (Kd.R_far (p := ⟨gb411, 1, none⟩) (Kd.R_far (p := ⟨gb411, 0, none⟩) (Kd.R_types HO409.out BK411.out (by decide)) (fun _ hk => hk.2) (.slice Ao189 t404.length co189)) (fun _ hk => hk.2) (.slice Ao191 t407.length co191)) (fun _ h_ => h_.1))) hb); have n12_ := Aside0.mk (blk_below (g := gb305) (o := .cells #[.slice A0_0 l0_0.length c0_0, .slice A0_1 l0_1.length c0_1] 24 (0, 0)) (by (repeat apply bX); refine blk_far ?_ NB305_411.out _; (repeat apply bX); refine blk_far ?_ NB305_411.out _; (repeat apply bX); exact BK305.out) hb); have n13_ := Aside0.mk (blk_below (g := gb306) (o := .cells #[.int .i64 a1_0, .int .i64 a1_1, .int .i64 a1_2, .int .i64 a1_3, .int .i64 a1_4, .int .i64 a1_5, .int .i64 a1_6, .slice A1_7 l1_7.length c1_7] 32 (0, 0)) (by (repeat apply bX); refine blk_far ?_ NB306_411.out _; (repeat apply bX); refine blk_far ?_ NB306_411.out _; (repeat apply bX); exact BK306.out) hb); have n14_ := Aside0.mk (blk_below (g := gb332) (o := .cells #[.slice Ao42 t325.length co42, .slice Ao44 t328.length co44] 27 (0, 0)) (by (repeat apply bX); refine blk_far ?_ NB332_411.out _; (repeat apply bX); refine blk_far ?_ NB332_411.out _; (repeat apply bX); exact BK332.out) hb); have n15_ := Aside0.mk (blk_below (g := gb339) (o := .cells #[.slice Ao50 t379.length co50, .slice Ao55 t380.length co55] 27 (0, 0)) (by (repeat apply bX); refine blk_far ?_ NB339_411.out _; (repeat apply bX); refine blk_far ?_ NB339_411.out _; (repeat apply bX); exact BK339.out) hb); have n16_ := Aside0.mk (blk_below (g := gb350) (o := .cells #[.int .i64 t340, .int .i64 t341, .int .i64 t342, .int .i64 t343, .int .i64 t344, .int .i64 t345, .int .i64 t346, .slice Ao65 t382.length co65] 35 (0, 0)) (by (repeat apply bX); refine blk_far ?_ NB350_411.out _; (repeat apply bX); refine blk_far ?_ NB350_411.out _; (repeat apply bX); exact BK350.out) hb); have n17_ := Aside0.mk (blk_below (g := gb358) (o := .cells #[.slice Ao69 t351.length co69, .slice Ao76 t354.length co76] 27 (0, 0)) (by (repeat apply bX); refine blk_far ?_ NB358_411.out _; (repeat apply bX); refine blk_far ?_ NB358_411.out _; (repeat apply bX); exact BK358.out) hb); have n18_ := Aside0.mk (blk_below (g := gb411) (o := .cells #[.slice Ao189 t404.length co189, .slice Ao191 t407.length co191] 27 (0, 0)) (by (repeat apply bX); refine blk_put (cs := #[.slice Ao189 t404.length co189, .slice none 0 0]) ?_ 1 _ rfl; (repeat apply bX); refine blk_put (cs := #[.slice none 0 0, .slice none 0 0]) ?_ 0 _ rfl; (repeat apply bX); exact BK411.out) hb); have n19_ := Aside0.mk (below_step (by repeat (first | (with_reducible first | exact HB.out | apply below_alloc | apply pw_below_drewN | apply below_drew1 | refine below_set ?_ GE305.out | refine below_set ?_ GE306.out | refine below_set ?_ GE332.out | refine below_set ?_ GE339.out | refine below_set ?_ GE350.out | refine below_set ?_ GE358.out | refine below_set ?_ GE411.out) | exact HB.out)) hb); clear HO_333000; clear HO_333001; clear HO_340000; clear HO_340001; clear HO_351007; clear HO_359000; clear HO_359001; clear HO390; clear HO393; clear HO403; clear HO406; clear HO409; clear BK305; clear BK306; clear BK332; clear BK339; clear BK350; clear BK358; clear BK411; clear HB; have HO_333000 := n0_; have HO_333001 := n1_; have HO_340000 := n2_; have HO_340001 := n3_; have HO_351007 := n4_; have HO_359000 := n5_; have HO_359001 := n6_; have HO390 := n7_; have HO393 := n8_; have HO403 := n9_; have HO406 := n10_; have HO409 := n11_; have BK305 := n12_; have BK306 := n13_; have BK332 := n14_; have BK339 := n15_; have BK350 := n16_; have BK358 := n17_; have BK411 := n18_; have HB := n19_; clear n0_ n1_ n2_ n3_ n4_ n5_ n6_ n7_ n8_ n9_ n10_ n11_ n12_ n13_ n14_ n15_ n16_ n17_ n18_ n19_; (try clear hb); (try clear hb2); (try clear hk); (try clear hi)))
   go_meet
   case rel => exact ⟨_, (true), (by first | rfl | (simp; done) | (simp [*]; done)), H', ⟨by have := HJ24.out; have := HJ111.out; first | omega | exact Nat.le_refl _⟩, ⟨by (try simp only [hl340000_111]); (try simp only [hl340001_111]); (try simp only [hl351007_111]); (repeat apply rX); exact Kd.R_mono HO_333000.out (fun _ hk => ⟨hk.2.2.2.2.2.1, ⟨hk.2.2.2.2.2.2.1, ⟨hk.2.2.2.2.2.2.2.1, ⟨hk.2.2.2.2.2.2.2.2.1, ⟨hk.2.2.2.2.2.2.2.2.2.1, ⟨hk.2.2.2.2.2.2.2.2.2.2, ⟨hk.2.2.2.1, hk.2.2.2.2.1⟩⟩⟩⟩⟩⟩⟩)⟩, ⟨by (try simp only [hl340000_111]); (try simp only [hl340001_111]); (try simp only [hl351007_111]); (repeat apply rX); exact Kd.R_mono HO_333001.out (fun _ hk => ⟨hk.2.2.2.2.2.1, ⟨hk.2.2.2.2.2.2.1, ⟨hk.2.2.2.2.2.2.2.1, ⟨hk.2.2.2.2.2.2.2.2.1, ⟨hk.2.2.2.2.2.2.2.2.2.1, ⟨hk.2.2.2.2.2.2.2.2.2.2, ⟨hk.2.2.2.1, hk.2.2.2.2.1⟩⟩⟩⟩⟩⟩⟩)⟩, ⟨by (try simp only [hl340000_111]); (try simp only [hl340001_111]); (try simp only [hl351007_111]); (repeat apply rX); exact Kd.R_mono HO_340000.out (fun _ hk => ⟨hk.2.2.2.2.2.1, ⟨hk.2.2.2.2.2.2.1, ⟨hk.2.2.2.2.2.2.2.1, ⟨hk.2.2.2.2.2.2.2.2.1, ⟨hk.2.2.2.2.2.2.2.2.2.1, ⟨hk.2.2.2.2.2.2.2.2.2.2, ⟨hk.2.2.2.1, hk.2.2.2.2.1⟩⟩⟩⟩⟩⟩⟩)⟩, ⟨by (try simp only [hl340000_111]); (try simp only [hl340001_111]); (try simp only [hl351007_111]); (repeat apply rX); exact Kd.R_mono HO_340001.out (fun _ hk => ⟨hk.2.2.2.2.2.1, ⟨hk.2.2.2.2.2.2.1, ⟨hk.2.2.2.2.2.2.2.1, ⟨hk.2.2.2.2.2.2.2.2.1, ⟨hk.2.2.2.2.2.2.2.2.2.1, ⟨hk.2.2.2.2.2.2.2.2.2.2, ⟨hk.2.2.2.1, hk.2.2.2.2.1⟩⟩⟩⟩⟩⟩⟩)⟩, ⟨by (try simp only [hl340000_111]); (try simp only [hl340001_111]); (try simp only [hl351007_111]); (repeat apply rX); exact Kd.R_mono HO_351007.out (fun _ hk => ⟨hk.2.2.2.2.2.1, ⟨hk.2.2.2.2.2.2.1, ⟨hk.2.2.2.2.2.2.2.1, ⟨hk.2.2.2.2.2.2.2.2.1, ⟨hk.2.2.2.2.2.2.2.2.2.1, ⟨hk.2.2.2.2.2.2.2.2.2.2, ⟨hk.2.2.2.1, hk.2.2.2.2.1⟩⟩⟩⟩⟩⟩⟩)⟩, ⟨by (try simp only [hl340000_111]); (try simp only [hl340001_111]); (try simp only [hl351007_111]); (repeat apply rX); exact Kd.R_mono HO_359000.out (fun _ hk => ⟨hk.2.2.2.2.2.1, ⟨hk.2.2.2.2.2.2.1, ⟨hk.2.2.2.2.2.2.2.1, ⟨hk.2.2.2.2.2.2.2.2.1, ⟨hk.2.2.2.2.2.2.2.2.2.1, ⟨hk.2.2.2.2.2.2.2.2.2.2, ⟨hk.2.2.2.1, hk.2.2.2.2.1⟩⟩⟩⟩⟩⟩⟩)⟩, ⟨by (try simp only [hl340000_111]); (try simp only [hl340001_111]); (try simp only [hl351007_111]); (repeat apply rX); exact Kd.R_mono HO_359001.out (fun _ hk => ⟨hk.2.2.2.2.2.1, ⟨hk.2.2.2.2.2.2.1, ⟨hk.2.2.2.2.2.2.2.1, ⟨hk.2.2.2.2.2.2.2.2.1, ⟨hk.2.2.2.2.2.2.2.2.2.1, ⟨hk.2.2.2.2.2.2.2.2.2.2, ⟨hk.2.2.2.1, hk.2.2.2.2.1⟩⟩⟩⟩⟩⟩⟩)⟩, ⟨by (try simp only [hl340000_111]); (try simp only [hl340001_111]); (try simp only [hl351007_111]); (repeat apply rX); exact Kd.R_mono HO406.out (fun _ hk => ⟨hk.2.2.2.2.1, ⟨hk.2.2.2.2.2.1, ⟨hk.2.2.2.2.2.2.1, ⟨hk.2.2.2.2.2.2.2.1, ⟨hk.2.2.2.2.2.2.2.2.1, ⟨hk.2.2.2.2.2.2.2.2.2.1, ⟨hk.2.2.2.2.2.2.2.2.2.2, hk.2.2.2.1⟩⟩⟩⟩⟩⟩⟩)⟩, ⟨by (try simp only [hl340000_111]); (try simp only [hl340001_111]); (try simp only [hl351007_111]); (repeat apply rX); exact Kd.R_mono HO409.out (fun _ hk => ⟨hk.2.2.2.2.1, ⟨hk.2.2.2.2.2.1, ⟨hk.2.2.2.2.2.2.1, ⟨hk.2.2.2.2.2.2.2.1, ⟨hk.2.2.2.2.2.2.2.2.1, ⟨hk.2.2.2.2.2.2.2.2.2.1, ⟨hk.2.2.2.2.2.2.2.2.2.2, hk.2.2.2.1⟩⟩⟩⟩⟩⟩⟩)⟩, ⟨by (try simp only [hl340000_111]); (try simp only [hl340001_111]); (try simp only [hl351007_111]); (repeat apply bX); exact BK305.out⟩, ⟨by (try simp only [hl340000_111]); (try simp only [hl340001_111]); (try simp only [hl351007_111]); (repeat apply bX); exact BK306.out⟩, ⟨by (try simp only [hl340000_111]); (try simp only [hl340001_111]); (try simp only [hl351007_111]); (repeat apply bX); exact BK332.out⟩, ⟨by (try simp only [hl340000_111]); (try simp only [hl340001_111]); (try simp only [hl351007_111]); (repeat apply bX); exact BK339.out⟩, ⟨by (try simp only [hl340000_111]); (try simp only [hl340001_111]); (try simp only [hl351007_111]); (repeat apply bX); exact BK350.out⟩, ⟨by (try simp only [hl340000_111]); (try simp only [hl340001_111]); (try simp only [hl351007_111]); (repeat apply bX); exact BK358.out⟩, ⟨by (try simp only [hl340000_111]); (try simp only [hl340001_111]); (try simp only [hl351007_111]); (repeat apply bX); exact BK411.out⟩, ⟨by repeat (first | (with_reducible first | exact HB.out | apply below_alloc | apply pw_below_drewN | apply below_drew1 | refine below_set ?_ GE305.out | refine below_set ?_ GE306.out | refine below_set ?_ GE332.out | refine below_set ?_ GE339.out | refine below_set ?_ GE350.out | refine below_set ?_ GE358.out | refine below_set ?_ GE411.out) | exact HB.out)⟩⟩
  case rest =>
   clear HC170
   obtain ⟨kq, x110_169, rfl, HA, HJ169, HO_333000, HO_333001, HO_340000, HO_340001, HO_351007, HO_359000, HO_359001, HO_412000, HO_412001, BK305, BK306, BK332, BK339, BK350, BK358, BK411, HB⟩ := hcut
   have hl359000_169 := (Kd.R_reads' HO_359000.out).1
   rw [hl359000_169] at HO_359000
   (try simp only [hl359000_169])
   (try simp only [hl359000_169] at BK305)
   (try simp only [hl359000_169] at BK306)
   (try simp only [hl359000_169] at BK332)
   (try simp only [hl359000_169] at BK339)
   (try simp only [hl359000_169] at BK350)
   (try simp only [hl359000_169] at BK358)
   (try simp only [hl359000_169] at BK411)
   (try simp only [hl359000_169] at HO_333000)
   (try simp only [hl359000_169] at HO_333001)
   (try simp only [hl359000_169] at HO_340000)
   (try simp only [hl359000_169] at HO_340001)
   (try simp only [hl359000_169] at HO_351007)
   (try simp only [hl359000_169] at HO_359001)
   (try simp only [hl359000_169] at HO_412000)
   (try simp only [hl359000_169] at HO_412001)
   have hl359001_169 := (Kd.R_reads' HO_359001.out).1
   rw [hl359001_169] at HO_359001
   (try simp only [hl359001_169])
   (try simp only [hl359001_169] at BK305)
   (try simp only [hl359001_169] at BK306)
   (try simp only [hl359001_169] at BK332)
   (try simp only [hl359001_169] at BK339)
   (try simp only [hl359001_169] at BK350)
   (try simp only [hl359001_169] at BK358)
   (try simp only [hl359001_169] at BK411)
   (try simp only [hl359001_169] at HO_333000)
   (try simp only [hl359001_169] at HO_333001)
   (try simp only [hl359001_169] at HO_340000)
   (try simp only [hl359001_169] at HO_340001)
   (try simp only [hl359001_169] at HO_351007)
   (try simp only [hl359001_169] at HO_359000)
   (try simp only [hl359001_169] at HO_412000)
   (try simp only [hl359001_169] at HO_412001)
   cases kq with
   | zero => exact absurd HA.out (by simp [laws_FnExactSpendCredits.j2])
   | succ kj169 =>
    have H := HA.out
    clear HA
    simp only [laws_FnExactSpendCredits.j2] at H
    by_cases c223 : x110_169 = true
    ·subst c223
     have H1 : (some false) = some r := by rw [if_pos rfl] at H; exact H
     clear H
     have H := H1
     clear H1
     exact absurd (H.trans (congrArg some hrt.out)) (by simp)
    replace c223 := Bool.eq_false_iff.mpr c223
    subst c223
    have H1 : ((laws_heldCredits.f kj169 t385 t386 1).bind fun t413 => (if t413 < 0 then (some false) else (if t413 = t384 then (some true) else (some false)))) = some r := by rw [if_neg (show ¬ (false = true) by decide)] at H; exact H
    clear H
    have H := H1
    clear H1
    replace H := Option.bind_eq_some_iff.mp H
    obtain ⟨t413, A2240, H⟩ := H
    have A224 := Aside0.mk A2240
    clear A2240
    by_cases c225 : t413 < 0
    ·rw [if_pos c225] at H
     have c225b0 : decide (t413 < 0) = true := decide_eq_true c225
     clear c225
     exact absurd (H.trans (congrArg some hrt.out)) (by simp)
    rw [if_neg c225] at H
    have c225b0 : decide (t413 < 0) = false := decide_eq_false c225
    clear c225
    by_cases c226 : t413 = t384
    rotate_left
    ·rw [if_neg c226] at H
     have c226b0 : (t413 == t384) = false := beq_eq_false_iff_ne.mpr c226
     have c226b1 : (t413 != t384) = true := bne_iff_ne.mpr c226
     exact absurd (H.trans (congrArg some hrt.out)) (by simp)
    rw [if_pos c226] at H
    have c226b0 : (t413 == t384) = true := beq_iff_eq.mpr c226
    have c226b1 : (t413 != t384) = false := bne_eq_false_iff_eq.mpr c226
    clear c226
    obtain rfl := Option.some.inj H
    have hnb227 := NB358_305.out
    have hnc227 := NB305_358.out
    have hnb228 := NB358_306.out
    have hnc228 := NB306_358.out
    have hnb229 := NB358_332.out
    have hnc229 := NB332_358.out
    have hnb230 := NB358_339.out
    have hnc230 := NB339_358.out
    have hnb231 := NB358_350.out
    have hnc231 := NB350_358.out
    have hnb232 := NB358_411.out
    have hnc232 := NB411_358.out
    obtain ⟨hcz233_0, hcz233_1, hfz233_0, hfz233_1⟩ := b2 BK358.out
    go_wp2_with (first | ((with_reducible refine gate_callee (f := 59) rfl ?_); refine goesL_ (some 113) rfl rfl Try.func59 (by kernel_rfl) rfl #[.agg #[.slice Ao69 t385.length co69, .slice Ao76 t386.length co76], .int .i64 1] rfl (by (try simp only [List.map_toArray, List.map_cons, List.map_nil]); first | done | rfl) ?_; (with_reducible refine (laws_heldCredits.calls kj169 _ _ t385 _ _ t386 1 t413 _ ?side1 ?side2 ?side3 ?side4 A224.out).mono ?_); (case side1 => exact cY ((Kd.R_reads' HO_359000.out).2.2)); (case side2 => exact (Kd.R_reads' HO_359000.out).2.1); (case side3 => exact cY ((Kd.R_reads' HO_359001.out).2.2)); (case side4 => exact (Kd.R_reads' HO_359001.out).2.1); rintro e w234 ⟨rfl, hb⟩; refine ⟨_, rfl, ?_⟩; have n0_ := Aside0.mk (Kd.R_below (rY HO_333000.out) hb); have n1_ := Aside0.mk (Kd.R_below (rY HO_333001.out) hb); have n2_ := Aside0.mk (Kd.R_below (rY HO_340000.out) hb); have n3_ := Aside0.mk (Kd.R_below (rY HO_340001.out) hb); have n4_ := Aside0.mk (Kd.R_below (rY HO_351007.out) hb); have n5_ := Aside0.mk (Kd.R_below (rY HO_359000.out) hb); have n6_ := Aside0.mk (Kd.R_below (rY HO_359001.out) hb); have n7_ := Aside0.mk (Kd.R_below (rY HO_412000.out) hb); have n8_ := Aside0.mk (Kd.R_below (rY HO_412001.out) hb); have n9_ := Aside0.mk (blk_below (bY BK305.out) hb); have n10_ := Aside0.mk (blk_below (bY BK306.out) hb); have n11_ := Aside0.mk (blk_below (bY BK332.out) hb); have n12_ := Aside0.mk (blk_below (bY BK339.out) hb); have n13_ := Aside0.mk (blk_below (bY BK350.out) hb); have n14_ := Aside0.mk (blk_below (bY BK358.out) hb); have n15_ := Aside0.mk (blk_below (bY BK411.out) hb); have n16_ := Aside0.mk (below_step (by repeat (first | (with_reducible first | exact HB.out | apply below_alloc | apply pw_below_drewN | apply below_drew1 | refine below_set ?_ GE305.out | refine below_set ?_ GE306.out | refine below_set ?_ GE332.out | refine below_set ?_ GE339.out | refine below_set ?_ GE350.out | refine below_set ?_ GE358.out | refine below_set ?_ GE411.out) | exact HB.out)) hb); clear HO_333000; clear HO_333001; clear HO_340000; clear HO_340001; clear HO_351007; clear HO_359000; clear HO_359001; clear HO_412000; clear HO_412001; clear BK305; clear BK306; clear BK332; clear BK339; clear BK350; clear BK358; clear BK411; clear HB; have HO_333000 := n0_; have HO_333001 := n1_; have HO_340000 := n2_; have HO_340001 := n3_; have HO_351007 := n4_; have HO_359000 := n5_; have HO_359001 := n6_; have HO_412000 := n7_; have HO_412001 := n8_; have BK305 := n9_; have BK306 := n10_; have BK332 := n11_; have BK339 := n12_; have BK350 := n13_; have BK358 := n14_; have BK411 := n15_; have HB := n16_; clear n0_ n1_ n2_ n3_ n4_ n5_ n6_ n7_ n8_ n9_ n10_ n11_ n12_ n13_ n14_ n15_ n16_; (try clear hb); (try clear hb2); (try clear hk); (try clear hi)))
    go_ret
    exact ⟨by first | rfl | (simp [errW_none, errW_some] <;> rfl) | (simp [*, errW_none, errW_some] <;> rfl), by repeat (first | (with_reducible first | exact HB.out | apply below_alloc | apply pw_below_drewN | apply below_drew1 | refine below_set ?_ GE305.out | refine below_set ?_ GE306.out | refine below_set ?_ GE332.out | refine below_set ?_ GE339.out | refine below_set ?_ GE350.out | refine below_set ?_ GE358.out | refine below_set ?_ GE411.out) | exact HB.out)⟩

end Go.Proofs.Ytkapncihoabnmaa.PFnExactSpendCredits
