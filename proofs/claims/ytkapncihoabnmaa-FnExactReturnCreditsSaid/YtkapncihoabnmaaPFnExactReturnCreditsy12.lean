-- Written by a program of this session (wip/xp): not trusted, Lean checks it.
import Derived.Test.YtkapncihoabnmaaPFnExactReturnCreditsx0
import Derived.Test.YtkapncihoabnmaaPFnExactReturnCreditsx1
import Derived.Test.YtkapncihoabnmaaPFnExactReturnCreditsx5
import Derived.Test.YtkapncihoabnmaaPFnExactReturnCreditsx10
import Derived.Test.YtkapncihoabnmaaPFnExactReturnCreditsx11
namespace Go.Proofs.Ytkapncihoabnmaa.PFnExactReturnCredits
open Go.RowKit Go.Proofs.YtkapncihoabnmaaW.PrintWords Go.Proofs.YtkapncihoabnmaaW.PrintLast Go.Proofs.YtkapncihoabnmaaW.PrintMore
attribute [local go_sem] max2_int min2_int max_two min_two max_three min_three max_four min_four   -- for this text's walks alone
set_option linter.unusedVariables false
set_option linter.unusedSimpArgs false

/-! ### laws_FnExactReturnCredits: function 12 -/
mutual
def laws_FnExactReturnCredits.j0 : Nat → Bool → Bool → Bool → List Int → List Int → Int → Int → Int → Int → Int → Int → Int → List Int → List Int → List Int → List Int → List Int → Int → Int → Int → Int → Int → Int → Int → List Int → List Int → List Int → Option (Bool)
 | 0, _, _, _, _, _, _, _, _, _, _, _, _, _, _, _, _, _, _, _, _, _, _, _, _, _, _, _ => none
 | k + 1, x7, x11, x53, x302000, x302001, x303000, x303001, x303002, x303003, x303004, x303005, x303006, x303007, x329000, x329001, x336000, x336001, x347000, x347001, x347002, x347003, x347004, x347005, x347006, x347007, x355000, x355001 => if x53 = true then (some false) else ((laws_toCredits.f k x302000 x302001).bind fun bt356 => ((laws_eqCredits.f k x336000 x336001 bt356.1 bt356.2).bind fun t362 => (if t362 = true then ((laws_toPacket.f k x303000 x303001 x303002 x303003 x303004 x303005 x303006 x303007).bind fun bt363 => ((laws_eqPacket.f k x347000 x347001 x347002 x347003 x347004 x347005 x347006 x347007 bt363.1 bt363.2.1 bt363.2.2.1 bt363.2.2.2.1 bt363.2.2.2.2.1 bt363.2.2.2.2.2.1 bt363.2.2.2.2.2.2.1 bt363.2.2.2.2.2.2.2).bind fun t373 => (if t373 = true then ((laws_markCredits.f k x336000 x336001 1).bind fun bt374 => ((laws_markPacket.f k x347000 x347001 x347002 x347003 x347004 x347005 x347006 x347007 bt374.1).bind fun bt377 => (if bt377.1 < 0 then (laws_FnExactReturnCredits.j1 k x7 true x302000 x302001 x303000 x303001 x303002 x303003 x303004 x303005 x303006 x303007 x329000 x329001 x355000 x355001) else ((laws_eqCredits.f k x355000 x355001 x329000 x329001).bind fun t379 => (if t379 = true then (laws_FnExactReturnCredits.j1 k x7 (x11 != x7) x302000 x302001 x303000 x303001 x303002 x303003 x303004 x303005 x303006 x303007 x329000 x329001 x355000 x355001) else (laws_FnExactReturnCredits.j1 k x7 true x302000 x302001 x303000 x303001 x303002 x303003 x303004 x303005 x303006 x303007 x329000 x329001 x355000 x355001)))))) else (some false)))) else (some false))))
def laws_FnExactReturnCredits.j1 : Nat → Bool → Bool → List Int → List Int → Int → Int → Int → Int → Int → Int → Int → List Int → List Int → List Int → List Int → List Int → Option (Bool)
 | 0, _, _, _, _, _, _, _, _, _, _, _, _, _, _, _, _ => none
 | k + 1, x7, x82, x302000, x302001, x303000, x303001, x303002, x303003, x303004, x303005, x303006, x303007, x329000, x329001, x355000, x355001 => if x82 = true then (some false) else ((laws_markCredits.f k x355000 x355001 1).bind fun bt380 => ((laws_heldCredits.f k bt380.2.1 bt380.2.2 1).bind fun t383 => (if t383 < 0 then (some false) else (if t383 = bt380.1 then ((laws_toCredits.f k x302000 x302001).bind fun bt384 => ((laws_toPacket.f k x303000 x303001 x303002 x303003 x303004 x303005 x303006 x303007).bind fun bt390 => ((impl_ReturnCredits.f k bt384.1 bt384.2 bt390.1 bt390.2.1 bt390.2.2.1 bt390.2.2.2.1 bt390.2.2.2.2.1 bt390.2.2.2.2.2.1 bt390.2.2.2.2.2.2.1 bt390.2.2.2.2.2.2.2).bind fun bt400 => ((laws_eqCredits.f k bt400.1 bt400.2.1 x329000 x329001).bind fun t408 => (if t408 = true then (laws_FnExactReturnCredits.j2 k bt380.1 (bt400.2.2 != x7) bt380.2.1 bt380.2.2) else (laws_FnExactReturnCredits.j2 k bt380.1 true bt380.2.1 bt380.2.2)))))) else (some false)))))
def laws_FnExactReturnCredits.j2 : Nat → Int → Bool → List Int → List Int → Option (Bool)
 | 0, _, _, _, _ => none
 | k + 1, x13, x110, x355000, x355001 => if x110 = true then (some false) else ((laws_heldCredits.f k x355000 x355001 1).bind fun t409 => (if t409 < 0 then (some false) else (if t409 = x13 then (some true) else (some false))))
end
def laws_FnExactReturnCredits.f (k : Nat) (l0_0 : List Int) (l0_1 : List Int) (a1_0 : Int) (a1_1 : Int) (a1_2 : Int) (a1_3 : Int) (a1_4 : Int) (a1_5 : Int) (a1_6 : Int) (l1_7 : List Int) : Option (Bool) := (laws_szCredits.f l0_0 l0_1 1048576).bind fun t303 => (if t303 < 0 then (some true) else ((laws_szPacket.f a1_0 a1_1 a1_2 a1_3 a1_4 a1_5 a1_6 l1_7 t303).bind fun t304 => (if t304 < 0 then (some true) else ((laws_toCredits.f k l0_0 l0_1).bind fun bt305 => ((laws_toPacket.f k a1_0 a1_1 a1_2 a1_3 a1_4 a1_5 a1_6 l1_7).bind fun bt311 => ((spec_ReturnCredits.f k bt305.1 bt305.2 bt311.1 bt311.2.1 bt311.2.2.1 bt311.2.2.2.1 bt311.2.2.2.2.1 bt311.2.2.2.2.2.1 bt311.2.2.2.2.2.2.1 bt311.2.2.2.2.2.2.2).bind fun bt321 => ((laws_toCredits.f k l0_0 l0_1).bind fun bt329 => ((laws_toPacket.f k a1_0 a1_1 a1_2 a1_3 a1_4 a1_5 a1_6 l1_7).bind fun bt336 => ((impl_ReturnCredits.f k bt329.1 bt329.2 bt336.1 bt336.2.1 bt336.2.2.1 bt336.2.2.2.1 bt336.2.2.2.2.1 bt336.2.2.2.2.2.1 bt336.2.2.2.2.2.2.1 bt336.2.2.2.2.2.2.2).bind fun bt347 => ((laws_eqCredits.f k bt347.1 bt347.2.1 bt321.1 bt321.2.1).bind fun t355 => (if t355 = true then (laws_FnExactReturnCredits.j0 k bt321.2.2 bt347.2.2 (bt347.2.2 != bt321.2.2) l0_0 l0_1 a1_0 a1_1 a1_2 a1_3 a1_4 a1_5 a1_6 l1_7 bt321.1 bt321.2.1 bt329.1 bt329.2 bt336.1 bt336.2.1 bt336.2.2.1 bt336.2.2.2.1 bt336.2.2.2.2.1 bt336.2.2.2.2.2.1 bt336.2.2.2.2.2.2.1 bt336.2.2.2.2.2.2.2 bt347.1 bt347.2.1) else (laws_FnExactReturnCredits.j0 k bt321.2.2 bt347.2.2 true l0_0 l0_1 a1_0 a1_1 a1_2 a1_3 a1_4 a1_5 a1_6 l1_7 bt321.1 bt321.2.1 bt329.1 bt329.2 bt336.1 bt336.2.1 bt336.2.2.1 bt336.2.2.2.1 bt336.2.2.2.2.1 bt336.2.2.2.2.2.1 bt336.2.2.2.2.2.2.1 bt336.2.2.2.2.2.2.2 bt347.1 bt347.2.1))))))))))))
def laws_FnExactReturnCredits.T8 : Bool × List (List Nat × List Nat) := (true, [([], []), ([0], [0]), ([], []), ([2, 1], [2]), ([1, 3, 3], [1, 3]), ([4], [4]), ([5], [5]), ([5], [5]), ([], []), ([8, 6, 4, 0, 1, 2, 3, 4, 5, 6, 8], [6, 8]), ([7, 9, 0, 1, 2, 3, 4, 5, 6, 7, 8, 9], [7])])
def laws_FnExactReturnCredits.B8 : List Nat := [0, 1, 0, 7, 15, 31, 63, 63, 0, 383, 1023]
theorem laws_FnExactReturnCredits.tab8 : rtab .any (opsOf Try.f12 8) = laws_FnExactReturnCredits.T8 := by kernel_rfl
theorem laws_FnExactReturnCredits.bits8 : waitsOk laws_FnExactReturnCredits.T8.2 laws_FnExactReturnCredits.B8 = true := by kernel_rfl
def laws_FnExactReturnCredits.T31 : Bool × List (List Nat × List Nat) := (true, [([], []), ([0], [0]), ([], []), ([2, 1], [2]), ([1, 3, 3], [1, 3]), ([4], [4]), ([5], [5]), ([5], [5]), ([], []), ([8, 6, 4, 0, 1, 2, 3, 4, 5, 6, 8], [6, 8]), ([7, 9, 0, 1, 2, 3, 4, 5, 6, 7, 8, 9], [7])])
def laws_FnExactReturnCredits.B31 : List Nat := [0, 1, 0, 7, 15, 31, 63, 63, 0, 383, 1023]
theorem laws_FnExactReturnCredits.tab31 : rtab .any (opsOf Try.f12 31) = laws_FnExactReturnCredits.T31 := by kernel_rfl
theorem laws_FnExactReturnCredits.bits31 : waitsOk laws_FnExactReturnCredits.T31.2 laws_FnExactReturnCredits.B31 = true := by kernel_rfl
/-- The body behind its first statements. -/
def laws_FnExactReturnCredits.sfx : Nat → Code → Code
 | 0, c => c
 | n + 1, .seq _ c => laws_FnExactReturnCredits.sfx n c
 | _ + 1, c => c
def laws_FnExactReturnCredits.hd : Code → Code
 | .seq a _ => a
 | c => c
def laws_FnExactReturnCredits.tl : Code → Code
 | .seq _ b => b
 | c => c
set_option maxHeartbeats 8000000 in
set_option maxRecDepth 100000 in
theorem laws_FnExactReturnCredits.rest2 (k : Nat) (A0_0 : Option Addr) (c0_0 : Nat) (l0_0 : List Int) (A0_1 : Option Addr) (c0_1 : Nat) (l0_1 : List Int) (a1_0 a1_1 a1_2 a1_3 a1_4 a1_5 a1_6 : Int) (A1_7 : Option Addr) (c1_7 : Nat) (l1_7 : List Int) (r : Bool) (w : World) (hrt : Aside0 (r = true)) (hu24 :  Program.underlying Try.prog 24 = some (TypeDesc.struct #[{ name := "Heads", type := 22, offset := 0, embedded := false, tag := "", pkgPath := "", byteOffset := 0 }, { name := "Units", type := 22, offset := 1, embedded := false, tag := "", pkgPath := "", byteOffset := 24 }])) (hu32 :  Program.underlying Try.prog 32 = some (TypeDesc.struct #[{ name := "Kind", type := 3, offset := 0, embedded := false, tag := "", pkgPath := "", byteOffset := 0 }, { name := "From", type := 3, offset := 1, embedded := false, tag := "", pkgPath := "", byteOffset := 8 }, { name := "To", type := 3, offset := 2, embedded := false, tag := "", pkgPath := "", byteOffset := 16 }, { name := "Address", type := 3, offset := 3, embedded := false, tag := "", pkgPath := "", byteOffset := 24 }, { name := "Length", type := 3, offset := 4, embedded := false, tag := "", pkgPath := "", byteOffset := 32 }, { name := "Tag", type := 3, offset := 5, embedded := false, tag := "", pkgPath := "", byteOffset := 40 }, { name := "Status", type := 3, offset := 6, embedded := false, tag := "", pkgPath := "", byteOffset := 48 }, { name := "Data", type := 22, offset := 7, embedded := false, tag := "", pkgPath := "", byteOffset := 56 }])) (hu27 :  Program.underlying Try.prog 27 = some (TypeDesc.struct #[{ name := "Heads", type := 22, offset := 0, embedded := false, tag := "", pkgPath := "", byteOffset := 0 }, { name := "Units", type := 22, offset := 1, embedded := false, tag := "", pkgPath := "", byteOffset := 24 }])) (hu35 :  Program.underlying Try.prog 35 = some (TypeDesc.struct #[{ name := "Kind", type := 3, offset := 0, embedded := false, tag := "", pkgPath := "", byteOffset := 0 }, { name := "From", type := 3, offset := 1, embedded := false, tag := "", pkgPath := "", byteOffset := 8 }, { name := "To", type := 3, offset := 2, embedded := false, tag := "", pkgPath := "", byteOffset := 16 }, { name := "Address", type := 3, offset := 3, embedded := false, tag := "", pkgPath := "", byteOffset := 24 }, { name := "Length", type := 3, offset := 4, embedded := false, tag := "", pkgPath := "", byteOffset := 32 }, { name := "Tag", type := 3, offset := 5, embedded := false, tag := "", pkgPath := "", byteOffset := 40 }, { name := "Status", type := 3, offset := 6, embedded := false, tag := "", pkgPath := "", byteOffset := 48 }, { name := "Data", type := 22, offset := 7, embedded := false, tag := "", pkgPath := "", byteOffset := 56 }])) (HR0_0 : Aside0 (Kd.C (Kd.int IntKind.i64) w A0_0 (List.length l0_0) l0_0)) (HC0_0 : Aside0 (List.length l0_0 ≤ c0_0)) (HR0_1 : Aside0 (Kd.C (Kd.int IntKind.i64) w A0_1 (List.length l0_1) l0_1)) (HC0_1 : Aside0 (List.length l0_1 ≤ c0_1)) (HR1_7 : Aside0 (Kd.C (Kd.int IntKind.i64) w A1_7 (List.length l1_7) l1_7)) (HC1_7 : Aside0 (List.length l1_7 ≤ c1_7)) (t303 : Int) (A3 : Aside0 (laws_szCredits.f l0_0 l0_1 1048576 = some t303)) (c4b0 : decide (t303 < 0) = false) (t304 : Int) (A10 : Aside0 (laws_szPacket.f a1_0 a1_1 a1_2 a1_3 a1_4 a1_5 a1_6 l1_7 t303 = some t304)) (c11b0 : decide (t304 < 0) = false) (t305 t308 : List Int) (A19 : Aside0 (laws_toCredits.f k l0_0 l0_1 = some (t305, t308))) (t311 t312 t313 t314 t315 t316 t317 : Int) (t318 : List Int) (A20 :  Aside0 (laws_toPacket.f k a1_0 a1_1 a1_2 a1_3 a1_4 a1_5 a1_6 l1_7 = some (t311, t312, t313, t314, t315, t316, t317, t318))) (t321 t324 : List Int) (t327 : Bool) (A21 : Aside0 (spec_ReturnCredits.f k t305 t308 t311 t312 t313 t314 t315 t316 t317 t318 = some (t321, t324, t327))) (t329 t332 : List Int) (A22 : Aside0 (laws_toCredits.f k l0_0 l0_1 = some (t329, t332))) (t336 t337 t338 t339 t340 t341 t342 : Int) (t343 : List Int) (A23 :  Aside0 (laws_toPacket.f k a1_0 a1_1 a1_2 a1_3 a1_4 a1_5 a1_6 l1_7 = some (t336, t337, t338, t339, t340, t341, t342, t343))) (t347 t350 : List Int) (t353 : Bool) (A24 : Aside0 (impl_ReturnCredits.f k t329 t332 t336 t337 t338 t339 t340 t341 t342 t343 = some (t347, t350, t353))) (gb301 : Nat) (GW301 GE301 : Aside0 (Array.size (World.heap w) ≤ gb301)) (gb302 : Nat) (GW302 GE302 : Aside0 (Array.size (World.heap w) ≤ gb302)) (NB301_302 : Aside0 (gb301 ≠ gb302)) (NB302_301 : Aside0 (gb302 ≠ gb301)) (hnb28 : gb301 ≠ gb302) (hnc28 : gb302 ≠ gb301) (HT_ :  Aside0 (rtab Region.Mode.any #[{ dst := some 28, op := Op.load 24 (Operand.tmp 2), type := 24, pos := "exact.go:4132", after := #[], guard := none }, { dst := some 29, op := Op.call { callee := Callee.value (Operand.func 17), args := #[Operand.tmp 28], argTypes := #[24] }, type := 27, pos := "exact.go:4132", after := #[{ on := 0, ground := Ground.data }], guard := none }, { dst := some 30, op := Op.load 32 (Operand.tmp 3), type := 32, pos := "exact.go:4132", after := #[], guard := none }, { dst := some 31, op := Op.call { callee := Callee.value (Operand.func 22), args := #[Operand.tmp 30], argTypes := #[32] }, type := 35, pos := "exact.go:4132", after := #[{ on := 2, ground := Ground.data }, { on := 1, ground := Ground.chain }], guard := none }, { dst := some 32, op := Op.call { callee := Callee.value (Operand.func 56), args := #[Operand.tmp 29, Operand.tmp 31], argTypes := #[27, 35] }, type := 74, pos := "exact.go:4132", after := #[{ on := 1, ground := Ground.data }, { on := 3, ground := Ground.data }, { on := 3, ground := Ground.chain }], guard := none }, { dst := some 27, op := Op.move (Operand.tmp 32), type := 74, pos := "exact.go:4132", after := #[{ on := 4, ground := Ground.data }], guard := none }, { dst := some 33, op := Op.extract (Operand.tmp 27) 0, type := 27, pos := "exact.go:4132", after := #[{ on := 5, ground := Ground.data }], guard := none }, { dst := some 34, op := Op.extract (Operand.tmp 27) 1, type := 4, pos := "exact.go:4132", after := #[{ on := 5, ground := Ground.data }, { on := 9, ground := Ground.gcOnly Departure.lateStores }], guard := none }, { dst := some 6, op := Op.alloc 27, type := 0, pos := "exact.go:4132", after := #[], guard := none }, { dst := none, op := Op.store 27 (Operand.tmp 6) (Operand.tmp 33), type := 0, pos := "exact.go:4132", after := #[{ on := 8, ground := Ground.data }, { on := 6, ground := Ground.data }, { on := 4, ground := Ground.chain }, { on := 0, ground := Ground.phase }, { on := 1, ground := Ground.phase }, { on := 2, ground := Ground.phase }, { on := 3, ground := Ground.phase }, { on := 4, ground := Ground.phase }, { on := 5, ground := Ground.phase }, { on := 6, ground := Ground.phase }, { on := 7, ground := Ground.textOnly Departure.lateStores }, { on := 8, ground := Ground.phase }], guard := none }, { dst := some 7, op := Op.assign (Operand.tmp 34), type := 4, pos := "exact.go:4132", after := #[{ on := 7, ground := Ground.data }, { on := 9, ground := Ground.chain }, { on := 0, ground := Ground.phase }, { on := 1, ground := Ground.phase }, { on := 2, ground := Ground.phase }, { on := 3, ground := Ground.phase }, { on := 4, ground := Ground.phase }, { on := 5, ground := Ground.phase }, { on := 6, ground := Ground.phase }, { on := 7, ground := Ground.phase }, { on := 8, ground := Ground.phase }, { on := 9, ground := Ground.phase }], guard := none }] = T8)) (HW_ : Aside0 (waitsOk (Prod.snd T8) B8 = true)) (v306 v309 v319 : Value) (gb328 : Nat) (GW328 GE328 : Aside0 (Array.size (World.heap w) ≤ gb328)) (NB301_328 : Aside0 (gb301 ≠ gb328)) (NB328_301 : Aside0 (gb328 ≠ gb301)) (NB302_328 : Aside0 (gb302 ≠ gb328)) (NB328_302 : Aside0 (gb328 ≠ gb302)) (Ao42 : Option Addr) (co42 : Nat) (Ao44 : Option Addr) (co44 : Nat) (hns43_0 : gb301 ≠ gb328) (hns43_1 : gb302 ≠ gb328) (hms43_0 : gb328 ≠ gb301) (hms43_1 : gb328 ≠ gb302) (hns45_0 : gb301 ≠ gb328) (hns45_1 : gb302 ≠ gb328) (hms45_0 : gb328 ≠ gb301) (hms45_1 : gb328 ≠ gb302) (hnb46 : gb301 ≠ gb328) (hnc46 : gb328 ≠ gb301) (gb335 : Nat) (GW335 GE335 : Aside0 (Array.size (World.heap w) ≤ gb335)) (NB301_335 : Aside0 (gb301 ≠ gb335)) (NB335_301 : Aside0 (gb335 ≠ gb301)) (NB302_335 : Aside0 (gb302 ≠ gb335)) (NB335_302 : Aside0 (gb335 ≠ gb302)) (NB328_335 : Aside0 (gb328 ≠ gb335)) (NB335_328 : Aside0 (gb335 ≠ gb328)) (Ao50 : Option Addr) (co50 : Nat) (hnb51 : gb335 ≠ gb301) (hnc51 : gb301 ≠ gb335) (hnb52 : gb335 ≠ gb302) (hnc52 : gb302 ≠ gb335) (hnb53 : gb335 ≠ gb328) (hnc53 : gb328 ≠ gb335) (Ao55 : Option Addr) (co55 : Nat) (hnb56 : gb302 ≠ gb328) (hnc56 : gb328 ≠ gb302) (gb346 : Nat) (GW346 GE346 : Aside0 (Array.size (World.heap w) ≤ gb346)) (NB301_346 : Aside0 (gb301 ≠ gb346)) (NB346_301 : Aside0 (gb346 ≠ gb301)) (NB302_346 : Aside0 (gb302 ≠ gb346)) (NB346_302 : Aside0 (gb346 ≠ gb302)) (NB328_346 : Aside0 (gb328 ≠ gb346)) (NB346_328 : Aside0 (gb346 ≠ gb328)) (NB335_346 : Aside0 (gb335 ≠ gb346)) (NB346_335 : Aside0 (gb346 ≠ gb335)) (hnb60 : gb346 ≠ gb301) (hnc60 : gb301 ≠ gb346) (hnb61 : gb346 ≠ gb302) (hnc61 : gb302 ≠ gb346) (hnb62 : gb346 ≠ gb328) (hnc62 : gb328 ≠ gb346) (hnb63 : gb346 ≠ gb335) (hnc63 : gb335 ≠ gb346) (Ao65 : Option Addr) (co65 : Nat) (gb354 : Nat) (GW354 GE354 : Aside0 (Array.size (World.heap w) ≤ gb354)) (NB301_354 : Aside0 (gb301 ≠ gb354)) (NB354_301 : Aside0 (gb354 ≠ gb301)) (NB302_354 : Aside0 (gb302 ≠ gb354)) (NB354_302 : Aside0 (gb354 ≠ gb302)) (NB328_354 : Aside0 (gb328 ≠ gb354)) (NB354_328 : Aside0 (gb354 ≠ gb328)) (NB335_354 : Aside0 (gb335 ≠ gb354)) (NB354_335 : Aside0 (gb354 ≠ gb335)) (NB346_354 : Aside0 (gb346 ≠ gb354)) (NB354_346 : Aside0 (gb354 ≠ gb346)) (Ao69 : Option Addr) (co69 : Nat) (hnb70 : gb354 ≠ gb301) (hnc70 : gb301 ≠ gb354) (hnb71 : gb354 ≠ gb302) (hnc71 : gb302 ≠ gb354) (hnb72 : gb354 ≠ gb328) (hnc72 : gb328 ≠ gb354) (hnb73 : gb354 ≠ gb335) (hnc73 : gb335 ≠ gb354) (hnb74 : gb354 ≠ gb346) (hnc74 : gb346 ≠ gb354) (Ao76 : Option Addr) (co76 : Nat) (kj24 : Nat) (HJ24 : Aside0 (kj24 + 1 ≤ k)) (t356 t359 : List Int) (A104 : Aside0 (laws_toCredits.f kj24 l0_0 l0_1 = some (t356, t359))) (A105 : Aside0 (laws_eqCredits.f kj24 t329 t332 t356 t359 = some true)) (t363 t364 t365 t366 t367 t368 t369 : Int) (t370 : List Int) (A107 :  Aside0 (laws_toPacket.f kj24 a1_0 a1_1 a1_2 a1_3 a1_4 a1_5 a1_6 l1_7 = some (t363, t364, t365, t366, t367, t368, t369, t370))) (A108 :  Aside0 (laws_eqPacket.f kj24 t336 t337 t338 t339 t340 t341 t342 t343 t363 t364 t365 t366 t367 t368 t369 t370 = some true)) (t374 : Int) (t375 t376 : List Int) (A110 : Aside0 (laws_markCredits.f kj24 t329 t332 1 = some (t374, t375, t376))) (t377 : Int) (t378 : List Int) (A111 : Aside0 (laws_markPacket.f kj24 t336 t337 t338 t339 t340 t341 t342 t343 t374 = some (t377, t378))) (Ao115 : Option Addr) (co115 : Nat) (Ao116 : Option Addr) (co116 : Nat) (Ao120 : Option Addr) (co120 : Nat) (hnb122 : gb335 ≠ gb301) (hnc122 : gb301 ≠ gb335) (hnb123 : gb335 ≠ gb302) (hnc123 : gb302 ≠ gb335) (hnb124 : gb335 ≠ gb328) (hnc124 : gb328 ≠ gb335) (hnb125 : gb335 ≠ gb346) (hnc125 : gb346 ≠ gb335) (hnb126 : gb335 ≠ gb354) (hnc126 : gb354 ≠ gb335) (hnb129 : gb346 ≠ gb301) (hnc129 : gb301 ≠ gb346) (hnb130 : gb346 ≠ gb302) (hnc130 : gb302 ≠ gb346) (hnb131 : gb346 ≠ gb328) (hnc131 : gb328 ≠ gb346) (hnb132 : gb346 ≠ gb354) (hnc132 : gb354 ≠ gb346) (wc : World) (u17 u18 u19 u20 u21 u22 u23 u24 u25 u26 u27 u28 u29 u30 u31 u32 u33 u34 u35 u36 u37 u38 u39 u40 u41 u42 u43 u44 u45 u46 u47 u48 u49 u50 u51 u52 u53 u54 u55 u56 u57 u58 u59 u60 u61 u62 u63 u64 u65 u66 u67 u68 u69 u70 u71 u72 u73 u74 u75 u76 u77 u78 u79 u80 u81 u82 u83 u84 u85 u86 u87 u88 u89 u90 u91 u92 u93 u94 u95 u96 u97 u98 u99 u100 u101 u102 u103 u104 u105 u106 u107 u108 u109 u110 u111 u112 u113 u114 u115 u116 u117 u118 :  Value) (hcut :  ∃ kq x82_111, u82 = Value.bool x82_111 ∧ Aside0 (j1 kq t327 x82_111 l0_0 l0_1 a1_0 a1_1 a1_2 a1_3 a1_4 a1_5 a1_6 l1_7 t321 t324 t347 t350 = some r) ∧ Aside0 (kq ≤ kj24) ∧ Aside0 (Kd.R (Kd.int IntKind.i64) 3 wc (Array.size (World.heap w)) (fun k_ => some k_ ≠ Value.ownBlock (Value.slice Ao44 (List.length t324) co44) ∧ some k_ ≠ Value.ownBlock (Value.slice Ao50 (List.length t329) co50) ∧ some k_ ≠ Value.ownBlock (Value.slice Ao55 (List.length t332) co55) ∧ some k_ ≠ Value.ownBlock (Value.slice Ao65 (List.length t343) co65) ∧ some k_ ≠ Value.ownBlock (Value.slice Ao69 (List.length t347) co69) ∧ some k_ ≠ Value.ownBlock (Value.slice Ao76 (List.length t350) co76)) (Value.slice Ao42 (List.length t321) co42) t321) ∧ Aside0 (Kd.R (Kd.int IntKind.i64) 3 wc (Array.size (World.heap w)) (fun k_ => some k_ ≠ Value.ownBlock (Value.slice Ao42 (List.length t321) co42) ∧ some k_ ≠ Value.ownBlock (Value.slice Ao50 (List.length t329) co50) ∧ some k_ ≠ Value.ownBlock (Value.slice Ao55 (List.length t332) co55) ∧ some k_ ≠ Value.ownBlock (Value.slice Ao65 (List.length t343) co65) ∧ some k_ ≠ Value.ownBlock (Value.slice Ao69 (List.length t347) co69) ∧ some k_ ≠ Value.ownBlock (Value.slice Ao76 (List.length t350) co76)) (Value.slice Ao44 (List.length t324) co44) t324) ∧ Aside0 (Kd.R (Kd.int IntKind.i64) 3 wc (Array.size (World.heap w)) (fun k_ => some k_ ≠ Value.ownBlock (Value.slice Ao42 (List.length t321) co42) ∧ some k_ ≠ Value.ownBlock (Value.slice Ao44 (List.length t324) co44) ∧ some k_ ≠ Value.ownBlock (Value.slice Ao55 (List.length t332) co55) ∧ some k_ ≠ Value.ownBlock (Value.slice Ao65 (List.length t343) co65) ∧ some k_ ≠ Value.ownBlock (Value.slice Ao69 (List.length t347) co69) ∧ some k_ ≠ Value.ownBlock (Value.slice Ao76 (List.length t350) co76)) (Value.slice Ao50 (List.length t329) co50) t375) ∧ Aside0 (Kd.R (Kd.int IntKind.i64) 3 wc (Array.size (World.heap w)) (fun k_ => some k_ ≠ Value.ownBlock (Value.slice Ao42 (List.length t321) co42) ∧ some k_ ≠ Value.ownBlock (Value.slice Ao44 (List.length t324) co44) ∧ some k_ ≠ Value.ownBlock (Value.slice Ao50 (List.length t329) co50) ∧ some k_ ≠ Value.ownBlock (Value.slice Ao65 (List.length t343) co65) ∧ some k_ ≠ Value.ownBlock (Value.slice Ao69 (List.length t347) co69) ∧ some k_ ≠ Value.ownBlock (Value.slice Ao76 (List.length t350) co76)) (Value.slice Ao55 (List.length t332) co55) t376) ∧ Aside0 (Kd.R (Kd.int IntKind.i64) 3 wc (Array.size (World.heap w)) (fun k_ => some k_ ≠ Value.ownBlock (Value.slice Ao42 (List.length t321) co42) ∧ some k_ ≠ Value.ownBlock (Value.slice Ao44 (List.length t324) co44) ∧ some k_ ≠ Value.ownBlock (Value.slice Ao50 (List.length t329) co50) ∧ some k_ ≠ Value.ownBlock (Value.slice Ao55 (List.length t332) co55) ∧ some k_ ≠ Value.ownBlock (Value.slice Ao69 (List.length t347) co69) ∧ some k_ ≠ Value.ownBlock (Value.slice Ao76 (List.length t350) co76)) (Value.slice Ao65 (List.length t343) co65) t378) ∧ Aside0 (Kd.R (Kd.int IntKind.i64) 3 wc (Array.size (World.heap w)) (fun k_ => some k_ ≠ Value.ownBlock (Value.slice Ao42 (List.length t321) co42) ∧ some k_ ≠ Value.ownBlock (Value.slice Ao44 (List.length t324) co44) ∧ some k_ ≠ Value.ownBlock (Value.slice Ao50 (List.length t329) co50) ∧ some k_ ≠ Value.ownBlock (Value.slice Ao55 (List.length t332) co55) ∧ some k_ ≠ Value.ownBlock (Value.slice Ao65 (List.length t343) co65) ∧ some k_ ≠ Value.ownBlock (Value.slice Ao76 (List.length t350) co76)) (Value.slice Ao69 (List.length t347) co69) t347) ∧ Aside0 (Kd.R (Kd.int IntKind.i64) 3 wc (Array.size (World.heap w)) (fun k_ => some k_ ≠ Value.ownBlock (Value.slice Ao42 (List.length t321) co42) ∧ some k_ ≠ Value.ownBlock (Value.slice Ao44 (List.length t324) co44) ∧ some k_ ≠ Value.ownBlock (Value.slice Ao50 (List.length t329) co50) ∧ some k_ ≠ Value.ownBlock (Value.slice Ao55 (List.length t332) co55) ∧ some k_ ≠ Value.ownBlock (Value.slice Ao65 (List.length t343) co65) ∧ some k_ ≠ Value.ownBlock (Value.slice Ao69 (List.length t347) co69)) (Value.slice Ao76 (List.length t350) co76) t350) ∧ Aside0 ((World.heap wc)[gb301]? = some (Obj.cells #[Value.slice A0_0 (List.length l0_0) c0_0, Value.slice A0_1 (List.length l0_1) c0_1] 24)) ∧ Aside0 ((World.heap wc)[gb302]? = some (Obj.cells #[Value.int IntKind.i64 a1_0, Value.int IntKind.i64 a1_1, Value.int IntKind.i64 a1_2, Value.int IntKind.i64 a1_3, Value.int IntKind.i64 a1_4, Value.int IntKind.i64 a1_5, Value.int IntKind.i64 a1_6, Value.slice A1_7 (List.length l1_7) c1_7] 32)) ∧ Aside0 ((World.heap wc)[gb328]? = some (Obj.cells #[Value.slice Ao42 (List.length t321) co42, Value.slice Ao44 (List.length t324) co44] 27)) ∧ Aside0 ((World.heap wc)[gb335]? = some (Obj.cells #[Value.slice Ao50 (List.length t329) co50, Value.slice Ao55 (List.length t332) co55] 27)) ∧ Aside0 ((World.heap wc)[gb346]? = some (Obj.cells #[Value.int IntKind.i64 t336, Value.int IntKind.i64 t337, Value.int IntKind.i64 t338, Value.int IntKind.i64 t339, Value.int IntKind.i64 t340, Value.int IntKind.i64 t341, Value.int IntKind.i64 t342, Value.slice Ao65 (List.length t343) co65] 35)) ∧ Aside0 ((World.heap wc)[gb354]? = some (Obj.cells #[Value.slice Ao69 (List.length t347) co69, Value.slice Ao76 (List.length t350) co76] 27)) ∧ Aside0 (Below (Array.size (World.heap w)) w wc)) (K1 : Act → World → Prop) (hK1 : ∀ (a : Act) (w_ : World), Code.wp Try.prog (laws_FnExactReturnCredits.tl (laws_FnExactReturnCredits.sfx 16 (Try.f12.body.getD .skip))) (bodyPost Try.prog Try.f12 fun e w' => e = Ending.returned (Value.bool r) ∧ Below (Array.size (World.heap w)) w w') a w_ → K1 a w_) (K : Act → World → Prop) (hK : ∀ (a : Act) (w_ : World), Code.wp Try.prog (laws_FnExactReturnCredits.tl (laws_FnExactReturnCredits.hd (laws_FnExactReturnCredits.sfx 16 (Try.f12.body.getD .skip)))) (Exit.then K1 (bodyPost Try.prog Try.f12 fun e w' => e = Ending.returned (Value.bool r) ∧ Below (Array.size (World.heap w)) w w')) a w_ → K a w_) : K { tmps := #[Value.agg #[Value.slice A0_0 (List.length l0_0) c0_0, Value.slice A0_1 (List.length l0_1) c0_1], Value.agg #[Value.int IntKind.i64 a1_0, Value.int IntKind.i64 a1_1, Value.int IntKind.i64 a1_2, Value.int IntKind.i64 a1_3, Value.int IntKind.i64 a1_4, Value.int IntKind.i64 a1_5, Value.int IntKind.i64 a1_6, Value.slice A1_7 (List.length l1_7) c1_7], Value.pointer (some { block := gb301, off := 0 }), Value.pointer (some { block := gb302, off := 0 }), Value.bool false, Value.int IntKind.i64 t304, Value.pointer (some { block := gb328, off := 0 }), Value.bool t327, Value.pointer (some { block := gb335, off := 0 }), Value.pointer (some { block := gb346, off := 0 }), Value.pointer (some { block := gb354, off := 0 }), Value.bool t353, Value.int IntKind.i64 t377, undef, undef, undef, undef, u17, u18, u19, u20, u21, u22, u23, u24, u25, u26, u27, u28, u29, u30, u31, u32, u33, u34, u35, u36, u37, u38, u39, u40, u41, u42, u43, u44, u45, u46, u47, u48, u49, u50, u51, u52, u53, u54, u55, u56, u57, u58, u59, u60, u61, u62, u63, u64, u65, u66, u67, u68, u69, u70, u71, u72, u73, u74, u75, u76, u77, u78, u79, u80, u81, u82, u83, u84, u85, u86, u87, u88, u89, u90, u91, u92, u93, u94, u95, u96, u97, u98, u99, u100, u101, u102, u103, u104, u105, u106, u107, u108, u109, u110, u111, u112, u113, u114, u115, u116, u117, u118], defers := [] } wc := by
 dsimp only [laws_FnExactReturnCredits.sfx, laws_FnExactReturnCredits.hd, laws_FnExactReturnCredits.tl, Try.f12, Option.getD] at hK hK1
 change ∀ (a : Act) (w_ : World), Code.wp _ _ (bodyPost Try.prog Try.f12 fun e w' => e = Ending.returned (Value.bool r) ∧ Below (Array.size (World.heap w)) w w') a w_ → K1 a w_ at hK1
 change ∀ (a : Act) (w_ : World), Code.wp _ _ (Exit.then K1 (bodyPost Try.prog Try.f12 fun e w' => e = Ending.returned (Value.bool r) ∧ Below (Array.size (World.heap w)) w w')) a w_ → K a w_ at hK
 obtain ⟨kq, x82_111, rfl, HA, HJ111, HO_329000, HO_329001, HO_336000, HO_336001, HO_347007, HO_355000, HO_355001, BK301, BK302, BK328, BK335, BK346, BK354, HB⟩ := hcut
 have hl336000_111 := (Kd.R_reads' HO_336000.out).1
 rw [hl336000_111] at HO_336000
 (try simp only [hl336000_111])
 (try simp only [hl336000_111] at BK301)
 (try simp only [hl336000_111] at BK302)
 (try simp only [hl336000_111] at BK328)
 (try simp only [hl336000_111] at BK335)
 (try simp only [hl336000_111] at BK346)
 (try simp only [hl336000_111] at BK354)
 (try simp only [hl336000_111] at HO_329000)
 (try simp only [hl336000_111] at HO_329001)
 (try simp only [hl336000_111] at HO_336001)
 (try simp only [hl336000_111] at HO_347007)
 (try simp only [hl336000_111] at HO_355000)
 (try simp only [hl336000_111] at HO_355001)
 have hl336001_111 := (Kd.R_reads' HO_336001.out).1
 rw [hl336001_111] at HO_336001
 (try simp only [hl336001_111])
 (try simp only [hl336001_111] at BK301)
 (try simp only [hl336001_111] at BK302)
 (try simp only [hl336001_111] at BK328)
 (try simp only [hl336001_111] at BK335)
 (try simp only [hl336001_111] at BK346)
 (try simp only [hl336001_111] at BK354)
 (try simp only [hl336001_111] at HO_329000)
 (try simp only [hl336001_111] at HO_329001)
 (try simp only [hl336001_111] at HO_336000)
 (try simp only [hl336001_111] at HO_347007)
 (try simp only [hl336001_111] at HO_355000)
 (try simp only [hl336001_111] at HO_355001)
 have hl347007_111 := (Kd.R_reads' HO_347007.out).1
 rw [hl347007_111] at HO_347007
 (try simp only [hl347007_111])
 (try simp only [hl347007_111] at BK301)
 (try simp only [hl347007_111] at BK302)
 (try simp only [hl347007_111] at BK328)
 (try simp only [hl347007_111] at BK335)
 (try simp only [hl347007_111] at BK346)
 (try simp only [hl347007_111] at BK354)
 (try simp only [hl347007_111] at HO_329000)
 (try simp only [hl347007_111] at HO_329001)
 (try simp only [hl347007_111] at HO_336000)
 (try simp only [hl347007_111] at HO_336001)
 (try simp only [hl347007_111] at HO_355000)
 (try simp only [hl347007_111] at HO_355001)
 cases kq with
 | zero => exact absurd HA.out (by simp [laws_FnExactReturnCredits.j1])
 | succ kj111 =>
  have H := HA.out
  clear HA
  simp only [laws_FnExactReturnCredits.j1] at H
  by_cases c162 : x82_111 = true
  ·subst c162
   have H1 : (some false) = some r := by rw [if_pos rfl] at H; exact H
   clear H
   have H := H1
   clear H1
   exact absurd (H.trans (congrArg some hrt.out)) (by simp)
  replace c162 := Bool.eq_false_iff.mpr c162
  subst c162
  have H1 : ((laws_markCredits.f kj111 t347 t350 1).bind fun bt380 => ((laws_heldCredits.f kj111 bt380.2.1 bt380.2.2 1).bind fun t383 => (if t383 < 0 then (some false) else (if t383 = bt380.1 then ((laws_toCredits.f kj111 l0_0 l0_1).bind fun bt384 => ((laws_toPacket.f kj111 a1_0 a1_1 a1_2 a1_3 a1_4 a1_5 a1_6 l1_7).bind fun bt390 => ((impl_ReturnCredits.f kj111 bt384.1 bt384.2 bt390.1 bt390.2.1 bt390.2.2.1 bt390.2.2.2.1 bt390.2.2.2.2.1 bt390.2.2.2.2.2.1 bt390.2.2.2.2.2.2.1 bt390.2.2.2.2.2.2.2).bind fun bt400 => ((laws_eqCredits.f kj111 bt400.1 bt400.2.1 t321 t324).bind fun t408 => (if t408 = true then (laws_FnExactReturnCredits.j2 kj111 bt380.1 (bt400.2.2 != t327) bt380.2.1 bt380.2.2) else (laws_FnExactReturnCredits.j2 kj111 bt380.1 true bt380.2.1 bt380.2.2)))))) else (some false))))) = some r := by rw [if_neg (show ¬ (false = true) by decide)] at H; exact H
  clear H
  have H := H1
  clear H1
  replace H := Option.bind_eq_some_iff.mp H
  obtain ⟨⟨t380, t381, t382⟩, A1630, H⟩ := H
  replace H : ((laws_heldCredits.f kj111 t381 t382 1).bind fun t383 => (if t383 < 0 then (some false) else (if t383 = t380 then ((laws_toCredits.f kj111 l0_0 l0_1).bind fun bt384 => ((laws_toPacket.f kj111 a1_0 a1_1 a1_2 a1_3 a1_4 a1_5 a1_6 l1_7).bind fun bt390 => ((impl_ReturnCredits.f kj111 bt384.1 bt384.2 bt390.1 bt390.2.1 bt390.2.2.1 bt390.2.2.2.1 bt390.2.2.2.2.1 bt390.2.2.2.2.2.1 bt390.2.2.2.2.2.2.1 bt390.2.2.2.2.2.2.2).bind fun bt400 => ((laws_eqCredits.f kj111 bt400.1 bt400.2.1 t321 t324).bind fun t408 => (if t408 = true then (laws_FnExactReturnCredits.j2 kj111 t380 (bt400.2.2 != t327) t381 t382) else (laws_FnExactReturnCredits.j2 kj111 t380 true t381 t382)))))) else (some false)))) = some r := H
  have A163 := Aside0.mk A1630
  clear A1630
  replace H := Option.bind_eq_some_iff.mp H
  obtain ⟨t383, A1640, H⟩ := H
  have A164 := Aside0.mk A1640
  clear A1640
  by_cases c165 : t383 < 0
  ·rw [if_pos c165] at H
   have c165b0 : decide (t383 < 0) = true := decide_eq_true c165
   clear c165
   exact absurd (H.trans (congrArg some hrt.out)) (by simp)
  rw [if_neg c165] at H
  have c165b0 : decide (t383 < 0) = false := decide_eq_false c165
  clear c165
  by_cases c166 : t383 = t380
  rotate_left
  ·rw [if_neg c166] at H
   have c166b0 : (t383 == t380) = false := beq_eq_false_iff_ne.mpr c166
   have c166b1 : (t383 != t380) = true := bne_iff_ne.mpr c166
   exact absurd (H.trans (congrArg some hrt.out)) (by simp)
  rw [if_pos c166] at H
  have c166b0 : (t383 == t380) = true := beq_iff_eq.mpr c166
  have c166b1 : (t383 != t380) = false := bne_eq_false_iff_eq.mpr c166
  clear c166
  replace H := Option.bind_eq_some_iff.mp H
  obtain ⟨⟨t384, t387⟩, A1670, H⟩ := H
  replace H : ((laws_toPacket.f kj111 a1_0 a1_1 a1_2 a1_3 a1_4 a1_5 a1_6 l1_7).bind fun bt390 => ((impl_ReturnCredits.f kj111 t384 t387 bt390.1 bt390.2.1 bt390.2.2.1 bt390.2.2.2.1 bt390.2.2.2.2.1 bt390.2.2.2.2.2.1 bt390.2.2.2.2.2.2.1 bt390.2.2.2.2.2.2.2).bind fun bt400 => ((laws_eqCredits.f kj111 bt400.1 bt400.2.1 t321 t324).bind fun t408 => (if t408 = true then (laws_FnExactReturnCredits.j2 kj111 t380 (bt400.2.2 != t327) t381 t382) else (laws_FnExactReturnCredits.j2 kj111 t380 true t381 t382))))) = some r := H
  have A167 := Aside0.mk A1670
  clear A1670
  replace H := Option.bind_eq_some_iff.mp H
  obtain ⟨⟨t390, t391, t392, t393, t394, t395, t396, t397⟩, A1680, H⟩ := H
  replace H : ((impl_ReturnCredits.f kj111 t384 t387 t390 t391 t392 t393 t394 t395 t396 t397).bind fun bt400 => ((laws_eqCredits.f kj111 bt400.1 bt400.2.1 t321 t324).bind fun t408 => (if t408 = true then (laws_FnExactReturnCredits.j2 kj111 t380 (bt400.2.2 != t327) t381 t382) else (laws_FnExactReturnCredits.j2 kj111 t380 true t381 t382)))) = some r := H
  have A168 := Aside0.mk A1680
  clear A1680
  replace H := Option.bind_eq_some_iff.mp H
  obtain ⟨⟨t400, t403, t406⟩, A1690, H⟩ := H
  replace H : ((laws_eqCredits.f kj111 t400 t403 t321 t324).bind fun t408 => (if t408 = true then (laws_FnExactReturnCredits.j2 kj111 t380 (t406 != t327) t381 t382) else (laws_FnExactReturnCredits.j2 kj111 t380 true t381 t382))) = some r := H
  have A169 := Aside0.mk A1690
  clear A1690
  have HC170 := Aside0.mk H
  clear H
  have hnb171 := NB354_301.out
  have hnc171 := NB301_354.out
  have hnb172 := NB354_302.out
  have hnc172 := NB302_354.out
  have hnb173 := NB354_328.out
  have hnc173 := NB328_354.out
  have hnb174 := NB354_335.out
  have hnc174 := NB335_354.out
  have hnb175 := NB354_346.out
  have hnc175 := NB346_354.out
  obtain ⟨hcz176_0, hcz176_1, hfz176_0, hfz176_1⟩ := b2 BK354.out
  try go_wp2_with (first | ((with_reducible refine gate_callee (f := 32) rfl ?_); refine goesL_ (some 85) rfl rfl Try.func32 (by kernel_rfl) rfl #[.agg #[.slice Ao69 t347.length co69, .slice Ao76 t350.length co76], .int .i64 1] rfl (by (try simp only [List.map_toArray, List.map_cons, List.map_nil]); first | done | rfl) ?_; (with_reducible refine (laws_markCredits.calls kj111 (fun k_ => some k_ = (.slice Ao69 t347.length co69 : Value).ownBlock) (.slice Ao69 t347.length co69) t347 (fun k_ => some k_ = (.slice Ao76 t350.length co76 : Value).ownBlock) (.slice Ao76 t350.length co76) t350 1 t380 t381 t382 w _ ?side1 ?side2 ?side3 ?side4 ?side5 A163.out).mono ?_); (case side1 => repeat (first | (with_reducible first | exact HB.out | apply below_alloc | apply pw_below_drewN | apply below_drew1 | refine below_set ?_ GE301.out | refine below_set ?_ GE302.out | refine below_set ?_ GE328.out | refine below_set ?_ GE335.out | refine below_set ?_ GE346.out | refine below_set ?_ GE354.out) | exact HB.out)); (case side2 => exact Kd.R_tight rfl HO_355000.out); (case side3 => exact fun k_ e_ => (HO_355000.out.1 k_ e_.symm).2.2.2.2.2); (case side4 => exact Kd.R_tight rfl HO_355001.out); (case side5 => exact fun k_ e_ => (HO_355001.out.1 k_ e_.symm).2.2.2.2.2); rintro e w177 ⟨rfl, hy0, hy1, hb, hkp⟩; refine ⟨_, rfl, ?_⟩; have n0_ := Aside0.mk (Kd.R_mono (ok' := fun k_ => some k_ ≠ (.slice Ao44 t324.length co44 : Value).ownBlock ∧ some k_ ≠ (.slice Ao50 t375.length co50 : Value).ownBlock ∧ some k_ ≠ (.slice Ao55 t376.length co55 : Value).ownBlock ∧ some k_ ≠ (.slice Ao65 t378.length co65 : Value).ownBlock ∧ some k_ ≠ (.slice Ao69 t347.length co69 : Value).ownBlock ∧ some k_ ≠ (.slice Ao76 t350.length co76 : Value).ownBlock) (Kd.R_keptB (HO_329000.out) hkp (fun k_ hk_ hs_ => Or.elim hs_ (fun e_ => (hk_.2.2.2.2.1) e_) (fun e_ => (hk_.2.2.2.2.2) e_))) (fun k_ hk_ => ⟨hk_.1.1, hk_.1.2.1, hk_.1.2.2.1, hk_.1.2.2.2.1, hk_.1.2.2.2.2.1, hk_.1.2.2.2.2.2⟩)); have n1_ := Aside0.mk (Kd.R_mono (ok' := fun k_ => some k_ ≠ (.slice Ao42 t321.length co42 : Value).ownBlock ∧ some k_ ≠ (.slice Ao50 t375.length co50 : Value).ownBlock ∧ some k_ ≠ (.slice Ao55 t376.length co55 : Value).ownBlock ∧ some k_ ≠ (.slice Ao65 t378.length co65 : Value).ownBlock ∧ some k_ ≠ (.slice Ao69 t347.length co69 : Value).ownBlock ∧ some k_ ≠ (.slice Ao76 t350.length co76 : Value).ownBlock) (Kd.R_keptB (HO_329001.out) hkp (fun k_ hk_ hs_ => Or.elim hs_ (fun e_ => (hk_.2.2.2.2.1) e_) (fun e_ => (hk_.2.2.2.2.2) e_))) (fun k_ hk_ => ⟨hk_.1.1, hk_.1.2.1, hk_.1.2.2.1, hk_.1.2.2.2.1, hk_.1.2.2.2.2.1, hk_.1.2.2.2.2.2⟩)); have n2_ := Aside0.mk (Kd.R_mono (ok' := fun k_ => some k_ ≠ (.slice Ao42 t321.length co42 : Value).ownBlock ∧ some k_ ≠ (.slice Ao44 t324.length co44 : Value).ownBlock ∧ some k_ ≠ (.slice Ao55 t376.length co55 : Value).ownBlock ∧ some k_ ≠ (.slice Ao65 t378.length co65 : Value).ownBlock ∧ some k_ ≠ (.slice Ao69 t347.length co69 : Value).ownBlock ∧ some k_ ≠ (.slice Ao76 t350.length co76 : Value).ownBlock) (Kd.R_keptB (HO_336000.out) hkp (fun k_ hk_ hs_ => Or.elim hs_ (fun e_ => (hk_.2.2.2.2.1) e_) (fun e_ => (hk_.2.2.2.2.2) e_))) (fun k_ hk_ => ⟨hk_.1.1, hk_.1.2.1, hk_.1.2.2.1, hk_.1.2.2.2.1, hk_.1.2.2.2.2.1, hk_.1.2.2.2.2.2⟩)); have n3_ := Aside0.mk (Kd.R_mono (ok' := fun k_ => some k_ ≠ (.slice Ao42 t321.length co42 : Value).ownBlock ∧ some k_ ≠ (.slice Ao44 t324.length co44 : Value).ownBlock ∧ some k_ ≠ (.slice Ao50 t375.length co50 : Value).ownBlock ∧ some k_ ≠ (.slice Ao65 t378.length co65 : Value).ownBlock ∧ some k_ ≠ (.slice Ao69 t347.length co69 : Value).ownBlock ∧ some k_ ≠ (.slice Ao76 t350.length co76 : Value).ownBlock) (Kd.R_keptB (HO_336001.out) hkp (fun k_ hk_ hs_ => Or.elim hs_ (fun e_ => (hk_.2.2.2.2.1) e_) (fun e_ => (hk_.2.2.2.2.2) e_))) (fun k_ hk_ => ⟨hk_.1.1, hk_.1.2.1, hk_.1.2.2.1, hk_.1.2.2.2.1, hk_.1.2.2.2.2.1, hk_.1.2.2.2.2.2⟩)); have n4_ := Aside0.mk (Kd.R_mono (ok' := fun k_ => some k_ ≠ (.slice Ao42 t321.length co42 : Value).ownBlock ∧ some k_ ≠ (.slice Ao44 t324.length co44 : Value).ownBlock ∧ some k_ ≠ (.slice Ao50 t375.length co50 : Value).ownBlock ∧ some k_ ≠ (.slice Ao55 t376.length co55 : Value).ownBlock ∧ some k_ ≠ (.slice Ao69 t347.length co69 : Value).ownBlock ∧ some k_ ≠ (.slice Ao76 t350.length co76 : Value).ownBlock) (Kd.R_keptB (HO_347007.out) hkp (fun k_ hk_ hs_ => Or.elim hs_ (fun e_ => (hk_.2.2.2.2.1) e_) (fun e_ => (hk_.2.2.2.2.2) e_))) (fun k_ hk_ => ⟨hk_.1.1, hk_.1.2.1, hk_.1.2.2.1, hk_.1.2.2.2.1, hk_.1.2.2.2.2.1, hk_.1.2.2.2.2.2⟩)); have n5_ := Aside0.mk (Kd.R_reok rfl hy0 (fun k_ e_ => HO_355000.out.1 k_ e_)); have n6_ := Aside0.mk (Kd.R_reok rfl hy1 (fun k_ e_ => HO_355001.out.1 k_ e_)); have n7_ := Aside0.mk (blk_kept (bY BK301.out) hkp (fun hs_ => Or.elim hs_ (fun e_ => (fun e_ => (Kd.R_ne HO_355000.out BK301.out (by decide)) e_) e_) (fun e_ => (fun e_ => (Kd.R_ne HO_355001.out BK301.out (by decide)) e_) e_))); have n8_ := Aside0.mk (blk_kept (bY BK302.out) hkp (fun hs_ => Or.elim hs_ (fun e_ => (fun e_ => (Kd.R_ne HO_355000.out BK302.out (by decide)) e_) e_) (fun e_ => (fun e_ => (Kd.R_ne HO_355001.out BK302.out (by decide)) e_) e_))); have n9_ := Aside0.mk (blk_kept (bY BK328.out) hkp (fun hs_ => Or.elim hs_ (fun e_ => (fun e_ => (Kd.R_ne HO_355000.out BK328.out (by decide)) e_) e_) (fun e_ => (fun e_ => (Kd.R_ne HO_355001.out BK328.out (by decide)) e_) e_))); have n10_ := Aside0.mk (blk_kept (bY BK335.out) hkp (fun hs_ => Or.elim hs_ (fun e_ => (fun e_ => (Kd.R_ne HO_355000.out BK335.out (by decide)) e_) e_) (fun e_ => (fun e_ => (Kd.R_ne HO_355001.out BK335.out (by decide)) e_) e_))); have n11_ := Aside0.mk (blk_kept (bY BK346.out) hkp (fun hs_ => Or.elim hs_ (fun e_ => (fun e_ => (Kd.R_ne HO_355000.out BK346.out (by decide)) e_) e_) (fun e_ => (fun e_ => (Kd.R_ne HO_355001.out BK346.out (by decide)) e_) e_))); have n12_ := Aside0.mk (blk_kept (bY BK354.out) hkp (fun hs_ => Or.elim hs_ (fun e_ => (fun e_ => (Kd.R_ne HO_355000.out BK354.out (by decide)) e_) e_) (fun e_ => (fun e_ => (Kd.R_ne HO_355001.out BK354.out (by decide)) e_) e_))); have n13_ := Aside0.mk (hb); clear HO_329000; clear HO_329001; clear HO_336000; clear HO_336001; clear HO_347007; clear HO_355000; clear HO_355001; clear BK301; clear BK302; clear BK328; clear BK335; clear BK346; clear BK354; clear HB; have HO_329000 := n0_; have HO_329001 := n1_; have HO_336000 := n2_; have HO_336001 := n3_; have HO_347007 := n4_; have HO_355000 := n5_; have HO_355001 := n6_; have BK301 := n7_; have BK302 := n8_; have BK328 := n9_; have BK335 := n10_; have BK346 := n11_; have BK354 := n12_; have HB := n13_; clear n0_ n1_ n2_ n3_ n4_ n5_ n6_ n7_ n8_ n9_ n10_ n11_ n12_ n13_; (try clear hb); (try clear hkp); (try clear hy0); (try clear hy1); have hcz178_0 : w177.cell? ⟨gb354, 0, none⟩ = some (.slice Ao69 t347.length co69) := (blk_cell BK354.out 0).trans rfl; have hcz178_1 : w177.cell? ⟨gb354, 1, none⟩ = some (.slice Ao76 t350.length co76) := (blk_cell BK354.out 1).trans rfl; have hfz178_0 := blk_frozen BK354.out 0; have hfz178_1 := blk_frozen BK354.out 1) | ((with_reducible refine gate_callee (f := 59) rfl ?_); refine goesL_ (some 88) rfl rfl Try.func59 (by kernel_rfl) rfl #[.agg #[.slice Ao69 t381.length co69, .slice Ao76 t382.length co76], .int .i64 1] rfl (by (try simp only [List.map_toArray, List.map_cons, List.map_nil]); first | done | (rw [show t381.length = t347.length from (Kd.R_reads' HO_355000.out).1.symm, show t382.length = t350.length from (Kd.R_reads' HO_355001.out).1.symm] <;> rfl) | rfl | (simp only [List.length_drop, List.length_take]; rfl)) ?_; (with_reducible refine (laws_heldCredits.calls kj111 _ _ t381 _ _ t382 1 t383 _ ?side1 ?side2 ?side3 ?side4 A164.out).mono ?_); (case side1 => exact cY ((Kd.R_reads' HO_355000.out).2.2)); (case side2 => rw [show t381.length = t347.length from (Kd.R_reads' HO_355000.out).1.symm]; exact (Kd.R_reads' HO_355000.out).2.1); (case side3 => exact cY ((Kd.R_reads' HO_355001.out).2.2)); (case side4 => rw [show t382.length = t350.length from (Kd.R_reads' HO_355001.out).1.symm]; exact (Kd.R_reads' HO_355001.out).2.1); rintro e w179 ⟨rfl, hb⟩; refine ⟨_, rfl, ?_⟩; have n0_ := Aside0.mk (Kd.R_below (rY HO_329000.out) hb); have n1_ := Aside0.mk (Kd.R_below (rY HO_329001.out) hb); have n2_ := Aside0.mk (Kd.R_below (rY HO_336000.out) hb); have n3_ := Aside0.mk (Kd.R_below (rY HO_336001.out) hb); have n4_ := Aside0.mk (Kd.R_below (rY HO_347007.out) hb); have n5_ := Aside0.mk (Kd.R_below (rY HO_355000.out) hb); have n6_ := Aside0.mk (Kd.R_below (rY HO_355001.out) hb); have n7_ := Aside0.mk (blk_below (bY BK301.out) hb); have n8_ := Aside0.mk (blk_below (bY BK302.out) hb); have n9_ := Aside0.mk (blk_below (bY BK328.out) hb); have n10_ := Aside0.mk (blk_below (bY BK335.out) hb); have n11_ := Aside0.mk (blk_below (bY BK346.out) hb); have n12_ := Aside0.mk (blk_below (bY BK354.out) hb); have n13_ := Aside0.mk (below_step (by repeat (first | (with_reducible first | exact HB.out | apply below_alloc | apply pw_below_drewN | apply below_drew1 | refine below_set ?_ GE301.out | refine below_set ?_ GE302.out | refine below_set ?_ GE328.out | refine below_set ?_ GE335.out | refine below_set ?_ GE346.out | refine below_set ?_ GE354.out) | exact HB.out)) hb); clear HO_329000; clear HO_329001; clear HO_336000; clear HO_336001; clear HO_347007; clear HO_355000; clear HO_355001; clear BK301; clear BK302; clear BK328; clear BK335; clear BK346; clear BK354; clear HB; have HO_329000 := n0_; have HO_329001 := n1_; have HO_336000 := n2_; have HO_336001 := n3_; have HO_347007 := n4_; have HO_355000 := n5_; have HO_355001 := n6_; have BK301 := n7_; have BK302 := n8_; have BK328 := n9_; have BK335 := n10_; have BK346 := n11_; have BK354 := n12_; have HB := n13_; clear n0_ n1_ n2_ n3_ n4_ n5_ n6_ n7_ n8_ n9_ n10_ n11_ n12_ n13_; (try clear hb); (try clear hb2); (try clear hk); (try clear hi)))
  have n0_ := Aside0.mk (Kd.R_drew HO_329000.out)
  have n1_ := Aside0.mk (Kd.R_drew HO_329001.out)
  have n2_ := Aside0.mk (Kd.R_drew HO_336000.out)
  have n3_ := Aside0.mk (Kd.R_drew HO_336001.out)
  have n4_ := Aside0.mk (Kd.R_drew HO_347007.out)
  have n5_ := Aside0.mk (Kd.R_drew HO_355000.out)
  have n6_ := Aside0.mk (Kd.R_drew HO_355001.out)
  have n7_ := Aside0.mk (blk_drew BK301.out)
  have n8_ := Aside0.mk (blk_drew BK302.out)
  have n9_ := Aside0.mk (blk_drew BK328.out)
  have n10_ := Aside0.mk (blk_drew BK335.out)
  have n11_ := Aside0.mk (blk_drew BK346.out)
  have n12_ := Aside0.mk (blk_drew BK354.out)
  have n13_ := Aside0.mk (below_drew1 HB.out)
  clear HO_329000
  clear HO_329001
  clear HO_336000
  clear HO_336001
  clear HO_347007
  clear HO_355000
  clear HO_355001
  clear BK301
  clear BK302
  clear BK328
  clear BK335
  clear BK346
  clear BK354
  clear HB
  have HO_329000 := n0_
  have HO_329001 := n1_
  have HO_336000 := n2_
  have HO_336001 := n3_
  have HO_347007 := n4_
  have HO_355000 := n5_
  have HO_355001 := n6_
  have BK301 := n7_
  have BK302 := n8_
  have BK328 := n9_
  have BK335 := n10_
  have BK346 := n11_
  have BK354 := n12_
  have HB := n13_
  clear n0_ n1_ n2_ n3_ n4_ n5_ n6_ n7_ n8_ n9_ n10_ n11_ n12_ n13_
  refine start_ (n := 11) (S := fun w' => w'.cell? ⟨gb301, 0, none⟩ = some (.slice A0_0 l0_0.length c0_0) ∧ w'.cell? ⟨gb301, 1, none⟩ = some (.slice A0_1 l0_1.length c0_1) ∧ w'.cell? ⟨gb302, 0, none⟩ = some (.int .i64 a1_0) ∧ w'.cell? ⟨gb302, 1, none⟩ = some (.int .i64 a1_1) ∧ w'.cell? ⟨gb302, 2, none⟩ = some (.int .i64 a1_2) ∧ w'.cell? ⟨gb302, 3, none⟩ = some (.int .i64 a1_3) ∧ w'.cell? ⟨gb302, 4, none⟩ = some (.int .i64 a1_4) ∧ w'.cell? ⟨gb302, 5, none⟩ = some (.int .i64 a1_5) ∧ w'.cell? ⟨gb302, 6, none⟩ = some (.int .i64 a1_6) ∧ w'.cell? ⟨gb302, 7, none⟩ = some (.slice A1_7 l1_7.length c1_7)) (ds := []) #[F, F, F, F, F, F, F, F, F, F, F] (by kernel_rfl) rfl rfl ⟨(blk_cell BK301.out 0).trans rfl, (blk_cell BK301.out 1).trans rfl, (blk_cell BK302.out 0).trans rfl, (blk_cell BK302.out 1).trans rfl, (blk_cell BK302.out 2).trans rfl, (blk_cell BK302.out 3).trans rfl, (blk_cell BK302.out 4).trans rfl, (blk_cell BK302.out 5).trans rfl, (blk_cell BK302.out 6).trans rfl, (blk_cell BK302.out 7).trans rfl⟩ (fun hHeld => ?_); refine with_tabW laws_FnExactReturnCredits.tab31 laws_FnExactReturnCredits.bits31 (fun HT_ HW_ => ?_)
  generalize w179.drew = w180 at HO_329000 HO_329001 HO_336000 HO_336001 HO_347007 HO_355000 HO_355001 BK301 BK302 BK328 BK335 BK346 BK354 HB hHeld ⊢
  refine take_ (i := 0) (N := some 95) (v := ?_) (a' := ?_) #[T, F, F, F, F, F, F, F, F, F, F] rfl rfl (take_ofW HT_.out HW_.out (by kernel_rfl)) (fun _ _ _ h => h) (Or.inl ⟨by rfl, ?_⟩) hHeld ?_ ?_
  rotate_left
  ·rintro w' ⟨s0, s1, s2, s3, s4, s5, s6, s7, s8, s9⟩
   go_simp
   with_reducible rfl
  rotate_left
  ·simp only [pS]
   rfl
  refine take_ (i := 2) (N := some 97) (v := ?_) (a' := ?_) #[T, F, T, F, F, F, F, F, F, F, F] rfl rfl (take_ofW HT_.out HW_.out (by kernel_rfl)) (fun _ _ _ h => h) (Or.inl ⟨by rfl, ?_⟩) hHeld ?_ ?_
  rotate_left
  ·rintro w' ⟨s0, s1, s2, s3, s4, s5, s6, s7, s8, s9⟩
   go_simp
   with_reducible rfl
  rotate_left
  ·simp only [pS]
   rfl
  refine join_ (σ := Value × Value × Value × Value × Value × Nat) 2 #[T, T, T, T, T, T, T, T, T, F, F] (fun s_ => [(96, .agg #[s_.1, s_.2.1]), (98, .agg #[.int .i64 t390, .int .i64 t391, .int .i64 t392, .int .i64 t393, .int .i64 t394, .int .i64 t395, .int .i64 t396, s_.2.2.1]), (99, .tuple #[.agg #[s_.2.2.2.1, s_.2.2.2.2.1], .bool t406]), (15, .pointer (some ⟨s_.2.2.2.2.2, 0, none⟩)), (94, .tuple #[.agg #[s_.2.2.2.1, s_.2.2.2.2.1], .bool t406]), (100, .agg #[s_.2.2.2.1, s_.2.2.2.2.1]), (101, .bool t406)]) (fun s_ w' => (w'.cell? ⟨gb301, 0, none⟩ = some (.slice A0_0 l0_0.length c0_0) ∧ w'.cell? ⟨gb301, 1, none⟩ = some (.slice A0_1 l0_1.length c0_1) ∧ w'.cell? ⟨gb302, 0, none⟩ = some (.int .i64 a1_0) ∧ w'.cell? ⟨gb302, 1, none⟩ = some (.int .i64 a1_1) ∧ w'.cell? ⟨gb302, 2, none⟩ = some (.int .i64 a1_2) ∧ w'.cell? ⟨gb302, 3, none⟩ = some (.int .i64 a1_3) ∧ w'.cell? ⟨gb302, 4, none⟩ = some (.int .i64 a1_4) ∧ w'.cell? ⟨gb302, 5, none⟩ = some (.int .i64 a1_5) ∧ w'.cell? ⟨gb302, 6, none⟩ = some (.int .i64 a1_6) ∧ w'.cell? ⟨gb302, 7, none⟩ = some (.slice A1_7 l1_7.length c1_7)) ∧ (Kd.R (Kd.int .i64) 3 w' w.heap.size (fun k_ => some k_ ≠ (s_.2.1 : Value).ownBlock ∧ some k_ ≠ (s_.2.2.1 : Value).ownBlock ∧ some k_ ≠ (s_.2.2.2.1 : Value).ownBlock ∧ some k_ ≠ (s_.2.2.2.2.1 : Value).ownBlock ∧ some k_ ≠ (.slice Ao42 t321.length co42 : Value).ownBlock ∧ some k_ ≠ (.slice Ao44 t324.length co44 : Value).ownBlock ∧ some k_ ≠ (.slice Ao50 t375.length co50 : Value).ownBlock ∧ some k_ ≠ (.slice Ao55 t376.length co55 : Value).ownBlock ∧ some k_ ≠ (.slice Ao65 t378.length co65 : Value).ownBlock ∧ some k_ ≠ (.slice Ao69 t347.length co69 : Value).ownBlock ∧ some k_ ≠ (.slice Ao76 t350.length co76 : Value).ownBlock) s_.1 t384) ∧ (Kd.R (Kd.int .i64) 3 w' w.heap.size (fun k_ => some k_ ≠ (s_.1 : Value).ownBlock ∧ some k_ ≠ (s_.2.2.1 : Value).ownBlock ∧ some k_ ≠ (s_.2.2.2.1 : Value).ownBlock ∧ some k_ ≠ (s_.2.2.2.2.1 : Value).ownBlock ∧ some k_ ≠ (.slice Ao42 t321.length co42 : Value).ownBlock ∧ some k_ ≠ (.slice Ao44 t324.length co44 : Value).ownBlock ∧ some k_ ≠ (.slice Ao50 t375.length co50 : Value).ownBlock ∧ some k_ ≠ (.slice Ao55 t376.length co55 : Value).ownBlock ∧ some k_ ≠ (.slice Ao65 t378.length co65 : Value).ownBlock ∧ some k_ ≠ (.slice Ao69 t347.length co69 : Value).ownBlock ∧ some k_ ≠ (.slice Ao76 t350.length co76 : Value).ownBlock) s_.2.1 t387) ∧ (Kd.R (Kd.int .i64) 3 w' w.heap.size (fun k_ => some k_ ≠ (s_.1 : Value).ownBlock ∧ some k_ ≠ (s_.2.1 : Value).ownBlock ∧ some k_ ≠ (s_.2.2.2.1 : Value).ownBlock ∧ some k_ ≠ (s_.2.2.2.2.1 : Value).ownBlock ∧ some k_ ≠ (.slice Ao42 t321.length co42 : Value).ownBlock ∧ some k_ ≠ (.slice Ao44 t324.length co44 : Value).ownBlock ∧ some k_ ≠ (.slice Ao50 t375.length co50 : Value).ownBlock ∧ some k_ ≠ (.slice Ao55 t376.length co55 : Value).ownBlock ∧ some k_ ≠ (.slice Ao65 t378.length co65 : Value).ownBlock ∧ some k_ ≠ (.slice Ao69 t347.length co69 : Value).ownBlock ∧ some k_ ≠ (.slice Ao76 t350.length co76 : Value).ownBlock) s_.2.2.1 t397) ∧ (Kd.R (Kd.int .i64) 3 w' w.heap.size (fun k_ => some k_ ≠ (s_.1 : Value).ownBlock ∧ some k_ ≠ (s_.2.1 : Value).ownBlock ∧ some k_ ≠ (s_.2.2.1 : Value).ownBlock ∧ some k_ ≠ (s_.2.2.2.2.1 : Value).ownBlock ∧ some k_ ≠ (.slice Ao42 t321.length co42 : Value).ownBlock ∧ some k_ ≠ (.slice Ao44 t324.length co44 : Value).ownBlock ∧ some k_ ≠ (.slice Ao50 t375.length co50 : Value).ownBlock ∧ some k_ ≠ (.slice Ao55 t376.length co55 : Value).ownBlock ∧ some k_ ≠ (.slice Ao65 t378.length co65 : Value).ownBlock ∧ some k_ ≠ (.slice Ao69 t347.length co69 : Value).ownBlock ∧ some k_ ≠ (.slice Ao76 t350.length co76 : Value).ownBlock) s_.2.2.2.1 t400) ∧ (Kd.R (Kd.int .i64) 3 w' w.heap.size (fun k_ => some k_ ≠ (s_.1 : Value).ownBlock ∧ some k_ ≠ (s_.2.1 : Value).ownBlock ∧ some k_ ≠ (s_.2.2.1 : Value).ownBlock ∧ some k_ ≠ (s_.2.2.2.1 : Value).ownBlock ∧ some k_ ≠ (.slice Ao42 t321.length co42 : Value).ownBlock ∧ some k_ ≠ (.slice Ao44 t324.length co44 : Value).ownBlock ∧ some k_ ≠ (.slice Ao50 t375.length co50 : Value).ownBlock ∧ some k_ ≠ (.slice Ao55 t376.length co55 : Value).ownBlock ∧ some k_ ≠ (.slice Ao65 t378.length co65 : Value).ownBlock ∧ some k_ ≠ (.slice Ao69 t347.length co69 : Value).ownBlock ∧ some k_ ≠ (.slice Ao76 t350.length co76 : Value).ownBlock) s_.2.2.2.2.1 t403) ∧ (Kd.R (Kd.int .i64) 3 w' w.heap.size (fun k_ => some k_ ≠ (s_.1 : Value).ownBlock ∧ some k_ ≠ (s_.2.1 : Value).ownBlock ∧ some k_ ≠ (s_.2.2.1 : Value).ownBlock ∧ some k_ ≠ (s_.2.2.2.1 : Value).ownBlock ∧ some k_ ≠ (s_.2.2.2.2.1 : Value).ownBlock ∧ some k_ ≠ (.slice Ao44 t324.length co44 : Value).ownBlock ∧ some k_ ≠ (.slice Ao50 t375.length co50 : Value).ownBlock ∧ some k_ ≠ (.slice Ao55 t376.length co55 : Value).ownBlock ∧ some k_ ≠ (.slice Ao65 t378.length co65 : Value).ownBlock ∧ some k_ ≠ (.slice Ao69 t347.length co69 : Value).ownBlock ∧ some k_ ≠ (.slice Ao76 t350.length co76 : Value).ownBlock) (.slice Ao42 t321.length co42) t321) ∧ (Kd.R (Kd.int .i64) 3 w' w.heap.size (fun k_ => some k_ ≠ (s_.1 : Value).ownBlock ∧ some k_ ≠ (s_.2.1 : Value).ownBlock ∧ some k_ ≠ (s_.2.2.1 : Value).ownBlock ∧ some k_ ≠ (s_.2.2.2.1 : Value).ownBlock ∧ some k_ ≠ (s_.2.2.2.2.1 : Value).ownBlock ∧ some k_ ≠ (.slice Ao42 t321.length co42 : Value).ownBlock ∧ some k_ ≠ (.slice Ao50 t375.length co50 : Value).ownBlock ∧ some k_ ≠ (.slice Ao55 t376.length co55 : Value).ownBlock ∧ some k_ ≠ (.slice Ao65 t378.length co65 : Value).ownBlock ∧ some k_ ≠ (.slice Ao69 t347.length co69 : Value).ownBlock ∧ some k_ ≠ (.slice Ao76 t350.length co76 : Value).ownBlock) (.slice Ao44 t324.length co44) t324) ∧ (Kd.R (Kd.int .i64) 3 w' w.heap.size (fun k_ => some k_ ≠ (s_.1 : Value).ownBlock ∧ some k_ ≠ (s_.2.1 : Value).ownBlock ∧ some k_ ≠ (s_.2.2.1 : Value).ownBlock ∧ some k_ ≠ (s_.2.2.2.1 : Value).ownBlock ∧ some k_ ≠ (s_.2.2.2.2.1 : Value).ownBlock ∧ some k_ ≠ (.slice Ao42 t321.length co42 : Value).ownBlock ∧ some k_ ≠ (.slice Ao44 t324.length co44 : Value).ownBlock ∧ some k_ ≠ (.slice Ao55 t376.length co55 : Value).ownBlock ∧ some k_ ≠ (.slice Ao65 t378.length co65 : Value).ownBlock ∧ some k_ ≠ (.slice Ao69 t347.length co69 : Value).ownBlock ∧ some k_ ≠ (.slice Ao76 t350.length co76 : Value).ownBlock) (.slice Ao50 t375.length co50) t375) ∧ (Kd.R (Kd.int .i64) 3 w' w.heap.size (fun k_ => some k_ ≠ (s_.1 : Value).ownBlock ∧ some k_ ≠ (s_.2.1 : Value).ownBlock ∧ some k_ ≠ (s_.2.2.1 : Value).ownBlock ∧ some k_ ≠ (s_.2.2.2.1 : Value).ownBlock ∧ some k_ ≠ (s_.2.2.2.2.1 : Value).ownBlock ∧ some k_ ≠ (.slice Ao42 t321.length co42 : Value).ownBlock ∧ some k_ ≠ (.slice Ao44 t324.length co44 : Value).ownBlock ∧ some k_ ≠ (.slice Ao50 t375.length co50 : Value).ownBlock ∧ some k_ ≠ (.slice Ao65 t378.length co65 : Value).ownBlock ∧ some k_ ≠ (.slice Ao69 t347.length co69 : Value).ownBlock ∧ some k_ ≠ (.slice Ao76 t350.length co76 : Value).ownBlock) (.slice Ao55 t376.length co55) t376) ∧ (Kd.R (Kd.int .i64) 3 w' w.heap.size (fun k_ => some k_ ≠ (s_.1 : Value).ownBlock ∧ some k_ ≠ (s_.2.1 : Value).ownBlock ∧ some k_ ≠ (s_.2.2.1 : Value).ownBlock ∧ some k_ ≠ (s_.2.2.2.1 : Value).ownBlock ∧ some k_ ≠ (s_.2.2.2.2.1 : Value).ownBlock ∧ some k_ ≠ (.slice Ao42 t321.length co42 : Value).ownBlock ∧ some k_ ≠ (.slice Ao44 t324.length co44 : Value).ownBlock ∧ some k_ ≠ (.slice Ao50 t375.length co50 : Value).ownBlock ∧ some k_ ≠ (.slice Ao55 t376.length co55 : Value).ownBlock ∧ some k_ ≠ (.slice Ao69 t347.length co69 : Value).ownBlock ∧ some k_ ≠ (.slice Ao76 t350.length co76 : Value).ownBlock) (.slice Ao65 t378.length co65) t378) ∧ (Kd.R (Kd.int .i64) 3 w' w.heap.size (fun k_ => some k_ ≠ (s_.1 : Value).ownBlock ∧ some k_ ≠ (s_.2.1 : Value).ownBlock ∧ some k_ ≠ (s_.2.2.1 : Value).ownBlock ∧ some k_ ≠ (s_.2.2.2.1 : Value).ownBlock ∧ some k_ ≠ (s_.2.2.2.2.1 : Value).ownBlock ∧ some k_ ≠ (.slice Ao42 t321.length co42 : Value).ownBlock ∧ some k_ ≠ (.slice Ao44 t324.length co44 : Value).ownBlock ∧ some k_ ≠ (.slice Ao50 t375.length co50 : Value).ownBlock ∧ some k_ ≠ (.slice Ao55 t376.length co55 : Value).ownBlock ∧ some k_ ≠ (.slice Ao65 t378.length co65 : Value).ownBlock ∧ some k_ ≠ (.slice Ao76 t350.length co76 : Value).ownBlock) (.slice Ao69 t347.length co69) t381) ∧ (Kd.R (Kd.int .i64) 3 w' w.heap.size (fun k_ => some k_ ≠ (s_.1 : Value).ownBlock ∧ some k_ ≠ (s_.2.1 : Value).ownBlock ∧ some k_ ≠ (s_.2.2.1 : Value).ownBlock ∧ some k_ ≠ (s_.2.2.2.1 : Value).ownBlock ∧ some k_ ≠ (s_.2.2.2.2.1 : Value).ownBlock ∧ some k_ ≠ (.slice Ao42 t321.length co42 : Value).ownBlock ∧ some k_ ≠ (.slice Ao44 t324.length co44 : Value).ownBlock ∧ some k_ ≠ (.slice Ao50 t375.length co50 : Value).ownBlock ∧ some k_ ≠ (.slice Ao55 t376.length co55 : Value).ownBlock ∧ some k_ ≠ (.slice Ao65 t378.length co65 : Value).ownBlock ∧ some k_ ≠ (.slice Ao69 t347.length co69 : Value).ownBlock) (.slice Ao76 t350.length co76) t382) ∧ (w'.heap[gb301]? = some (.cells #[.slice A0_0 l0_0.length c0_0, .slice A0_1 l0_1.length c0_1] 24 (0, 0))) ∧ (w'.heap[gb302]? = some (.cells #[.int .i64 a1_0, .int .i64 a1_1, .int .i64 a1_2, .int .i64 a1_3, .int .i64 a1_4, .int .i64 a1_5, .int .i64 a1_6, .slice A1_7 l1_7.length c1_7] 32 (0, 0))) ∧ (w'.heap[gb328]? = some (.cells #[.slice Ao42 t321.length co42, .slice Ao44 t324.length co44] 27 (0, 0))) ∧ (w'.heap[gb335]? = some (.cells #[.slice Ao50 t375.length co50, .slice Ao55 t376.length co55] 27 (0, 0))) ∧ (w'.heap[gb346]? = some (.cells #[.int .i64 t336, .int .i64 t337, .int .i64 t338, .int .i64 t339, .int .i64 t340, .int .i64 t341, .int .i64 t342, .slice Ao65 t378.length co65] 35 (0, 0))) ∧ (w'.heap[gb354]? = some (.cells #[.slice Ao69 t347.length co69, .slice Ao76 t350.length co76] 27 (0, 0))) ∧ (w'.heap[s_.2.2.2.2.2]? = some (.cells #[.slice none 0 0, .slice none 0 0] 27 (0, 0))) ∧ (w.heap.size ≤ s_.2.2.2.2.2) ∧ (w.heap.size ≤ s_.2.2.2.2.2) ∧ (gb301 ≠ s_.2.2.2.2.2) ∧ (s_.2.2.2.2.2 ≠ gb301) ∧ (gb302 ≠ s_.2.2.2.2.2) ∧ (s_.2.2.2.2.2 ≠ gb302) ∧ (gb328 ≠ s_.2.2.2.2.2) ∧ (s_.2.2.2.2.2 ≠ gb328) ∧ (gb335 ≠ s_.2.2.2.2.2) ∧ (s_.2.2.2.2.2 ≠ gb335) ∧ (gb346 ≠ s_.2.2.2.2.2) ∧ (s_.2.2.2.2.2 ≠ gb346) ∧ (gb354 ≠ s_.2.2.2.2.2) ∧ (s_.2.2.2.2.2 ≠ gb354) ∧ (Below w.heap.size w w')) ?_ ?_
  rotate_left
  ·intro hCont
   refine two_ (i := 1) (j := 8) (Ni := some 96) (Nj := some 15) #[T, T, T, F, F, F, F, F, F, F, F] #[T, F, T, F, F, F, F, F, T, F, F] rfl rfl rfl rfl (two_of HT_.out (by kernel_rfl)) (by decide) (by decide) (fun K hK => ?_) (fun K hK => ?_)
   ·skip
    refine goes_ Try.func17 (by kernel_rfl) rfl #[.agg #[.slice A0_0 l0_0.length c0_0, .slice A0_1 l0_1.length c0_1]] (by rfl) rfl rfl (by (try simp only [List.map_toArray, List.map_cons, List.map_nil]); first | done | rfl) ?_
    with_reducible refine (laws_toCredits.calls kj111 _ _ l0_0 _ _ l0_1 t384 t387 _ ?side1 ?side2 ?side3 ?side4 A167.out).mono ?_
    (case side1 => exact cY ((Kd.C_below HR0_0.out HB.out)))
    (case side2 => exact HC0_0.out)
    (case side3 => exact cY ((Kd.C_below HR0_1.out HB.out)))
    (case side4 => exact HC0_1.out)
    rintro e w181 ⟨v385, v388, rfl, ho0, ho1, hb⟩
    refine ⟨_, rfl, ?_⟩
    have n0_ := Aside0.mk (Kd.R_mono (Kd.R_told (Kd.R_told (Kd.R_old (rY HO_329000.out) hb) (Kd.R_base ho0)) (Kd.R_base ho1)) (fun _ h_ => h_.1))
    have n1_ := Aside0.mk (Kd.R_mono (Kd.R_told (Kd.R_told (Kd.R_old (rY HO_329001.out) hb) (Kd.R_base ho0)) (Kd.R_base ho1)) (fun _ h_ => h_.1))
    have n2_ := Aside0.mk (Kd.R_mono (Kd.R_told (Kd.R_told (Kd.R_old (rY HO_336000.out) hb) (Kd.R_base ho0)) (Kd.R_base ho1)) (fun _ h_ => h_.1))
    have n3_ := Aside0.mk (Kd.R_mono (Kd.R_told (Kd.R_told (Kd.R_old (rY HO_336001.out) hb) (Kd.R_base ho0)) (Kd.R_base ho1)) (fun _ h_ => h_.1))
    have n4_ := Aside0.mk (Kd.R_mono (Kd.R_told (Kd.R_told (Kd.R_old (rY HO_347007.out) hb) (Kd.R_base ho0)) (Kd.R_base ho1)) (fun _ h_ => h_.1))
    have n5_ := Aside0.mk (Kd.R_mono (Kd.R_told (Kd.R_told (Kd.R_old (rY HO_355000.out) hb) (Kd.R_base ho0)) (Kd.R_base ho1)) (fun _ h_ => h_.1))
    have n6_ := Aside0.mk (Kd.R_mono (Kd.R_told (Kd.R_told (Kd.R_old (rY HO_355001.out) hb) (Kd.R_base ho0)) (Kd.R_base ho1)) (fun _ h_ => h_.1))
    have n7_ := Aside0.mk (Kd.R_lower (Kd.R_new' (Kd.R_new' (Kd.R_new' (Kd.R_new' (Kd.R_new' (Kd.R_new' (Kd.R_new' ho0 (Kd.R_lt (rY HO_329000.out))) (Kd.R_lt (rY HO_329001.out))) (Kd.R_lt (rY HO_336000.out))) (Kd.R_lt (rY HO_336001.out))) (Kd.R_lt (rY HO_347007.out))) (Kd.R_lt (rY HO_355000.out))) (Kd.R_lt (rY HO_355001.out))) (below_size (by repeat (first | (with_reducible first | exact HB.out | apply below_alloc | apply pw_below_drewN | apply below_drew1 | refine below_set ?_ GE301.out | refine below_set ?_ GE302.out | refine below_set ?_ GE328.out | refine below_set ?_ GE335.out | refine below_set ?_ GE346.out | refine below_set ?_ GE354.out) | exact HB.out))))
    have n8_ := Aside0.mk (Kd.R_lower (Kd.R_new' (Kd.R_new' (Kd.R_new' (Kd.R_new' (Kd.R_new' (Kd.R_new' (Kd.R_new' ho1 (Kd.R_lt (rY HO_329000.out))) (Kd.R_lt (rY HO_329001.out))) (Kd.R_lt (rY HO_336000.out))) (Kd.R_lt (rY HO_336001.out))) (Kd.R_lt (rY HO_347007.out))) (Kd.R_lt (rY HO_355000.out))) (Kd.R_lt (rY HO_355001.out))) (below_size (by repeat (first | (with_reducible first | exact HB.out | apply below_alloc | apply pw_below_drewN | apply below_drew1 | refine below_set ?_ GE301.out | refine below_set ?_ GE302.out | refine below_set ?_ GE328.out | refine below_set ?_ GE335.out | refine below_set ?_ GE346.out | refine below_set ?_ GE354.out) | exact HB.out))))
    have n9_ := Aside0.mk (blk_below (bY BK301.out) hb)
    have n10_ := Aside0.mk (blk_below (bY BK302.out) hb)
    have n11_ := Aside0.mk (blk_below (bY BK328.out) hb)
    have n12_ := Aside0.mk (blk_below (bY BK335.out) hb)
    have n13_ := Aside0.mk (blk_below (bY BK346.out) hb)
    have n14_ := Aside0.mk (blk_below (bY BK354.out) hb)
    have n15_ := Aside0.mk (below_step (by repeat (first | (with_reducible first | exact HB.out | apply below_alloc | apply pw_below_drewN | apply below_drew1 | refine below_set ?_ GE301.out | refine below_set ?_ GE302.out | refine below_set ?_ GE328.out | refine below_set ?_ GE335.out | refine below_set ?_ GE346.out | refine below_set ?_ GE354.out) | exact HB.out)) hb)
    clear HO_329000
    clear HO_329001
    clear HO_336000
    clear HO_336001
    clear HO_347007
    clear HO_355000
    clear HO_355001
    clear BK301
    clear BK302
    clear BK328
    clear BK335
    clear BK346
    clear BK354
    clear HB
    have HO_329000 := n0_
    have HO_329001 := n1_
    have HO_336000 := n2_
    have HO_336001 := n3_
    have HO_347007 := n4_
    have HO_355000 := n5_
    have HO_355001 := n6_
    have HO386 := n7_
    have HO389 := n8_
    have BK301 := n9_
    have BK302 := n10_
    have BK328 := n11_
    have BK335 := n12_
    have BK346 := n13_
    have BK354 := n14_
    have HB := n15_
    clear n0_ n1_ n2_ n3_ n4_ n5_ n6_ n7_ n8_ n9_ n10_ n11_ n12_ n13_ n14_ n15_
    refine hK.out _ _ ⟨(blk_cell BK301.out 0).trans rfl, (blk_cell BK301.out 1).trans rfl, (blk_cell BK302.out 0).trans rfl, (blk_cell BK302.out 1).trans rfl, (blk_cell BK302.out 2).trans rfl, (blk_cell BK302.out 3).trans rfl, (blk_cell BK302.out 4).trans rfl, (blk_cell BK302.out 5).trans rfl, (blk_cell BK302.out 6).trans rfl, (blk_cell BK302.out 7).trans rfl⟩ (fun hHeld => ?_)
    clear hK K
    refine norm_ (a' := ?_) ?_ ?_
    rotate_left
    ·show Act.put _ (some 96) _ = _
     simp only [pS]
     rfl
    refine two_ (i := 3) (j := 8) (Ni := some 98) (Nj := some 15) #[T, T, T, T, F, F, F, F, F, F, F] #[T, T, T, F, F, F, F, F, T, F, F] rfl rfl rfl rfl (two_of HT_.out (by kernel_rfl)) (by decide) (by decide) (fun K hK => ?_) (fun K hK => ?_)
    ·skip
     refine goes_ Try.func22 (by kernel_rfl) rfl #[.agg #[.int .i64 a1_0, .int .i64 a1_1, .int .i64 a1_2, .int .i64 a1_3, .int .i64 a1_4, .int .i64 a1_5, .int .i64 a1_6, .slice A1_7 l1_7.length c1_7]] (by rfl) rfl rfl (by (try simp only [List.map_toArray, List.map_cons, List.map_nil]); first | done | rfl) ?_
     with_reducible refine (laws_toPacket.calls kj111 a1_0 a1_1 a1_2 a1_3 a1_4 a1_5 a1_6 _ _ l1_7 t390 t391 t392 t393 t394 t395 t396 t397 _ ?side1 ?side2 A168.out).mono ?_
     (case side1 => exact cY ((Kd.C_below HR1_7.out HB.out)))
     (case side2 => exact HC1_7.out)
     rintro e w182 ⟨v398, rfl, ho0, hb⟩
     refine ⟨_, rfl, ?_⟩
     have n0_ := Aside0.mk (Kd.R_elder' (rY HO_329000.out) (Kd.R_base ho0) hb)
     have n1_ := Aside0.mk (Kd.R_elder' (rY HO_329001.out) (Kd.R_base ho0) hb)
     have n2_ := Aside0.mk (Kd.R_elder' (rY HO_336000.out) (Kd.R_base ho0) hb)
     have n3_ := Aside0.mk (Kd.R_elder' (rY HO_336001.out) (Kd.R_base ho0) hb)
     have n4_ := Aside0.mk (Kd.R_elder' (rY HO_347007.out) (Kd.R_base ho0) hb)
     have n5_ := Aside0.mk (Kd.R_elder' (rY HO_355000.out) (Kd.R_base ho0) hb)
     have n6_ := Aside0.mk (Kd.R_elder' (rY HO_355001.out) (Kd.R_base ho0) hb)
     have n7_ := Aside0.mk (Kd.R_elder' (rY HO386.out) (Kd.R_base ho0) hb)
     have n8_ := Aside0.mk (Kd.R_elder' (rY HO389.out) (Kd.R_base ho0) hb)
     have n9_ := Aside0.mk (Kd.R_lower (Kd.R_new' (Kd.R_new' (Kd.R_new' (Kd.R_new' (Kd.R_new' (Kd.R_new' (Kd.R_new' (Kd.R_new' (Kd.R_new' ho0 (Kd.R_lt (rY HO_329000.out))) (Kd.R_lt (rY HO_329001.out))) (Kd.R_lt (rY HO_336000.out))) (Kd.R_lt (rY HO_336001.out))) (Kd.R_lt (rY HO_347007.out))) (Kd.R_lt (rY HO_355000.out))) (Kd.R_lt (rY HO_355001.out))) (Kd.R_lt (rY HO386.out))) (Kd.R_lt (rY HO389.out))) (below_size (by repeat (first | (with_reducible first | exact HB.out | apply below_alloc | apply pw_below_drewN | apply below_drew1 | refine below_set ?_ GE301.out | refine below_set ?_ GE302.out | refine below_set ?_ GE328.out | refine below_set ?_ GE335.out | refine below_set ?_ GE346.out | refine below_set ?_ GE354.out) | exact HB.out))))
     have n10_ := Aside0.mk (blk_below (bY BK301.out) hb)
     have n11_ := Aside0.mk (blk_below (bY BK302.out) hb)
     have n12_ := Aside0.mk (blk_below (bY BK328.out) hb)
     have n13_ := Aside0.mk (blk_below (bY BK335.out) hb)
     have n14_ := Aside0.mk (blk_below (bY BK346.out) hb)
     have n15_ := Aside0.mk (blk_below (bY BK354.out) hb)
     have n16_ := Aside0.mk (below_step (by repeat (first | (with_reducible first | exact HB.out | apply below_alloc | apply pw_below_drewN | apply below_drew1 | refine below_set ?_ GE301.out | refine below_set ?_ GE302.out | refine below_set ?_ GE328.out | refine below_set ?_ GE335.out | refine below_set ?_ GE346.out | refine below_set ?_ GE354.out) | exact HB.out)) hb)
     clear HO_329000
     clear HO_329001
     clear HO_336000
     clear HO_336001
     clear HO_347007
     clear HO_355000
     clear HO_355001
     clear HO386
     clear HO389
     clear BK301
     clear BK302
     clear BK328
     clear BK335
     clear BK346
     clear BK354
     clear HB
     have HO_329000 := n0_
     have HO_329001 := n1_
     have HO_336000 := n2_
     have HO_336001 := n3_
     have HO_347007 := n4_
     have HO_355000 := n5_
     have HO_355001 := n6_
     have HO386 := n7_
     have HO389 := n8_
     have HO399 := n9_
     have BK301 := n10_
     have BK302 := n11_
     have BK328 := n12_
     have BK335 := n13_
     have BK346 := n14_
     have BK354 := n15_
     have HB := n16_
     clear n0_ n1_ n2_ n3_ n4_ n5_ n6_ n7_ n8_ n9_ n10_ n11_ n12_ n13_ n14_ n15_ n16_
     obtain ⟨Ao183, co183, eo183⟩ := Kd.R_slice HO386.out
     (first | subst eo183 | (injection eo183 with f1_ f2_ f3_; have f4_ := f1_.symm; have f5_ := f3_.symm; clear f1_ f2_ f3_; subst f4_; subst f5_))
     obtain ⟨Ao184, co184, eo184⟩ := Kd.R_slice HO389.out
     (first | subst eo184 | (injection eo184 with f1_ f2_ f3_; have f4_ := f1_.symm; have f5_ := f3_.symm; clear f1_ f2_ f3_; subst f4_; subst f5_))
     obtain ⟨Ao185, co185, eo185⟩ := Kd.R_slice HO399.out
     (first | subst eo185 | (injection eo185 with f1_ f2_ f3_; have f4_ := f1_.symm; have f5_ := f3_.symm; clear f1_ f2_ f3_; subst f4_; subst f5_))
     refine hK.out _ _ ⟨(blk_cell BK301.out 0).trans rfl, (blk_cell BK301.out 1).trans rfl, (blk_cell BK302.out 0).trans rfl, (blk_cell BK302.out 1).trans rfl, (blk_cell BK302.out 2).trans rfl, (blk_cell BK302.out 3).trans rfl, (blk_cell BK302.out 4).trans rfl, (blk_cell BK302.out 5).trans rfl, (blk_cell BK302.out 6).trans rfl, (blk_cell BK302.out 7).trans rfl⟩ (fun hHeld => ?_)
     clear hK K
     refine norm_ (a' := ?_) ?_ ?_
     rotate_left
     ·show Act.put _ (some 98) _ = _
      simp only [pS]
      rfl
     refine two_ (i := 4) (j := 8) (Ni := some 99) (Nj := some 15) #[T, T, T, T, T, F, F, F, F, F, F] #[T, T, T, T, F, F, F, F, T, F, F] rfl rfl rfl rfl (two_of HT_.out (by kernel_rfl)) (by decide) (by decide) (fun K hK => ?_) (fun K hK => ?_)
     ·skip
      refine goes_ Try.func57 (by kernel_rfl) rfl #[.agg #[.slice Ao183 t384.length co183, .slice Ao184 t387.length co184], .agg #[.int .i64 t390, .int .i64 t391, .int .i64 t392, .int .i64 t393, .int .i64 t394, .int .i64 t395, .int .i64 t396, .slice Ao185 t397.length co185]] (by rfl) rfl rfl (by (try simp only [List.map_toArray, List.map_cons, List.map_nil]); first | done | rfl) ?_
      with_reducible refine (impl_ReturnCredits.calls kj111 _ _ t384 _ _ t387 t390 t391 t392 t393 t394 t395 t396 _ _ t397 t400 t403 t406 _ ?side1 ?side2 ?side3 ?side4 ?side5 ?side6 A169.out).mono ?_
      (case side1 => exact cY ((Kd.R_reads' HO386.out).2.2))
      (case side2 => exact (Kd.R_reads' HO386.out).2.1)
      (case side3 => exact cY ((Kd.R_reads' HO389.out).2.2))
      (case side4 => exact (Kd.R_reads' HO389.out).2.1)
      (case side5 => exact cY ((Kd.R_reads' HO399.out).2.2))
      (case side6 => exact (Kd.R_reads' HO399.out).2.1)
      rintro e w186 ⟨v401, v404, rfl, ho0, ho1, hb⟩
      refine ⟨_, rfl, ?_⟩
      have n0_ := Aside0.mk (Kd.R_mono (Kd.R_told (Kd.R_told (Kd.R_old (rY HO_329000.out) hb) (Kd.R_base ho0)) (Kd.R_base ho1)) (fun _ h_ => h_.1))
      have n1_ := Aside0.mk (Kd.R_mono (Kd.R_told (Kd.R_told (Kd.R_old (rY HO_329001.out) hb) (Kd.R_base ho0)) (Kd.R_base ho1)) (fun _ h_ => h_.1))
      have n2_ := Aside0.mk (Kd.R_mono (Kd.R_told (Kd.R_told (Kd.R_old (rY HO_336000.out) hb) (Kd.R_base ho0)) (Kd.R_base ho1)) (fun _ h_ => h_.1))
      have n3_ := Aside0.mk (Kd.R_mono (Kd.R_told (Kd.R_told (Kd.R_old (rY HO_336001.out) hb) (Kd.R_base ho0)) (Kd.R_base ho1)) (fun _ h_ => h_.1))
      have n4_ := Aside0.mk (Kd.R_mono (Kd.R_told (Kd.R_told (Kd.R_old (rY HO_347007.out) hb) (Kd.R_base ho0)) (Kd.R_base ho1)) (fun _ h_ => h_.1))
      have n5_ := Aside0.mk (Kd.R_mono (Kd.R_told (Kd.R_told (Kd.R_old (rY HO_355000.out) hb) (Kd.R_base ho0)) (Kd.R_base ho1)) (fun _ h_ => h_.1))
      have n6_ := Aside0.mk (Kd.R_mono (Kd.R_told (Kd.R_told (Kd.R_old (rY HO_355001.out) hb) (Kd.R_base ho0)) (Kd.R_base ho1)) (fun _ h_ => h_.1))
      have n7_ := Aside0.mk (Kd.R_mono (Kd.R_told (Kd.R_told (Kd.R_old (rY HO386.out) hb) (Kd.R_base ho0)) (Kd.R_base ho1)) (fun _ h_ => h_.1))
      have n8_ := Aside0.mk (Kd.R_mono (Kd.R_told (Kd.R_told (Kd.R_old (rY HO389.out) hb) (Kd.R_base ho0)) (Kd.R_base ho1)) (fun _ h_ => h_.1))
      have n9_ := Aside0.mk (Kd.R_mono (Kd.R_told (Kd.R_told (Kd.R_old (rY HO399.out) hb) (Kd.R_base ho0)) (Kd.R_base ho1)) (fun _ h_ => h_.1))
      have n10_ := Aside0.mk (Kd.R_lower (Kd.R_new' (Kd.R_new' (Kd.R_new' (Kd.R_new' (Kd.R_new' (Kd.R_new' (Kd.R_new' (Kd.R_new' (Kd.R_new' (Kd.R_new' ho0 (Kd.R_lt (rY HO_329000.out))) (Kd.R_lt (rY HO_329001.out))) (Kd.R_lt (rY HO_336000.out))) (Kd.R_lt (rY HO_336001.out))) (Kd.R_lt (rY HO_347007.out))) (Kd.R_lt (rY HO_355000.out))) (Kd.R_lt (rY HO_355001.out))) (Kd.R_lt (rY HO386.out))) (Kd.R_lt (rY HO389.out))) (Kd.R_lt (rY HO399.out))) (below_size (by repeat (first | (with_reducible first | exact HB.out | apply below_alloc | apply pw_below_drewN | apply below_drew1 | refine below_set ?_ GE301.out | refine below_set ?_ GE302.out | refine below_set ?_ GE328.out | refine below_set ?_ GE335.out | refine below_set ?_ GE346.out | refine below_set ?_ GE354.out) | exact HB.out))))
      have n11_ := Aside0.mk (Kd.R_lower (Kd.R_new' (Kd.R_new' (Kd.R_new' (Kd.R_new' (Kd.R_new' (Kd.R_new' (Kd.R_new' (Kd.R_new' (Kd.R_new' (Kd.R_new' ho1 (Kd.R_lt (rY HO_329000.out))) (Kd.R_lt (rY HO_329001.out))) (Kd.R_lt (rY HO_336000.out))) (Kd.R_lt (rY HO_336001.out))) (Kd.R_lt (rY HO_347007.out))) (Kd.R_lt (rY HO_355000.out))) (Kd.R_lt (rY HO_355001.out))) (Kd.R_lt (rY HO386.out))) (Kd.R_lt (rY HO389.out))) (Kd.R_lt (rY HO399.out))) (below_size (by repeat (first | (with_reducible first | exact HB.out | apply below_alloc | apply pw_below_drewN | apply below_drew1 | refine below_set ?_ GE301.out | refine below_set ?_ GE302.out | refine below_set ?_ GE328.out | refine below_set ?_ GE335.out | refine below_set ?_ GE346.out | refine below_set ?_ GE354.out) | exact HB.out))))
      have n12_ := Aside0.mk (blk_below (bY BK301.out) hb)
      have n13_ := Aside0.mk (blk_below (bY BK302.out) hb)
      have n14_ := Aside0.mk (blk_below (bY BK328.out) hb)
      have n15_ := Aside0.mk (blk_below (bY BK335.out) hb)
      have n16_ := Aside0.mk (blk_below (bY BK346.out) hb)
      have n17_ := Aside0.mk (blk_below (bY BK354.out) hb)
      have n18_ := Aside0.mk (below_step (by repeat (first | (with_reducible first | exact HB.out | apply below_alloc | apply pw_below_drewN | apply below_drew1 | refine below_set ?_ GE301.out | refine below_set ?_ GE302.out | refine below_set ?_ GE328.out | refine below_set ?_ GE335.out | refine below_set ?_ GE346.out | refine below_set ?_ GE354.out) | exact HB.out)) hb)
      clear HO_329000
      clear HO_329001
      clear HO_336000
      clear HO_336001
      clear HO_347007
      clear HO_355000
      clear HO_355001
      clear HO386
      clear HO389
      clear HO399
      clear BK301
      clear BK302
      clear BK328
      clear BK335
      clear BK346
      clear BK354
      clear HB
      have HO_329000 := n0_
      have HO_329001 := n1_
      have HO_336000 := n2_
      have HO_336001 := n3_
      have HO_347007 := n4_
      have HO_355000 := n5_
      have HO_355001 := n6_
      have HO386 := n7_
      have HO389 := n8_
      have HO399 := n9_
      have HO402 := n10_
      have HO405 := n11_
      have BK301 := n12_
      have BK302 := n13_
      have BK328 := n14_
      have BK335 := n15_
      have BK346 := n16_
      have BK354 := n17_
      have HB := n18_
      clear n0_ n1_ n2_ n3_ n4_ n5_ n6_ n7_ n8_ n9_ n10_ n11_ n12_ n13_ n14_ n15_ n16_ n17_ n18_
      refine hK.out _ _ ⟨(blk_cell BK301.out 0).trans rfl, (blk_cell BK301.out 1).trans rfl, (blk_cell BK302.out 0).trans rfl, (blk_cell BK302.out 1).trans rfl, (blk_cell BK302.out 2).trans rfl, (blk_cell BK302.out 3).trans rfl, (blk_cell BK302.out 4).trans rfl, (blk_cell BK302.out 5).trans rfl, (blk_cell BK302.out 6).trans rfl, (blk_cell BK302.out 7).trans rfl⟩ (fun hHeld => ?_)
      clear hK K
      refine norm_ (a' := ?_) ?_ ?_
      rotate_left
      ·show Act.put _ (some 99) _ = _
       simp only [pS]
       rfl
      refine pure_ (i := 5) (N := some 94) (v := ?_) (a' := ?_) #[T, T, T, T, T, T, F, F, F, F, F] rfl rfl (any_of HT_.out (by kernel_rfl)) (fun _ _ _ h => h) (Or.inl ⟨by rfl, ?_⟩) ?_ ?_
      rotate_left
      ·intro w'
       go_simp
       with_reducible rfl
      rotate_left
      ·simp only [pS]
       rfl
      refine pure_ (i := 6) (N := some 100) (v := ?_) (a' := ?_) #[T, T, T, T, T, T, T, F, F, F, F] rfl rfl (any_of HT_.out (by kernel_rfl)) (fun _ _ _ h => h) (Or.inl ⟨by rfl, ?_⟩) ?_ ?_
      rotate_left
      ·intro w'
       go_simp
       with_reducible rfl
      rotate_left
      ·simp only [pS]
       rfl
      refine pure_ (i := 7) (N := some 101) (v := ?_) (a' := ?_) #[T, T, T, T, T, T, T, T, F, F, F] rfl rfl (any_of HT_.out (by kernel_rfl)) (fun _ _ _ h => h) (Or.inl ⟨by rfl, ?_⟩) ?_ ?_
      rotate_left
      ·intro w'
       go_simp
       with_reducible rfl
      rotate_left
      ·simp only [pS]
       rfl
      refine one_ (i := 8) (N := some 15) #[T, T, T, T, T, T, T, T, T, F, F] rfl rfl (one_of HT_.out (by kernel_rfl)) (by decide) (fun K hK => ?_)
      refine box_step ?hg (N := 15) ?hd (cs := #[.slice none 0 0, .slice none 0 0]) (t := 27) ?hr ?_; (case hd => rfl); (case hg => rfl); (case hr => first | (go_simp; done) | (go_simp; rfl))
      intro gb407 hg w187 hbox hb
      have n0_ := Aside0.mk (Kd.R_below (rY HO_329000.out) hb)
      have n1_ := Aside0.mk (Kd.R_below (rY HO_329001.out) hb)
      have n2_ := Aside0.mk (Kd.R_below (rY HO_336000.out) hb)
      have n3_ := Aside0.mk (Kd.R_below (rY HO_336001.out) hb)
      have n4_ := Aside0.mk (Kd.R_below (rY HO_347007.out) hb)
      have n5_ := Aside0.mk (Kd.R_below (rY HO_355000.out) hb)
      have n6_ := Aside0.mk (Kd.R_below (rY HO_355001.out) hb)
      have n7_ := Aside0.mk (Kd.R_below (rY HO386.out) hb)
      have n8_ := Aside0.mk (Kd.R_below (rY HO389.out) hb)
      have n9_ := Aside0.mk (Kd.R_below (rY HO399.out) hb)
      have n10_ := Aside0.mk (Kd.R_below (rY HO402.out) hb)
      have n11_ := Aside0.mk (Kd.R_below (rY HO405.out) hb)
      have n12_ := Aside0.mk (blk_below (bY BK301.out) hb)
      have n13_ := Aside0.mk (blk_below (bY BK302.out) hb)
      have n14_ := Aside0.mk (blk_below (bY BK328.out) hb)
      have n15_ := Aside0.mk (blk_below (bY BK335.out) hb)
      have n16_ := Aside0.mk (blk_below (bY BK346.out) hb)
      have n17_ := Aside0.mk (blk_below (bY BK354.out) hb)
      have n18_ := Aside0.mk (below_step (by repeat (first | (with_reducible first | exact HB.out | apply below_alloc | apply pw_below_drewN | apply below_drew1 | refine below_set ?_ GE301.out | refine below_set ?_ GE302.out | refine below_set ?_ GE328.out | refine below_set ?_ GE335.out | refine below_set ?_ GE346.out | refine below_set ?_ GE354.out) | exact HB.out)) hb)
      have n19_ := Aside0.mk (hbox)
      have n20_ := Aside0.mk ((by rw [hg]; exact (below_size (by repeat (first | (with_reducible first | exact HB.out | apply below_alloc | apply pw_below_drewN | apply below_drew1 | refine below_set ?_ GE301.out | refine below_set ?_ GE302.out | refine below_set ?_ GE328.out | refine below_set ?_ GE335.out | refine below_set ?_ GE346.out | refine below_set ?_ GE354.out) | exact HB.out))) : w.heap.size ≤ gb407))
      have n21_ := Aside0.mk ((by rw [hg]; exact (below_size (by repeat (first | (with_reducible first | exact HB.out | apply below_alloc | apply pw_below_drewN | apply below_drew1 | refine below_set ?_ GE301.out | refine below_set ?_ GE302.out | refine below_set ?_ GE328.out | refine below_set ?_ GE335.out | refine below_set ?_ GE346.out | refine below_set ?_ GE354.out) | exact HB.out))) : w.heap.size ≤ gb407))
      have n22_ := Aside0.mk ((by rw [hg]; exact Nat.ne_of_lt (blk_lt (bY BK301.out)) : gb301 ≠ gb407))
      have n23_ := Aside0.mk ((by rw [hg]; exact Nat.ne_of_gt (blk_lt (bY BK301.out)) : gb407 ≠ gb301))
      have n24_ := Aside0.mk ((by rw [hg]; exact Nat.ne_of_lt (blk_lt (bY BK302.out)) : gb302 ≠ gb407))
      have n25_ := Aside0.mk ((by rw [hg]; exact Nat.ne_of_gt (blk_lt (bY BK302.out)) : gb407 ≠ gb302))
      have n26_ := Aside0.mk ((by rw [hg]; exact Nat.ne_of_lt (blk_lt (bY BK328.out)) : gb328 ≠ gb407))
      have n27_ := Aside0.mk ((by rw [hg]; exact Nat.ne_of_gt (blk_lt (bY BK328.out)) : gb407 ≠ gb328))
      have n28_ := Aside0.mk ((by rw [hg]; exact Nat.ne_of_lt (blk_lt (bY BK335.out)) : gb335 ≠ gb407))
      have n29_ := Aside0.mk ((by rw [hg]; exact Nat.ne_of_gt (blk_lt (bY BK335.out)) : gb407 ≠ gb335))
      have n30_ := Aside0.mk ((by rw [hg]; exact Nat.ne_of_lt (blk_lt (bY BK346.out)) : gb346 ≠ gb407))
      have n31_ := Aside0.mk ((by rw [hg]; exact Nat.ne_of_gt (blk_lt (bY BK346.out)) : gb407 ≠ gb346))
      have n32_ := Aside0.mk ((by rw [hg]; exact Nat.ne_of_lt (blk_lt (bY BK354.out)) : gb354 ≠ gb407))
      have n33_ := Aside0.mk ((by rw [hg]; exact Nat.ne_of_gt (blk_lt (bY BK354.out)) : gb407 ≠ gb354))
      clear HO_329000
      clear HO_329001
      clear HO_336000
      clear HO_336001
      clear HO_347007
      clear HO_355000
      clear HO_355001
      clear HO386
      clear HO389
      clear HO399
      clear HO402
      clear HO405
      clear BK301
      clear BK302
      clear BK328
      clear BK335
      clear BK346
      clear BK354
      clear HB
      have HO_329000 := n0_
      have HO_329001 := n1_
      have HO_336000 := n2_
      have HO_336001 := n3_
      have HO_347007 := n4_
      have HO_355000 := n5_
      have HO_355001 := n6_
      have HO386 := n7_
      have HO389 := n8_
      have HO399 := n9_
      have HO402 := n10_
      have HO405 := n11_
      have BK301 := n12_
      have BK302 := n13_
      have BK328 := n14_
      have BK335 := n15_
      have BK346 := n16_
      have BK354 := n17_
      have HB := n18_
      have BK407 := n19_
      have GW407 := n20_
      have GE407 := n21_
      have NB301_407 := n22_
      have NB407_301 := n23_
      have NB302_407 := n24_
      have NB407_302 := n25_
      have NB328_407 := n26_
      have NB407_328 := n27_
      have NB335_407 := n28_
      have NB407_335 := n29_
      have NB346_407 := n30_
      have NB407_346 := n31_
      have NB354_407 := n32_
      have NB407_354 := n33_
      clear n0_ n1_ n2_ n3_ n4_ n5_ n6_ n7_ n8_ n9_ n10_ n11_ n12_ n13_ n14_ n15_ n16_ n17_ n18_ n19_ n20_ n21_ n22_ n23_ n24_ n25_ n26_ n27_ n28_ n29_ n30_ n31_ n32_ n33_
      clear hb hbox hg
      refine hK.out _ _ ⟨(blk_cell BK301.out 0).trans rfl, (blk_cell BK301.out 1).trans rfl, (blk_cell BK302.out 0).trans rfl, (blk_cell BK302.out 1).trans rfl, (blk_cell BK302.out 2).trans rfl, (blk_cell BK302.out 3).trans rfl, (blk_cell BK302.out 4).trans rfl, (blk_cell BK302.out 5).trans rfl, (blk_cell BK302.out 6).trans rfl, (blk_cell BK302.out 7).trans rfl⟩ (fun hHeld => ?_)
      clear hK K
      refine norm_ (a' := ?_) ?_ ?_
      rotate_left
      ·show Act.put _ (some 15) _ = _
       simp only [pS]
       rfl
      exact norm_ (by simp only [putAll, Act.put, List.setIfInBounds_toArray, List.set_cons_zero, List.set_cons_succ]) (hCont (.slice Ao183 t384.length co183, .slice Ao184 t387.length co184, .slice Ao185 t397.length co185, v401, v404, gb407) _ ⟨hHeld, (by (repeat apply rX); exact Kd.R_mono HO386.out (fun _ hk => ⟨hk.1.1.1.1.1.1.1.1.1.1, ⟨hk.1.1.2, ⟨hk.1.2, ⟨hk.2, ⟨hk.1.1.1.1.1.1.1.1.1.2, ⟨hk.1.1.1.1.1.1.1.1.2, ⟨hk.1.1.1.1.1.1.1.2, ⟨hk.1.1.1.1.1.1.2, ⟨hk.1.1.1.1.1.2, ⟨hk.1.1.1.1.2, hk.1.1.1.2⟩⟩⟩⟩⟩⟩⟩⟩⟩⟩)), (by (repeat apply rX); exact Kd.R_mono HO389.out (fun _ hk => ⟨hk.1.1.1.1.1.1.1.1.1.1, ⟨hk.1.1.2, ⟨hk.1.2, ⟨hk.2, ⟨hk.1.1.1.1.1.1.1.1.1.2, ⟨hk.1.1.1.1.1.1.1.1.2, ⟨hk.1.1.1.1.1.1.1.2, ⟨hk.1.1.1.1.1.1.2, ⟨hk.1.1.1.1.1.2, ⟨hk.1.1.1.1.2, hk.1.1.1.2⟩⟩⟩⟩⟩⟩⟩⟩⟩⟩)), (by (repeat apply rX); exact Kd.R_mono HO399.out (fun _ hk => ⟨hk.1.1.1.2, ⟨hk.1.1.2, ⟨hk.1.2, ⟨hk.2, ⟨hk.1.1.1.1.1.1.1.1.1.1.2, ⟨hk.1.1.1.1.1.1.1.1.1.2, ⟨hk.1.1.1.1.1.1.1.1.2, ⟨hk.1.1.1.1.1.1.1.2, ⟨hk.1.1.1.1.1.1.2, ⟨hk.1.1.1.1.1.2, hk.1.1.1.1.2⟩⟩⟩⟩⟩⟩⟩⟩⟩⟩)), (by (repeat apply rX); exact Kd.R_mono HO402.out (fun _ hk => ⟨hk.1.1.2, ⟨hk.1.2, ⟨hk.2, ⟨hk.1.1.1.1.1.1.1.1.1.1, ⟨hk.1.1.1.1.1.1.1.1.1.2, ⟨hk.1.1.1.1.1.1.1.1.2, ⟨hk.1.1.1.1.1.1.1.2, ⟨hk.1.1.1.1.1.1.2, ⟨hk.1.1.1.1.1.2, ⟨hk.1.1.1.1.2, hk.1.1.1.2⟩⟩⟩⟩⟩⟩⟩⟩⟩⟩)), (by (repeat apply rX); exact Kd.R_mono HO405.out (fun _ hk => ⟨hk.1.1.2, ⟨hk.1.2, ⟨hk.2, ⟨hk.1.1.1.1.1.1.1.1.1.1, ⟨hk.1.1.1.1.1.1.1.1.1.2, ⟨hk.1.1.1.1.1.1.1.1.2, ⟨hk.1.1.1.1.1.1.1.2, ⟨hk.1.1.1.1.1.1.2, ⟨hk.1.1.1.1.1.2, ⟨hk.1.1.1.1.2, hk.1.1.1.2⟩⟩⟩⟩⟩⟩⟩⟩⟩⟩)), (by (repeat apply rX); exact Kd.R_mono HO_329000.out (fun _ hk => ⟨hk.1.1.1.1.2, ⟨hk.1.1.1.2, ⟨hk.1.1.2, ⟨hk.1.2, ⟨hk.2, ⟨hk.1.1.1.1.1.1, ⟨hk.1.1.1.1.1.2.1, ⟨hk.1.1.1.1.1.2.2.1, ⟨hk.1.1.1.1.1.2.2.2.1, ⟨hk.1.1.1.1.1.2.2.2.2.1, hk.1.1.1.1.1.2.2.2.2.2⟩⟩⟩⟩⟩⟩⟩⟩⟩⟩)), (by (repeat apply rX); exact Kd.R_mono HO_329001.out (fun _ hk => ⟨hk.1.1.1.1.2, ⟨hk.1.1.1.2, ⟨hk.1.1.2, ⟨hk.1.2, ⟨hk.2, ⟨hk.1.1.1.1.1.1, ⟨hk.1.1.1.1.1.2.1, ⟨hk.1.1.1.1.1.2.2.1, ⟨hk.1.1.1.1.1.2.2.2.1, ⟨hk.1.1.1.1.1.2.2.2.2.1, hk.1.1.1.1.1.2.2.2.2.2⟩⟩⟩⟩⟩⟩⟩⟩⟩⟩)), (by (repeat apply rX); exact Kd.R_mono HO_336000.out (fun _ hk => ⟨hk.1.1.1.1.2, ⟨hk.1.1.1.2, ⟨hk.1.1.2, ⟨hk.1.2, ⟨hk.2, ⟨hk.1.1.1.1.1.1, ⟨hk.1.1.1.1.1.2.1, ⟨hk.1.1.1.1.1.2.2.1, ⟨hk.1.1.1.1.1.2.2.2.1, ⟨hk.1.1.1.1.1.2.2.2.2.1, hk.1.1.1.1.1.2.2.2.2.2⟩⟩⟩⟩⟩⟩⟩⟩⟩⟩)), (by (repeat apply rX); exact Kd.R_mono HO_336001.out (fun _ hk => ⟨hk.1.1.1.1.2, ⟨hk.1.1.1.2, ⟨hk.1.1.2, ⟨hk.1.2, ⟨hk.2, ⟨hk.1.1.1.1.1.1, ⟨hk.1.1.1.1.1.2.1, ⟨hk.1.1.1.1.1.2.2.1, ⟨hk.1.1.1.1.1.2.2.2.1, ⟨hk.1.1.1.1.1.2.2.2.2.1, hk.1.1.1.1.1.2.2.2.2.2⟩⟩⟩⟩⟩⟩⟩⟩⟩⟩)), (by (repeat apply rX); exact Kd.R_mono HO_347007.out (fun _ hk => ⟨hk.1.1.1.1.2, ⟨hk.1.1.1.2, ⟨hk.1.1.2, ⟨hk.1.2, ⟨hk.2, ⟨hk.1.1.1.1.1.1, ⟨hk.1.1.1.1.1.2.1, ⟨hk.1.1.1.1.1.2.2.1, ⟨hk.1.1.1.1.1.2.2.2.1, ⟨hk.1.1.1.1.1.2.2.2.2.1, hk.1.1.1.1.1.2.2.2.2.2⟩⟩⟩⟩⟩⟩⟩⟩⟩⟩)), (by (repeat apply rX); exact Kd.R_mono HO_355000.out (fun _ hk => ⟨hk.1.1.1.1.2, ⟨hk.1.1.1.2, ⟨hk.1.1.2, ⟨hk.1.2, ⟨hk.2, ⟨hk.1.1.1.1.1.1, ⟨hk.1.1.1.1.1.2.1, ⟨hk.1.1.1.1.1.2.2.1, ⟨hk.1.1.1.1.1.2.2.2.1, ⟨hk.1.1.1.1.1.2.2.2.2.1, hk.1.1.1.1.1.2.2.2.2.2⟩⟩⟩⟩⟩⟩⟩⟩⟩⟩)), (by (repeat apply rX); exact Kd.R_mono HO_355001.out (fun _ hk => ⟨hk.1.1.1.1.2, ⟨hk.1.1.1.2, ⟨hk.1.1.2, ⟨hk.1.2, ⟨hk.2, ⟨hk.1.1.1.1.1.1, ⟨hk.1.1.1.1.1.2.1, ⟨hk.1.1.1.1.1.2.2.1, ⟨hk.1.1.1.1.1.2.2.2.1, ⟨hk.1.1.1.1.1.2.2.2.2.1, hk.1.1.1.1.1.2.2.2.2.2⟩⟩⟩⟩⟩⟩⟩⟩⟩⟩)), (bY BK301.out), (bY BK302.out), (bY BK328.out), (bY BK335.out), (bY BK346.out), (bY BK354.out), (bY BK407.out), GW407.out, GE407.out, NB301_407.out, NB407_301.out, NB302_407.out, NB407_302.out, NB328_407.out, NB407_328.out, NB335_407.out, NB407_335.out, NB346_407.out, NB407_346.out, NB354_407.out, NB407_354.out, (by repeat (first | (with_reducible first | exact HB.out | apply below_alloc | apply pw_below_drewN | apply below_drew1 | refine below_set ?_ GE301.out | refine below_set ?_ GE302.out | refine below_set ?_ GE328.out | refine below_set ?_ GE335.out | refine below_set ?_ GE346.out | refine below_set ?_ GE354.out | refine below_set ?_ GE407.out) | exact HB.out))⟩)
     ·skip
      refine box_step ?hg (N := 15) ?hd (cs := #[.slice none 0 0, .slice none 0 0]) (t := 27) ?hr ?_; (case hd => rfl); (case hg => rfl); (case hr => first | (go_simp; done) | (go_simp; rfl))
      intro gb407 hg w183 hbox hb
      have n0_ := Aside0.mk (Kd.R_below (rY HO_329000.out) hb)
      have n1_ := Aside0.mk (Kd.R_below (rY HO_329001.out) hb)
      have n2_ := Aside0.mk (Kd.R_below (rY HO_336000.out) hb)
      have n3_ := Aside0.mk (Kd.R_below (rY HO_336001.out) hb)
      have n4_ := Aside0.mk (Kd.R_below (rY HO_347007.out) hb)
      have n5_ := Aside0.mk (Kd.R_below (rY HO_355000.out) hb)
      have n6_ := Aside0.mk (Kd.R_below (rY HO_355001.out) hb)
      have n7_ := Aside0.mk (Kd.R_below (rY HO386.out) hb)
      have n8_ := Aside0.mk (Kd.R_below (rY HO389.out) hb)
      have n9_ := Aside0.mk (Kd.R_below (rY HO399.out) hb)
      have n10_ := Aside0.mk (blk_below (bY BK301.out) hb)
      have n11_ := Aside0.mk (blk_below (bY BK302.out) hb)
      have n12_ := Aside0.mk (blk_below (bY BK328.out) hb)
      have n13_ := Aside0.mk (blk_below (bY BK335.out) hb)
      have n14_ := Aside0.mk (blk_below (bY BK346.out) hb)
      have n15_ := Aside0.mk (blk_below (bY BK354.out) hb)
      have n16_ := Aside0.mk (below_step (by repeat (first | (with_reducible first | exact HB.out | apply below_alloc | apply pw_below_drewN | apply below_drew1 | refine below_set ?_ GE301.out | refine below_set ?_ GE302.out | refine below_set ?_ GE328.out | refine below_set ?_ GE335.out | refine below_set ?_ GE346.out | refine below_set ?_ GE354.out) | exact HB.out)) hb)
      have n17_ := Aside0.mk (hbox)
      have n18_ := Aside0.mk ((by rw [hg]; exact (below_size (by repeat (first | (with_reducible first | exact HB.out | apply below_alloc | apply pw_below_drewN | apply below_drew1 | refine below_set ?_ GE301.out | refine below_set ?_ GE302.out | refine below_set ?_ GE328.out | refine below_set ?_ GE335.out | refine below_set ?_ GE346.out | refine below_set ?_ GE354.out) | exact HB.out))) : w.heap.size ≤ gb407))
      have n19_ := Aside0.mk ((by rw [hg]; exact (below_size (by repeat (first | (with_reducible first | exact HB.out | apply below_alloc | apply pw_below_drewN | apply below_drew1 | refine below_set ?_ GE301.out | refine below_set ?_ GE302.out | refine below_set ?_ GE328.out | refine below_set ?_ GE335.out | refine below_set ?_ GE346.out | refine below_set ?_ GE354.out) | exact HB.out))) : w.heap.size ≤ gb407))
      have n20_ := Aside0.mk ((by rw [hg]; exact Nat.ne_of_lt (blk_lt (bY BK301.out)) : gb301 ≠ gb407))
      have n21_ := Aside0.mk ((by rw [hg]; exact Nat.ne_of_gt (blk_lt (bY BK301.out)) : gb407 ≠ gb301))
      have n22_ := Aside0.mk ((by rw [hg]; exact Nat.ne_of_lt (blk_lt (bY BK302.out)) : gb302 ≠ gb407))
      have n23_ := Aside0.mk ((by rw [hg]; exact Nat.ne_of_gt (blk_lt (bY BK302.out)) : gb407 ≠ gb302))
      have n24_ := Aside0.mk ((by rw [hg]; exact Nat.ne_of_lt (blk_lt (bY BK328.out)) : gb328 ≠ gb407))
      have n25_ := Aside0.mk ((by rw [hg]; exact Nat.ne_of_gt (blk_lt (bY BK328.out)) : gb407 ≠ gb328))
      have n26_ := Aside0.mk ((by rw [hg]; exact Nat.ne_of_lt (blk_lt (bY BK335.out)) : gb335 ≠ gb407))
      have n27_ := Aside0.mk ((by rw [hg]; exact Nat.ne_of_gt (blk_lt (bY BK335.out)) : gb407 ≠ gb335))
      have n28_ := Aside0.mk ((by rw [hg]; exact Nat.ne_of_lt (blk_lt (bY BK346.out)) : gb346 ≠ gb407))
      have n29_ := Aside0.mk ((by rw [hg]; exact Nat.ne_of_gt (blk_lt (bY BK346.out)) : gb407 ≠ gb346))
      have n30_ := Aside0.mk ((by rw [hg]; exact Nat.ne_of_lt (blk_lt (bY BK354.out)) : gb354 ≠ gb407))
      have n31_ := Aside0.mk ((by rw [hg]; exact Nat.ne_of_gt (blk_lt (bY BK354.out)) : gb407 ≠ gb354))
      clear HO_329000
      clear HO_329001
      clear HO_336000
      clear HO_336001
      clear HO_347007
      clear HO_355000
      clear HO_355001
      clear HO386
      clear HO389
      clear HO399
      clear BK301
      clear BK302
      clear BK328
      clear BK335
      clear BK346
      clear BK354
      clear HB
      have HO_329000 := n0_
      have HO_329001 := n1_
      have HO_336000 := n2_
      have HO_336001 := n3_
      have HO_347007 := n4_
      have HO_355000 := n5_
      have HO_355001 := n6_
      have HO386 := n7_
      have HO389 := n8_
      have HO399 := n9_
      have BK301 := n10_
      have BK302 := n11_
      have BK328 := n12_
      have BK335 := n13_
      have BK346 := n14_
      have BK354 := n15_
      have HB := n16_
      have BK407 := n17_
      have GW407 := n18_
      have GE407 := n19_
      have NB301_407 := n20_
      have NB407_301 := n21_
      have NB302_407 := n22_
      have NB407_302 := n23_
      have NB328_407 := n24_
      have NB407_328 := n25_
      have NB335_407 := n26_
      have NB407_335 := n27_
      have NB346_407 := n28_
      have NB407_346 := n29_
      have NB354_407 := n30_
      have NB407_354 := n31_
      clear n0_ n1_ n2_ n3_ n4_ n5_ n6_ n7_ n8_ n9_ n10_ n11_ n12_ n13_ n14_ n15_ n16_ n17_ n18_ n19_ n20_ n21_ n22_ n23_ n24_ n25_ n26_ n27_ n28_ n29_ n30_ n31_
      clear hb hbox hg
      obtain ⟨Ao184, co184, eo184⟩ := Kd.R_slice HO386.out
      (first | subst eo184 | (injection eo184 with f1_ f2_ f3_; have f4_ := f1_.symm; have f5_ := f3_.symm; clear f1_ f2_ f3_; subst f4_; subst f5_))
      obtain ⟨Ao185, co185, eo185⟩ := Kd.R_slice HO389.out
      (first | subst eo185 | (injection eo185 with f1_ f2_ f3_; have f4_ := f1_.symm; have f5_ := f3_.symm; clear f1_ f2_ f3_; subst f4_; subst f5_))
      obtain ⟨Ao186, co186, eo186⟩ := Kd.R_slice HO399.out
      (first | subst eo186 | (injection eo186 with f1_ f2_ f3_; have f4_ := f1_.symm; have f5_ := f3_.symm; clear f1_ f2_ f3_; subst f4_; subst f5_))
      refine hK.out _ _ ⟨(blk_cell BK301.out 0).trans rfl, (blk_cell BK301.out 1).trans rfl, (blk_cell BK302.out 0).trans rfl, (blk_cell BK302.out 1).trans rfl, (blk_cell BK302.out 2).trans rfl, (blk_cell BK302.out 3).trans rfl, (blk_cell BK302.out 4).trans rfl, (blk_cell BK302.out 5).trans rfl, (blk_cell BK302.out 6).trans rfl, (blk_cell BK302.out 7).trans rfl⟩ (fun hHeld => ?_)
      clear hK K
      refine norm_ (a' := ?_) ?_ ?_
      rotate_left
      ·show Act.put _ (some 15) _ = _
       simp only [pS]
       rfl
      refine one_ (i := 4) (N := some 99) #[T, T, T, T, T, F, F, F, T, F, F] rfl rfl (one_of HT_.out (by kernel_rfl)) (by decide) (fun K hK => ?_)
      refine goes_ Try.func57 (by kernel_rfl) rfl #[.agg #[.slice Ao184 t384.length co184, .slice Ao185 t387.length co185], .agg #[.int .i64 t390, .int .i64 t391, .int .i64 t392, .int .i64 t393, .int .i64 t394, .int .i64 t395, .int .i64 t396, .slice Ao186 t397.length co186]] (by rfl) rfl rfl (by (try simp only [List.map_toArray, List.map_cons, List.map_nil]); first | done | rfl) ?_
      with_reducible refine (impl_ReturnCredits.calls kj111 _ _ t384 _ _ t387 t390 t391 t392 t393 t394 t395 t396 _ _ t397 t400 t403 t406 _ ?side1 ?side2 ?side3 ?side4 ?side5 ?side6 A169.out).mono ?_
      (case side1 => exact cY ((Kd.R_reads' HO386.out).2.2))
      (case side2 => exact (Kd.R_reads' HO386.out).2.1)
      (case side3 => exact cY ((Kd.R_reads' HO389.out).2.2))
      (case side4 => exact (Kd.R_reads' HO389.out).2.1)
      (case side5 => exact cY ((Kd.R_reads' HO399.out).2.2))
      (case side6 => exact (Kd.R_reads' HO399.out).2.1)
      rintro e w187 ⟨v401, v404, rfl, ho0, ho1, hb⟩
      refine ⟨_, rfl, ?_⟩
      have n0_ := Aside0.mk (Kd.R_mono (Kd.R_told (Kd.R_told (Kd.R_old (rY HO_329000.out) hb) (Kd.R_base ho0)) (Kd.R_base ho1)) (fun _ h_ => h_.1))
      have n1_ := Aside0.mk (Kd.R_mono (Kd.R_told (Kd.R_told (Kd.R_old (rY HO_329001.out) hb) (Kd.R_base ho0)) (Kd.R_base ho1)) (fun _ h_ => h_.1))
      have n2_ := Aside0.mk (Kd.R_mono (Kd.R_told (Kd.R_told (Kd.R_old (rY HO_336000.out) hb) (Kd.R_base ho0)) (Kd.R_base ho1)) (fun _ h_ => h_.1))
      have n3_ := Aside0.mk (Kd.R_mono (Kd.R_told (Kd.R_told (Kd.R_old (rY HO_336001.out) hb) (Kd.R_base ho0)) (Kd.R_base ho1)) (fun _ h_ => h_.1))
      have n4_ := Aside0.mk (Kd.R_mono (Kd.R_told (Kd.R_told (Kd.R_old (rY HO_347007.out) hb) (Kd.R_base ho0)) (Kd.R_base ho1)) (fun _ h_ => h_.1))
      have n5_ := Aside0.mk (Kd.R_mono (Kd.R_told (Kd.R_told (Kd.R_old (rY HO_355000.out) hb) (Kd.R_base ho0)) (Kd.R_base ho1)) (fun _ h_ => h_.1))
      have n6_ := Aside0.mk (Kd.R_mono (Kd.R_told (Kd.R_told (Kd.R_old (rY HO_355001.out) hb) (Kd.R_base ho0)) (Kd.R_base ho1)) (fun _ h_ => h_.1))
      have n7_ := Aside0.mk (Kd.R_mono (Kd.R_told (Kd.R_told (Kd.R_old (rY HO386.out) hb) (Kd.R_base ho0)) (Kd.R_base ho1)) (fun _ h_ => h_.1))
      have n8_ := Aside0.mk (Kd.R_mono (Kd.R_told (Kd.R_told (Kd.R_old (rY HO389.out) hb) (Kd.R_base ho0)) (Kd.R_base ho1)) (fun _ h_ => h_.1))
      have n9_ := Aside0.mk (Kd.R_mono (Kd.R_told (Kd.R_told (Kd.R_old (rY HO399.out) hb) (Kd.R_base ho0)) (Kd.R_base ho1)) (fun _ h_ => h_.1))
      have n10_ := Aside0.mk (Kd.R_lower (Kd.R_new' (Kd.R_new' (Kd.R_new' (Kd.R_new' (Kd.R_new' (Kd.R_new' (Kd.R_new' (Kd.R_new' (Kd.R_new' (Kd.R_new' ho0 (Kd.R_lt (rY HO_329000.out))) (Kd.R_lt (rY HO_329001.out))) (Kd.R_lt (rY HO_336000.out))) (Kd.R_lt (rY HO_336001.out))) (Kd.R_lt (rY HO_347007.out))) (Kd.R_lt (rY HO_355000.out))) (Kd.R_lt (rY HO_355001.out))) (Kd.R_lt (rY HO386.out))) (Kd.R_lt (rY HO389.out))) (Kd.R_lt (rY HO399.out))) (below_size (by repeat (first | (with_reducible first | exact HB.out | apply below_alloc | apply pw_below_drewN | apply below_drew1 | refine below_set ?_ GE301.out | refine below_set ?_ GE302.out | refine below_set ?_ GE328.out | refine below_set ?_ GE335.out | refine below_set ?_ GE346.out | refine below_set ?_ GE354.out | refine below_set ?_ GE407.out) | exact HB.out))))
      have n11_ := Aside0.mk (Kd.R_lower (Kd.R_new' (Kd.R_new' (Kd.R_new' (Kd.R_new' (Kd.R_new' (Kd.R_new' (Kd.R_new' (Kd.R_new' (Kd.R_new' (Kd.R_new' ho1 (Kd.R_lt (rY HO_329000.out))) (Kd.R_lt (rY HO_329001.out))) (Kd.R_lt (rY HO_336000.out))) (Kd.R_lt (rY HO_336001.out))) (Kd.R_lt (rY HO_347007.out))) (Kd.R_lt (rY HO_355000.out))) (Kd.R_lt (rY HO_355001.out))) (Kd.R_lt (rY HO386.out))) (Kd.R_lt (rY HO389.out))) (Kd.R_lt (rY HO399.out))) (below_size (by repeat (first | (with_reducible first | exact HB.out | apply below_alloc | apply pw_below_drewN | apply below_drew1 | refine below_set ?_ GE301.out | refine below_set ?_ GE302.out | refine below_set ?_ GE328.out | refine below_set ?_ GE335.out | refine below_set ?_ GE346.out | refine below_set ?_ GE354.out | refine below_set ?_ GE407.out) | exact HB.out))))
      have n12_ := Aside0.mk (blk_below (bY BK301.out) hb)
      have n13_ := Aside0.mk (blk_below (bY BK302.out) hb)
      have n14_ := Aside0.mk (blk_below (bY BK328.out) hb)
      have n15_ := Aside0.mk (blk_below (bY BK335.out) hb)
      have n16_ := Aside0.mk (blk_below (bY BK346.out) hb)
      have n17_ := Aside0.mk (blk_below (bY BK354.out) hb)
      have n18_ := Aside0.mk (blk_below (bY BK407.out) hb)
      have n19_ := Aside0.mk (below_step (by repeat (first | (with_reducible first | exact HB.out | apply below_alloc | apply pw_below_drewN | apply below_drew1 | refine below_set ?_ GE301.out | refine below_set ?_ GE302.out | refine below_set ?_ GE328.out | refine below_set ?_ GE335.out | refine below_set ?_ GE346.out | refine below_set ?_ GE354.out | refine below_set ?_ GE407.out) | exact HB.out)) hb)
      clear HO_329000
      clear HO_329001
      clear HO_336000
      clear HO_336001
      clear HO_347007
      clear HO_355000
      clear HO_355001
      clear HO386
      clear HO389
      clear HO399
      clear BK301
      clear BK302
      clear BK328
      clear BK335
      clear BK346
      clear BK354
      clear BK407
      clear HB
      have HO_329000 := n0_
      have HO_329001 := n1_
      have HO_336000 := n2_
      have HO_336001 := n3_
      have HO_347007 := n4_
      have HO_355000 := n5_
      have HO_355001 := n6_
      have HO386 := n7_
      have HO389 := n8_
      have HO399 := n9_
      have HO402 := n10_
      have HO405 := n11_
      have BK301 := n12_
      have BK302 := n13_
      have BK328 := n14_
      have BK335 := n15_
      have BK346 := n16_
      have BK354 := n17_
      have BK407 := n18_
      have HB := n19_
      clear n0_ n1_ n2_ n3_ n4_ n5_ n6_ n7_ n8_ n9_ n10_ n11_ n12_ n13_ n14_ n15_ n16_ n17_ n18_ n19_
      refine hK.out _ _ ⟨(blk_cell BK301.out 0).trans rfl, (blk_cell BK301.out 1).trans rfl, (blk_cell BK302.out 0).trans rfl, (blk_cell BK302.out 1).trans rfl, (blk_cell BK302.out 2).trans rfl, (blk_cell BK302.out 3).trans rfl, (blk_cell BK302.out 4).trans rfl, (blk_cell BK302.out 5).trans rfl, (blk_cell BK302.out 6).trans rfl, (blk_cell BK302.out 7).trans rfl⟩ (fun hHeld => ?_)
      clear hK K
      refine norm_ (a' := ?_) ?_ ?_
      rotate_left
      ·show Act.put _ (some 99) _ = _
       simp only [pS]
       rfl
      refine pure_ (i := 5) (N := some 94) (v := ?_) (a' := ?_) #[T, T, T, T, T, T, F, F, T, F, F] rfl rfl (any_of HT_.out (by kernel_rfl)) (fun _ _ _ h => h) (Or.inl ⟨by rfl, ?_⟩) ?_ ?_
      rotate_left
      ·intro w'
       go_simp
       with_reducible rfl
      rotate_left
      ·simp only [pS]
       rfl
      refine pure_ (i := 6) (N := some 100) (v := ?_) (a' := ?_) #[T, T, T, T, T, T, T, F, T, F, F] rfl rfl (any_of HT_.out (by kernel_rfl)) (fun _ _ _ h => h) (Or.inl ⟨by rfl, ?_⟩) ?_ ?_
      rotate_left
      ·intro w'
       go_simp
       with_reducible rfl
      rotate_left
      ·simp only [pS]
       rfl
      refine pure_ (i := 7) (N := some 101) (v := ?_) (a' := ?_) #[T, T, T, T, T, T, T, T, T, F, F] rfl rfl (any_of HT_.out (by kernel_rfl)) (fun _ _ _ h => h) (Or.inl ⟨by rfl, ?_⟩) ?_ ?_
      rotate_left
      ·intro w'
       go_simp
       with_reducible rfl
      rotate_left
      ·simp only [pS]
       rfl
      exact norm_ (by simp only [putAll, Act.put, List.setIfInBounds_toArray, List.set_cons_zero, List.set_cons_succ]) (hCont (.slice Ao184 t384.length co184, .slice Ao185 t387.length co185, .slice Ao186 t397.length co186, v401, v404, gb407) _ ⟨hHeld, (by (repeat apply rX); exact Kd.R_mono HO386.out (fun _ hk => ⟨hk.1.1.1.1.1.1.1.1.1.1, ⟨hk.1.1.2, ⟨hk.1.2, ⟨hk.2, ⟨hk.1.1.1.1.1.1.1.1.1.2, ⟨hk.1.1.1.1.1.1.1.1.2, ⟨hk.1.1.1.1.1.1.1.2, ⟨hk.1.1.1.1.1.1.2, ⟨hk.1.1.1.1.1.2, ⟨hk.1.1.1.1.2, hk.1.1.1.2⟩⟩⟩⟩⟩⟩⟩⟩⟩⟩)), (by (repeat apply rX); exact Kd.R_mono HO389.out (fun _ hk => ⟨hk.1.1.1.1.1.1.1.1.1.1, ⟨hk.1.1.2, ⟨hk.1.2, ⟨hk.2, ⟨hk.1.1.1.1.1.1.1.1.1.2, ⟨hk.1.1.1.1.1.1.1.1.2, ⟨hk.1.1.1.1.1.1.1.2, ⟨hk.1.1.1.1.1.1.2, ⟨hk.1.1.1.1.1.2, ⟨hk.1.1.1.1.2, hk.1.1.1.2⟩⟩⟩⟩⟩⟩⟩⟩⟩⟩)), (by (repeat apply rX); exact Kd.R_mono HO399.out (fun _ hk => ⟨hk.1.1.1.2, ⟨hk.1.1.2, ⟨hk.1.2, ⟨hk.2, ⟨hk.1.1.1.1.1.1.1.1.1.1.2, ⟨hk.1.1.1.1.1.1.1.1.1.2, ⟨hk.1.1.1.1.1.1.1.1.2, ⟨hk.1.1.1.1.1.1.1.2, ⟨hk.1.1.1.1.1.1.2, ⟨hk.1.1.1.1.1.2, hk.1.1.1.1.2⟩⟩⟩⟩⟩⟩⟩⟩⟩⟩)), (by (repeat apply rX); exact Kd.R_mono HO402.out (fun _ hk => ⟨hk.1.1.2, ⟨hk.1.2, ⟨hk.2, ⟨hk.1.1.1.1.1.1.1.1.1.1, ⟨hk.1.1.1.1.1.1.1.1.1.2, ⟨hk.1.1.1.1.1.1.1.1.2, ⟨hk.1.1.1.1.1.1.1.2, ⟨hk.1.1.1.1.1.1.2, ⟨hk.1.1.1.1.1.2, ⟨hk.1.1.1.1.2, hk.1.1.1.2⟩⟩⟩⟩⟩⟩⟩⟩⟩⟩)), (by (repeat apply rX); exact Kd.R_mono HO405.out (fun _ hk => ⟨hk.1.1.2, ⟨hk.1.2, ⟨hk.2, ⟨hk.1.1.1.1.1.1.1.1.1.1, ⟨hk.1.1.1.1.1.1.1.1.1.2, ⟨hk.1.1.1.1.1.1.1.1.2, ⟨hk.1.1.1.1.1.1.1.2, ⟨hk.1.1.1.1.1.1.2, ⟨hk.1.1.1.1.1.2, ⟨hk.1.1.1.1.2, hk.1.1.1.2⟩⟩⟩⟩⟩⟩⟩⟩⟩⟩)), (by (repeat apply rX); exact Kd.R_mono HO_329000.out (fun _ hk => ⟨hk.1.1.1.1.2, ⟨hk.1.1.1.2, ⟨hk.1.1.2, ⟨hk.1.2, ⟨hk.2, ⟨hk.1.1.1.1.1.1, ⟨hk.1.1.1.1.1.2.1, ⟨hk.1.1.1.1.1.2.2.1, ⟨hk.1.1.1.1.1.2.2.2.1, ⟨hk.1.1.1.1.1.2.2.2.2.1, hk.1.1.1.1.1.2.2.2.2.2⟩⟩⟩⟩⟩⟩⟩⟩⟩⟩)), (by (repeat apply rX); exact Kd.R_mono HO_329001.out (fun _ hk => ⟨hk.1.1.1.1.2, ⟨hk.1.1.1.2, ⟨hk.1.1.2, ⟨hk.1.2, ⟨hk.2, ⟨hk.1.1.1.1.1.1, ⟨hk.1.1.1.1.1.2.1, ⟨hk.1.1.1.1.1.2.2.1, ⟨hk.1.1.1.1.1.2.2.2.1, ⟨hk.1.1.1.1.1.2.2.2.2.1, hk.1.1.1.1.1.2.2.2.2.2⟩⟩⟩⟩⟩⟩⟩⟩⟩⟩)), (by (repeat apply rX); exact Kd.R_mono HO_336000.out (fun _ hk => ⟨hk.1.1.1.1.2, ⟨hk.1.1.1.2, ⟨hk.1.1.2, ⟨hk.1.2, ⟨hk.2, ⟨hk.1.1.1.1.1.1, ⟨hk.1.1.1.1.1.2.1, ⟨hk.1.1.1.1.1.2.2.1, ⟨hk.1.1.1.1.1.2.2.2.1, ⟨hk.1.1.1.1.1.2.2.2.2.1, hk.1.1.1.1.1.2.2.2.2.2⟩⟩⟩⟩⟩⟩⟩⟩⟩⟩)), (by (repeat apply rX); exact Kd.R_mono HO_336001.out (fun _ hk => ⟨hk.1.1.1.1.2, ⟨hk.1.1.1.2, ⟨hk.1.1.2, ⟨hk.1.2, ⟨hk.2, ⟨hk.1.1.1.1.1.1, ⟨hk.1.1.1.1.1.2.1, ⟨hk.1.1.1.1.1.2.2.1, ⟨hk.1.1.1.1.1.2.2.2.1, ⟨hk.1.1.1.1.1.2.2.2.2.1, hk.1.1.1.1.1.2.2.2.2.2⟩⟩⟩⟩⟩⟩⟩⟩⟩⟩)), (by (repeat apply rX); exact Kd.R_mono HO_347007.out (fun _ hk => ⟨hk.1.1.1.1.2, ⟨hk.1.1.1.2, ⟨hk.1.1.2, ⟨hk.1.2, ⟨hk.2, ⟨hk.1.1.1.1.1.1, ⟨hk.1.1.1.1.1.2.1, ⟨hk.1.1.1.1.1.2.2.1, ⟨hk.1.1.1.1.1.2.2.2.1, ⟨hk.1.1.1.1.1.2.2.2.2.1, hk.1.1.1.1.1.2.2.2.2.2⟩⟩⟩⟩⟩⟩⟩⟩⟩⟩)), (by (repeat apply rX); exact Kd.R_mono HO_355000.out (fun _ hk => ⟨hk.1.1.1.1.2, ⟨hk.1.1.1.2, ⟨hk.1.1.2, ⟨hk.1.2, ⟨hk.2, ⟨hk.1.1.1.1.1.1, ⟨hk.1.1.1.1.1.2.1, ⟨hk.1.1.1.1.1.2.2.1, ⟨hk.1.1.1.1.1.2.2.2.1, ⟨hk.1.1.1.1.1.2.2.2.2.1, hk.1.1.1.1.1.2.2.2.2.2⟩⟩⟩⟩⟩⟩⟩⟩⟩⟩)), (by (repeat apply rX); exact Kd.R_mono HO_355001.out (fun _ hk => ⟨hk.1.1.1.1.2, ⟨hk.1.1.1.2, ⟨hk.1.1.2, ⟨hk.1.2, ⟨hk.2, ⟨hk.1.1.1.1.1.1, ⟨hk.1.1.1.1.1.2.1, ⟨hk.1.1.1.1.1.2.2.1, ⟨hk.1.1.1.1.1.2.2.2.1, ⟨hk.1.1.1.1.1.2.2.2.2.1, hk.1.1.1.1.1.2.2.2.2.2⟩⟩⟩⟩⟩⟩⟩⟩⟩⟩)), (bY BK301.out), (bY BK302.out), (bY BK328.out), (bY BK335.out), (bY BK346.out), (bY BK354.out), (bY BK407.out), GW407.out, GE407.out, NB301_407.out, NB407_301.out, NB302_407.out, NB407_302.out, NB328_407.out, NB407_328.out, NB335_407.out, NB407_335.out, NB346_407.out, NB407_346.out, NB354_407.out, NB407_354.out, (by repeat (first | (with_reducible first | exact HB.out | apply below_alloc | apply pw_below_drewN | apply below_drew1 | refine below_set ?_ GE301.out | refine below_set ?_ GE302.out | refine below_set ?_ GE328.out | refine below_set ?_ GE335.out | refine below_set ?_ GE346.out | refine below_set ?_ GE354.out | refine below_set ?_ GE407.out) | exact HB.out))⟩)
    ·skip
     refine box_step ?hg (N := 15) ?hd (cs := #[.slice none 0 0, .slice none 0 0]) (t := 27) ?hr ?_; (case hd => rfl); (case hg => rfl); (case hr => first | (go_simp; done) | (go_simp; rfl))
     intro gb407 hg w182 hbox hb
     have n0_ := Aside0.mk (Kd.R_below (rY HO_329000.out) hb)
     have n1_ := Aside0.mk (Kd.R_below (rY HO_329001.out) hb)
     have n2_ := Aside0.mk (Kd.R_below (rY HO_336000.out) hb)
     have n3_ := Aside0.mk (Kd.R_below (rY HO_336001.out) hb)
     have n4_ := Aside0.mk (Kd.R_below (rY HO_347007.out) hb)
     have n5_ := Aside0.mk (Kd.R_below (rY HO_355000.out) hb)
     have n6_ := Aside0.mk (Kd.R_below (rY HO_355001.out) hb)
     have n7_ := Aside0.mk (Kd.R_below (rY HO386.out) hb)
     have n8_ := Aside0.mk (Kd.R_below (rY HO389.out) hb)
     have n9_ := Aside0.mk (blk_below (bY BK301.out) hb)
     have n10_ := Aside0.mk (blk_below (bY BK302.out) hb)
     have n11_ := Aside0.mk (blk_below (bY BK328.out) hb)
     have n12_ := Aside0.mk (blk_below (bY BK335.out) hb)
     have n13_ := Aside0.mk (blk_below (bY BK346.out) hb)
     have n14_ := Aside0.mk (blk_below (bY BK354.out) hb)
     have n15_ := Aside0.mk (below_step (by repeat (first | (with_reducible first | exact HB.out | apply below_alloc | apply pw_below_drewN | apply below_drew1 | refine below_set ?_ GE301.out | refine below_set ?_ GE302.out | refine below_set ?_ GE328.out | refine below_set ?_ GE335.out | refine below_set ?_ GE346.out | refine below_set ?_ GE354.out) | exact HB.out)) hb)
     have n16_ := Aside0.mk (hbox)
     have n17_ := Aside0.mk ((by rw [hg]; exact (below_size (by repeat (first | (with_reducible first | exact HB.out | apply below_alloc | apply pw_below_drewN | apply below_drew1 | refine below_set ?_ GE301.out | refine below_set ?_ GE302.out | refine below_set ?_ GE328.out | refine below_set ?_ GE335.out | refine below_set ?_ GE346.out | refine below_set ?_ GE354.out) | exact HB.out))) : w.heap.size ≤ gb407))
     have n18_ := Aside0.mk ((by rw [hg]; exact (below_size (by repeat (first | (with_reducible first | exact HB.out | apply below_alloc | apply pw_below_drewN | apply below_drew1 | refine below_set ?_ GE301.out | refine below_set ?_ GE302.out | refine below_set ?_ GE328.out | refine below_set ?_ GE335.out | refine below_set ?_ GE346.out | refine below_set ?_ GE354.out) | exact HB.out))) : w.heap.size ≤ gb407))
     have n19_ := Aside0.mk ((by rw [hg]; exact Nat.ne_of_lt (blk_lt (bY BK301.out)) : gb301 ≠ gb407))
     have n20_ := Aside0.mk ((by rw [hg]; exact Nat.ne_of_gt (blk_lt (bY BK301.out)) : gb407 ≠ gb301))
     have n21_ := Aside0.mk ((by rw [hg]; exact Nat.ne_of_lt (blk_lt (bY BK302.out)) : gb302 ≠ gb407))
     have n22_ := Aside0.mk ((by rw [hg]; exact Nat.ne_of_gt (blk_lt (bY BK302.out)) : gb407 ≠ gb302))
     have n23_ := Aside0.mk ((by rw [hg]; exact Nat.ne_of_lt (blk_lt (bY BK328.out)) : gb328 ≠ gb407))
     have n24_ := Aside0.mk ((by rw [hg]; exact Nat.ne_of_gt (blk_lt (bY BK328.out)) : gb407 ≠ gb328))
     have n25_ := Aside0.mk ((by rw [hg]; exact Nat.ne_of_lt (blk_lt (bY BK335.out)) : gb335 ≠ gb407))
     have n26_ := Aside0.mk ((by rw [hg]; exact Nat.ne_of_gt (blk_lt (bY BK335.out)) : gb407 ≠ gb335))
     have n27_ := Aside0.mk ((by rw [hg]; exact Nat.ne_of_lt (blk_lt (bY BK346.out)) : gb346 ≠ gb407))
     have n28_ := Aside0.mk ((by rw [hg]; exact Nat.ne_of_gt (blk_lt (bY BK346.out)) : gb407 ≠ gb346))
     have n29_ := Aside0.mk ((by rw [hg]; exact Nat.ne_of_lt (blk_lt (bY BK354.out)) : gb354 ≠ gb407))
     have n30_ := Aside0.mk ((by rw [hg]; exact Nat.ne_of_gt (blk_lt (bY BK354.out)) : gb407 ≠ gb354))
     clear HO_329000
     clear HO_329001
     clear HO_336000
     clear HO_336001
     clear HO_347007
     clear HO_355000
     clear HO_355001
     clear HO386
     clear HO389
     clear BK301
     clear BK302
     clear BK328
     clear BK335
     clear BK346
     clear BK354
     clear HB
     have HO_329000 := n0_
     have HO_329001 := n1_
     have HO_336000 := n2_
     have HO_336001 := n3_
     have HO_347007 := n4_
     have HO_355000 := n5_
     have HO_355001 := n6_
     have HO386 := n7_
     have HO389 := n8_
     have BK301 := n9_
     have BK302 := n10_
     have BK328 := n11_
     have BK335 := n12_
     have BK346 := n13_
     have BK354 := n14_
     have HB := n15_
     have BK407 := n16_
     have GW407 := n17_
     have GE407 := n18_
     have NB301_407 := n19_
     have NB407_301 := n20_
     have NB302_407 := n21_
     have NB407_302 := n22_
     have NB328_407 := n23_
     have NB407_328 := n24_
     have NB335_407 := n25_
     have NB407_335 := n26_
     have NB346_407 := n27_
     have NB407_346 := n28_
     have NB354_407 := n29_
     have NB407_354 := n30_
     clear n0_ n1_ n2_ n3_ n4_ n5_ n6_ n7_ n8_ n9_ n10_ n11_ n12_ n13_ n14_ n15_ n16_ n17_ n18_ n19_ n20_ n21_ n22_ n23_ n24_ n25_ n26_ n27_ n28_ n29_ n30_
     clear hb hbox hg
     refine hK.out _ _ ⟨(blk_cell BK301.out 0).trans rfl, (blk_cell BK301.out 1).trans rfl, (blk_cell BK302.out 0).trans rfl, (blk_cell BK302.out 1).trans rfl, (blk_cell BK302.out 2).trans rfl, (blk_cell BK302.out 3).trans rfl, (blk_cell BK302.out 4).trans rfl, (blk_cell BK302.out 5).trans rfl, (blk_cell BK302.out 6).trans rfl, (blk_cell BK302.out 7).trans rfl⟩ (fun hHeld => ?_)
     clear hK K
     refine norm_ (a' := ?_) ?_ ?_
     rotate_left
     ·show Act.put _ (some 15) _ = _
      simp only [pS]
      rfl
     refine one_ (i := 3) (N := some 98) #[T, T, T, T, F, F, F, F, T, F, F] rfl rfl (one_of HT_.out (by kernel_rfl)) (by decide) (fun K hK => ?_)
     refine goes_ Try.func22 (by kernel_rfl) rfl #[.agg #[.int .i64 a1_0, .int .i64 a1_1, .int .i64 a1_2, .int .i64 a1_3, .int .i64 a1_4, .int .i64 a1_5, .int .i64 a1_6, .slice A1_7 l1_7.length c1_7]] (by rfl) rfl rfl (by (try simp only [List.map_toArray, List.map_cons, List.map_nil]); first | done | rfl) ?_
     with_reducible refine (laws_toPacket.calls kj111 a1_0 a1_1 a1_2 a1_3 a1_4 a1_5 a1_6 _ _ l1_7 t390 t391 t392 t393 t394 t395 t396 t397 _ ?side1 ?side2 A168.out).mono ?_
     (case side1 => exact cY ((Kd.C_below HR1_7.out HB.out)))
     (case side2 => exact HC1_7.out)
     rintro e w183 ⟨v398, rfl, ho0, hb⟩
     refine ⟨_, rfl, ?_⟩
     have n0_ := Aside0.mk (Kd.R_elder' (rY HO_329000.out) (Kd.R_base ho0) hb)
     have n1_ := Aside0.mk (Kd.R_elder' (rY HO_329001.out) (Kd.R_base ho0) hb)
     have n2_ := Aside0.mk (Kd.R_elder' (rY HO_336000.out) (Kd.R_base ho0) hb)
     have n3_ := Aside0.mk (Kd.R_elder' (rY HO_336001.out) (Kd.R_base ho0) hb)
     have n4_ := Aside0.mk (Kd.R_elder' (rY HO_347007.out) (Kd.R_base ho0) hb)
     have n5_ := Aside0.mk (Kd.R_elder' (rY HO_355000.out) (Kd.R_base ho0) hb)
     have n6_ := Aside0.mk (Kd.R_elder' (rY HO_355001.out) (Kd.R_base ho0) hb)
     have n7_ := Aside0.mk (Kd.R_elder' (rY HO386.out) (Kd.R_base ho0) hb)
     have n8_ := Aside0.mk (Kd.R_elder' (rY HO389.out) (Kd.R_base ho0) hb)
     have n9_ := Aside0.mk (Kd.R_lower (Kd.R_new' (Kd.R_new' (Kd.R_new' (Kd.R_new' (Kd.R_new' (Kd.R_new' (Kd.R_new' (Kd.R_new' (Kd.R_new' ho0 (Kd.R_lt (rY HO_329000.out))) (Kd.R_lt (rY HO_329001.out))) (Kd.R_lt (rY HO_336000.out))) (Kd.R_lt (rY HO_336001.out))) (Kd.R_lt (rY HO_347007.out))) (Kd.R_lt (rY HO_355000.out))) (Kd.R_lt (rY HO_355001.out))) (Kd.R_lt (rY HO386.out))) (Kd.R_lt (rY HO389.out))) (below_size (by repeat (first | (with_reducible first | exact HB.out | apply below_alloc | apply pw_below_drewN | apply below_drew1 | refine below_set ?_ GE301.out | refine below_set ?_ GE302.out | refine below_set ?_ GE328.out | refine below_set ?_ GE335.out | refine below_set ?_ GE346.out | refine below_set ?_ GE354.out | refine below_set ?_ GE407.out) | exact HB.out))))
     have n10_ := Aside0.mk (blk_below (bY BK301.out) hb)
     have n11_ := Aside0.mk (blk_below (bY BK302.out) hb)
     have n12_ := Aside0.mk (blk_below (bY BK328.out) hb)
     have n13_ := Aside0.mk (blk_below (bY BK335.out) hb)
     have n14_ := Aside0.mk (blk_below (bY BK346.out) hb)
     have n15_ := Aside0.mk (blk_below (bY BK354.out) hb)
     have n16_ := Aside0.mk (blk_below (bY BK407.out) hb)
     have n17_ := Aside0.mk (below_step (by repeat (first | (with_reducible first | exact HB.out | apply below_alloc | apply pw_below_drewN | apply below_drew1 | refine below_set ?_ GE301.out | refine below_set ?_ GE302.out | refine below_set ?_ GE328.out | refine below_set ?_ GE335.out | refine below_set ?_ GE346.out | refine below_set ?_ GE354.out | refine below_set ?_ GE407.out) | exact HB.out)) hb)
     clear HO_329000
     clear HO_329001
     clear HO_336000
     clear HO_336001
     clear HO_347007
     clear HO_355000
     clear HO_355001
     clear HO386
     clear HO389
     clear BK301
     clear BK302
     clear BK328
     clear BK335
     clear BK346
     clear BK354
     clear BK407
     clear HB
     have HO_329000 := n0_
     have HO_329001 := n1_
     have HO_336000 := n2_
     have HO_336001 := n3_
     have HO_347007 := n4_
     have HO_355000 := n5_
     have HO_355001 := n6_
     have HO386 := n7_
     have HO389 := n8_
     have HO399 := n9_
     have BK301 := n10_
     have BK302 := n11_
     have BK328 := n12_
     have BK335 := n13_
     have BK346 := n14_
     have BK354 := n15_
     have BK407 := n16_
     have HB := n17_
     clear n0_ n1_ n2_ n3_ n4_ n5_ n6_ n7_ n8_ n9_ n10_ n11_ n12_ n13_ n14_ n15_ n16_ n17_
     obtain ⟨Ao184, co184, eo184⟩ := Kd.R_slice HO386.out
     (first | subst eo184 | (injection eo184 with f1_ f2_ f3_; have f4_ := f1_.symm; have f5_ := f3_.symm; clear f1_ f2_ f3_; subst f4_; subst f5_))
     obtain ⟨Ao185, co185, eo185⟩ := Kd.R_slice HO389.out
     (first | subst eo185 | (injection eo185 with f1_ f2_ f3_; have f4_ := f1_.symm; have f5_ := f3_.symm; clear f1_ f2_ f3_; subst f4_; subst f5_))
     obtain ⟨Ao186, co186, eo186⟩ := Kd.R_slice HO399.out
     (first | subst eo186 | (injection eo186 with f1_ f2_ f3_; have f4_ := f1_.symm; have f5_ := f3_.symm; clear f1_ f2_ f3_; subst f4_; subst f5_))
     refine hK.out _ _ ⟨(blk_cell BK301.out 0).trans rfl, (blk_cell BK301.out 1).trans rfl, (blk_cell BK302.out 0).trans rfl, (blk_cell BK302.out 1).trans rfl, (blk_cell BK302.out 2).trans rfl, (blk_cell BK302.out 3).trans rfl, (blk_cell BK302.out 4).trans rfl, (blk_cell BK302.out 5).trans rfl, (blk_cell BK302.out 6).trans rfl, (blk_cell BK302.out 7).trans rfl⟩ (fun hHeld => ?_)
     clear hK K
     refine norm_ (a' := ?_) ?_ ?_
     rotate_left
     ·show Act.put _ (some 98) _ = _
      simp only [pS]
      rfl
     refine one_ (i := 4) (N := some 99) #[T, T, T, T, T, F, F, F, T, F, F] rfl rfl (one_of HT_.out (by kernel_rfl)) (by decide) (fun K hK => ?_)
     refine goes_ Try.func57 (by kernel_rfl) rfl #[.agg #[.slice Ao184 t384.length co184, .slice Ao185 t387.length co185], .agg #[.int .i64 t390, .int .i64 t391, .int .i64 t392, .int .i64 t393, .int .i64 t394, .int .i64 t395, .int .i64 t396, .slice Ao186 t397.length co186]] (by rfl) rfl rfl (by (try simp only [List.map_toArray, List.map_cons, List.map_nil]); first | done | rfl) ?_
     with_reducible refine (impl_ReturnCredits.calls kj111 _ _ t384 _ _ t387 t390 t391 t392 t393 t394 t395 t396 _ _ t397 t400 t403 t406 _ ?side1 ?side2 ?side3 ?side4 ?side5 ?side6 A169.out).mono ?_
     (case side1 => exact cY ((Kd.R_reads' HO386.out).2.2))
     (case side2 => exact (Kd.R_reads' HO386.out).2.1)
     (case side3 => exact cY ((Kd.R_reads' HO389.out).2.2))
     (case side4 => exact (Kd.R_reads' HO389.out).2.1)
     (case side5 => exact cY ((Kd.R_reads' HO399.out).2.2))
     (case side6 => exact (Kd.R_reads' HO399.out).2.1)
     rintro e w187 ⟨v401, v404, rfl, ho0, ho1, hb⟩
     refine ⟨_, rfl, ?_⟩
     have n0_ := Aside0.mk (Kd.R_mono (Kd.R_told (Kd.R_told (Kd.R_old (rY HO_329000.out) hb) (Kd.R_base ho0)) (Kd.R_base ho1)) (fun _ h_ => h_.1))
     have n1_ := Aside0.mk (Kd.R_mono (Kd.R_told (Kd.R_told (Kd.R_old (rY HO_329001.out) hb) (Kd.R_base ho0)) (Kd.R_base ho1)) (fun _ h_ => h_.1))
     have n2_ := Aside0.mk (Kd.R_mono (Kd.R_told (Kd.R_told (Kd.R_old (rY HO_336000.out) hb) (Kd.R_base ho0)) (Kd.R_base ho1)) (fun _ h_ => h_.1))
     have n3_ := Aside0.mk (Kd.R_mono (Kd.R_told (Kd.R_told (Kd.R_old (rY HO_336001.out) hb) (Kd.R_base ho0)) (Kd.R_base ho1)) (fun _ h_ => h_.1))
     have n4_ := Aside0.mk (Kd.R_mono (Kd.R_told (Kd.R_told (Kd.R_old (rY HO_347007.out) hb) (Kd.R_base ho0)) (Kd.R_base ho1)) (fun _ h_ => h_.1))
     have n5_ := Aside0.mk (Kd.R_mono (Kd.R_told (Kd.R_told (Kd.R_old (rY HO_355000.out) hb) (Kd.R_base ho0)) (Kd.R_base ho1)) (fun _ h_ => h_.1))
     have n6_ := Aside0.mk (Kd.R_mono (Kd.R_told (Kd.R_told (Kd.R_old (rY HO_355001.out) hb) (Kd.R_base ho0)) (Kd.R_base ho1)) (fun _ h_ => h_.1))
     have n7_ := Aside0.mk (Kd.R_mono (Kd.R_told (Kd.R_told (Kd.R_old (rY HO386.out) hb) (Kd.R_base ho0)) (Kd.R_base ho1)) (fun _ h_ => h_.1))
     have n8_ := Aside0.mk (Kd.R_mono (Kd.R_told (Kd.R_told (Kd.R_old (rY HO389.out) hb) (Kd.R_base ho0)) (Kd.R_base ho1)) (fun _ h_ => h_.1))
     have n9_ := Aside0.mk (Kd.R_mono (Kd.R_told (Kd.R_told (Kd.R_old (rY HO399.out) hb) (Kd.R_base ho0)) (Kd.R_base ho1)) (fun _ h_ => h_.1))
     have n10_ := Aside0.mk (Kd.R_lower (Kd.R_new' (Kd.R_new' (Kd.R_new' (Kd.R_new' (Kd.R_new' (Kd.R_new' (Kd.R_new' (Kd.R_new' (Kd.R_new' (Kd.R_new' ho0 (Kd.R_lt (rY HO_329000.out))) (Kd.R_lt (rY HO_329001.out))) (Kd.R_lt (rY HO_336000.out))) (Kd.R_lt (rY HO_336001.out))) (Kd.R_lt (rY HO_347007.out))) (Kd.R_lt (rY HO_355000.out))) (Kd.R_lt (rY HO_355001.out))) (Kd.R_lt (rY HO386.out))) (Kd.R_lt (rY HO389.out))) (Kd.R_lt (rY HO399.out))) (below_size (by repeat (first | (with_reducible first | exact HB.out | apply below_alloc | apply pw_below_drewN | apply below_drew1 | refine below_set ?_ GE301.out | refine below_set ?_ GE302.out | refine below_set ?_ GE328.out | refine below_set ?_ GE335.out | refine below_set ?_ GE346.out | refine below_set ?_ GE354.out | refine below_set ?_ GE407.out) | exact HB.out))))
     have n11_ := Aside0.mk (Kd.R_lower (Kd.R_new' (Kd.R_new' (Kd.R_new' (Kd.R_new' (Kd.R_new' (Kd.R_new' (Kd.R_new' (Kd.R_new' (Kd.R_new' (Kd.R_new' ho1 (Kd.R_lt (rY HO_329000.out))) (Kd.R_lt (rY HO_329001.out))) (Kd.R_lt (rY HO_336000.out))) (Kd.R_lt (rY HO_336001.out))) (Kd.R_lt (rY HO_347007.out))) (Kd.R_lt (rY HO_355000.out))) (Kd.R_lt (rY HO_355001.out))) (Kd.R_lt (rY HO386.out))) (Kd.R_lt (rY HO389.out))) (Kd.R_lt (rY HO399.out))) (below_size (by repeat (first | (with_reducible first | exact HB.out | apply below_alloc | apply pw_below_drewN | apply below_drew1 | refine below_set ?_ GE301.out | refine below_set ?_ GE302.out | refine below_set ?_ GE328.out | refine below_set ?_ GE335.out | refine below_set ?_ GE346.out | refine below_set ?_ GE354.out | refine below_set ?_ GE407.out) | exact HB.out))))
     have n12_ := Aside0.mk (blk_below (bY BK301.out) hb)
     have n13_ := Aside0.mk (blk_below (bY BK302.out) hb)
     have n14_ := Aside0.mk (blk_below (bY BK328.out) hb)
     have n15_ := Aside0.mk (blk_below (bY BK335.out) hb)
     have n16_ := Aside0.mk (blk_below (bY BK346.out) hb)
     have n17_ := Aside0.mk (blk_below (bY BK354.out) hb)
     have n18_ := Aside0.mk (blk_below (bY BK407.out) hb)
     have n19_ := Aside0.mk (below_step (by repeat (first | (with_reducible first | exact HB.out | apply below_alloc | apply pw_below_drewN | apply below_drew1 | refine below_set ?_ GE301.out | refine below_set ?_ GE302.out | refine below_set ?_ GE328.out | refine below_set ?_ GE335.out | refine below_set ?_ GE346.out | refine below_set ?_ GE354.out | refine below_set ?_ GE407.out) | exact HB.out)) hb)
     clear HO_329000
     clear HO_329001
     clear HO_336000
     clear HO_336001
     clear HO_347007
     clear HO_355000
     clear HO_355001
     clear HO386
     clear HO389
     clear HO399
     clear BK301
     clear BK302
     clear BK328
     clear BK335
     clear BK346
     clear BK354
     clear BK407
     clear HB
     have HO_329000 := n0_
     have HO_329001 := n1_
     have HO_336000 := n2_
     have HO_336001 := n3_
     have HO_347007 := n4_
     have HO_355000 := n5_
     have HO_355001 := n6_
     have HO386 := n7_
     have HO389 := n8_
     have HO399 := n9_
     have HO402 := n10_
     have HO405 := n11_
     have BK301 := n12_
     have BK302 := n13_
     have BK328 := n14_
     have BK335 := n15_
     have BK346 := n16_
     have BK354 := n17_
     have BK407 := n18_
     have HB := n19_
     clear n0_ n1_ n2_ n3_ n4_ n5_ n6_ n7_ n8_ n9_ n10_ n11_ n12_ n13_ n14_ n15_ n16_ n17_ n18_ n19_
     refine hK.out _ _ ⟨(blk_cell BK301.out 0).trans rfl, (blk_cell BK301.out 1).trans rfl, (blk_cell BK302.out 0).trans rfl, (blk_cell BK302.out 1).trans rfl, (blk_cell BK302.out 2).trans rfl, (blk_cell BK302.out 3).trans rfl, (blk_cell BK302.out 4).trans rfl, (blk_cell BK302.out 5).trans rfl, (blk_cell BK302.out 6).trans rfl, (blk_cell BK302.out 7).trans rfl⟩ (fun hHeld => ?_)
     clear hK K
     refine norm_ (a' := ?_) ?_ ?_
     rotate_left
     ·show Act.put _ (some 99) _ = _
      simp only [pS]
      rfl
     refine pure_ (i := 5) (N := some 94) (v := ?_) (a' := ?_) #[T, T, T, T, T, T, F, F, T, F, F] rfl rfl (any_of HT_.out (by kernel_rfl)) (fun _ _ _ h => h) (Or.inl ⟨by rfl, ?_⟩) ?_ ?_
     rotate_left
     ·intro w'
      go_simp
      with_reducible rfl
     rotate_left
     ·simp only [pS]
      rfl
     refine pure_ (i := 6) (N := some 100) (v := ?_) (a' := ?_) #[T, T, T, T, T, T, T, F, T, F, F] rfl rfl (any_of HT_.out (by kernel_rfl)) (fun _ _ _ h => h) (Or.inl ⟨by rfl, ?_⟩) ?_ ?_
     rotate_left
     ·intro w'
      go_simp
      with_reducible rfl
     rotate_left
     ·simp only [pS]
      rfl
     refine pure_ (i := 7) (N := some 101) (v := ?_) (a' := ?_) #[T, T, T, T, T, T, T, T, T, F, F] rfl rfl (any_of HT_.out (by kernel_rfl)) (fun _ _ _ h => h) (Or.inl ⟨by rfl, ?_⟩) ?_ ?_
     rotate_left
     ·intro w'
      go_simp
      with_reducible rfl
     rotate_left
     ·simp only [pS]
      rfl
     exact norm_ (by simp only [putAll, Act.put, List.setIfInBounds_toArray, List.set_cons_zero, List.set_cons_succ]) (hCont (.slice Ao184 t384.length co184, .slice Ao185 t387.length co185, .slice Ao186 t397.length co186, v401, v404, gb407) _ ⟨hHeld, (by (repeat apply rX); exact Kd.R_mono HO386.out (fun _ hk => ⟨hk.1.1.1.1.1.1.1.1.1.1, ⟨hk.1.1.2, ⟨hk.1.2, ⟨hk.2, ⟨hk.1.1.1.1.1.1.1.1.1.2, ⟨hk.1.1.1.1.1.1.1.1.2, ⟨hk.1.1.1.1.1.1.1.2, ⟨hk.1.1.1.1.1.1.2, ⟨hk.1.1.1.1.1.2, ⟨hk.1.1.1.1.2, hk.1.1.1.2⟩⟩⟩⟩⟩⟩⟩⟩⟩⟩)), (by (repeat apply rX); exact Kd.R_mono HO389.out (fun _ hk => ⟨hk.1.1.1.1.1.1.1.1.1.1, ⟨hk.1.1.2, ⟨hk.1.2, ⟨hk.2, ⟨hk.1.1.1.1.1.1.1.1.1.2, ⟨hk.1.1.1.1.1.1.1.1.2, ⟨hk.1.1.1.1.1.1.1.2, ⟨hk.1.1.1.1.1.1.2, ⟨hk.1.1.1.1.1.2, ⟨hk.1.1.1.1.2, hk.1.1.1.2⟩⟩⟩⟩⟩⟩⟩⟩⟩⟩)), (by (repeat apply rX); exact Kd.R_mono HO399.out (fun _ hk => ⟨hk.1.1.1.2, ⟨hk.1.1.2, ⟨hk.1.2, ⟨hk.2, ⟨hk.1.1.1.1.1.1.1.1.1.1.2, ⟨hk.1.1.1.1.1.1.1.1.1.2, ⟨hk.1.1.1.1.1.1.1.1.2, ⟨hk.1.1.1.1.1.1.1.2, ⟨hk.1.1.1.1.1.1.2, ⟨hk.1.1.1.1.1.2, hk.1.1.1.1.2⟩⟩⟩⟩⟩⟩⟩⟩⟩⟩)), (by (repeat apply rX); exact Kd.R_mono HO402.out (fun _ hk => ⟨hk.1.1.2, ⟨hk.1.2, ⟨hk.2, ⟨hk.1.1.1.1.1.1.1.1.1.1, ⟨hk.1.1.1.1.1.1.1.1.1.2, ⟨hk.1.1.1.1.1.1.1.1.2, ⟨hk.1.1.1.1.1.1.1.2, ⟨hk.1.1.1.1.1.1.2, ⟨hk.1.1.1.1.1.2, ⟨hk.1.1.1.1.2, hk.1.1.1.2⟩⟩⟩⟩⟩⟩⟩⟩⟩⟩)), (by (repeat apply rX); exact Kd.R_mono HO405.out (fun _ hk => ⟨hk.1.1.2, ⟨hk.1.2, ⟨hk.2, ⟨hk.1.1.1.1.1.1.1.1.1.1, ⟨hk.1.1.1.1.1.1.1.1.1.2, ⟨hk.1.1.1.1.1.1.1.1.2, ⟨hk.1.1.1.1.1.1.1.2, ⟨hk.1.1.1.1.1.1.2, ⟨hk.1.1.1.1.1.2, ⟨hk.1.1.1.1.2, hk.1.1.1.2⟩⟩⟩⟩⟩⟩⟩⟩⟩⟩)), (by (repeat apply rX); exact Kd.R_mono HO_329000.out (fun _ hk => ⟨hk.1.1.1.1.2, ⟨hk.1.1.1.2, ⟨hk.1.1.2, ⟨hk.1.2, ⟨hk.2, ⟨hk.1.1.1.1.1.1, ⟨hk.1.1.1.1.1.2.1, ⟨hk.1.1.1.1.1.2.2.1, ⟨hk.1.1.1.1.1.2.2.2.1, ⟨hk.1.1.1.1.1.2.2.2.2.1, hk.1.1.1.1.1.2.2.2.2.2⟩⟩⟩⟩⟩⟩⟩⟩⟩⟩)), (by (repeat apply rX); exact Kd.R_mono HO_329001.out (fun _ hk => ⟨hk.1.1.1.1.2, ⟨hk.1.1.1.2, ⟨hk.1.1.2, ⟨hk.1.2, ⟨hk.2, ⟨hk.1.1.1.1.1.1, ⟨hk.1.1.1.1.1.2.1, ⟨hk.1.1.1.1.1.2.2.1, ⟨hk.1.1.1.1.1.2.2.2.1, ⟨hk.1.1.1.1.1.2.2.2.2.1, hk.1.1.1.1.1.2.2.2.2.2⟩⟩⟩⟩⟩⟩⟩⟩⟩⟩)), (by (repeat apply rX); exact Kd.R_mono HO_336000.out (fun _ hk => ⟨hk.1.1.1.1.2, ⟨hk.1.1.1.2, ⟨hk.1.1.2, ⟨hk.1.2, ⟨hk.2, ⟨hk.1.1.1.1.1.1, ⟨hk.1.1.1.1.1.2.1, ⟨hk.1.1.1.1.1.2.2.1, ⟨hk.1.1.1.1.1.2.2.2.1, ⟨hk.1.1.1.1.1.2.2.2.2.1, hk.1.1.1.1.1.2.2.2.2.2⟩⟩⟩⟩⟩⟩⟩⟩⟩⟩)), (by (repeat apply rX); exact Kd.R_mono HO_336001.out (fun _ hk => ⟨hk.1.1.1.1.2, ⟨hk.1.1.1.2, ⟨hk.1.1.2, ⟨hk.1.2, ⟨hk.2, ⟨hk.1.1.1.1.1.1, ⟨hk.1.1.1.1.1.2.1, ⟨hk.1.1.1.1.1.2.2.1, ⟨hk.1.1.1.1.1.2.2.2.1, ⟨hk.1.1.1.1.1.2.2.2.2.1, hk.1.1.1.1.1.2.2.2.2.2⟩⟩⟩⟩⟩⟩⟩⟩⟩⟩)), (by (repeat apply rX); exact Kd.R_mono HO_347007.out (fun _ hk => ⟨hk.1.1.1.1.2, ⟨hk.1.1.1.2, ⟨hk.1.1.2, ⟨hk.1.2, ⟨hk.2, ⟨hk.1.1.1.1.1.1, ⟨hk.1.1.1.1.1.2.1, ⟨hk.1.1.1.1.1.2.2.1, ⟨hk.1.1.1.1.1.2.2.2.1, ⟨hk.1.1.1.1.1.2.2.2.2.1, hk.1.1.1.1.1.2.2.2.2.2⟩⟩⟩⟩⟩⟩⟩⟩⟩⟩)), (by (repeat apply rX); exact Kd.R_mono HO_355000.out (fun _ hk => ⟨hk.1.1.1.1.2, ⟨hk.1.1.1.2, ⟨hk.1.1.2, ⟨hk.1.2, ⟨hk.2, ⟨hk.1.1.1.1.1.1, ⟨hk.1.1.1.1.1.2.1, ⟨hk.1.1.1.1.1.2.2.1, ⟨hk.1.1.1.1.1.2.2.2.1, ⟨hk.1.1.1.1.1.2.2.2.2.1, hk.1.1.1.1.1.2.2.2.2.2⟩⟩⟩⟩⟩⟩⟩⟩⟩⟩)), (by (repeat apply rX); exact Kd.R_mono HO_355001.out (fun _ hk => ⟨hk.1.1.1.1.2, ⟨hk.1.1.1.2, ⟨hk.1.1.2, ⟨hk.1.2, ⟨hk.2, ⟨hk.1.1.1.1.1.1, ⟨hk.1.1.1.1.1.2.1, ⟨hk.1.1.1.1.1.2.2.1, ⟨hk.1.1.1.1.1.2.2.2.1, ⟨hk.1.1.1.1.1.2.2.2.2.1, hk.1.1.1.1.1.2.2.2.2.2⟩⟩⟩⟩⟩⟩⟩⟩⟩⟩)), (bY BK301.out), (bY BK302.out), (bY BK328.out), (bY BK335.out), (bY BK346.out), (bY BK354.out), (bY BK407.out), GW407.out, GE407.out, NB301_407.out, NB407_301.out, NB302_407.out, NB407_302.out, NB328_407.out, NB407_328.out, NB335_407.out, NB407_335.out, NB346_407.out, NB407_346.out, NB354_407.out, NB407_354.out, (by repeat (first | (with_reducible first | exact HB.out | apply below_alloc | apply pw_below_drewN | apply below_drew1 | refine below_set ?_ GE301.out | refine below_set ?_ GE302.out | refine below_set ?_ GE328.out | refine below_set ?_ GE335.out | refine below_set ?_ GE346.out | refine below_set ?_ GE354.out | refine below_set ?_ GE407.out) | exact HB.out))⟩)
   ·skip
    refine box_step ?hg (N := 15) ?hd (cs := #[.slice none 0 0, .slice none 0 0]) (t := 27) ?hr ?_; (case hd => rfl); (case hg => rfl); (case hr => first | (go_simp; done) | (go_simp; rfl))
    intro gb407 hg w181 hbox hb
    have n0_ := Aside0.mk (Kd.R_below (rY HO_329000.out) hb)
    have n1_ := Aside0.mk (Kd.R_below (rY HO_329001.out) hb)
    have n2_ := Aside0.mk (Kd.R_below (rY HO_336000.out) hb)
    have n3_ := Aside0.mk (Kd.R_below (rY HO_336001.out) hb)
    have n4_ := Aside0.mk (Kd.R_below (rY HO_347007.out) hb)
    have n5_ := Aside0.mk (Kd.R_below (rY HO_355000.out) hb)
    have n6_ := Aside0.mk (Kd.R_below (rY HO_355001.out) hb)
    have n7_ := Aside0.mk (blk_below (bY BK301.out) hb)
    have n8_ := Aside0.mk (blk_below (bY BK302.out) hb)
    have n9_ := Aside0.mk (blk_below (bY BK328.out) hb)
    have n10_ := Aside0.mk (blk_below (bY BK335.out) hb)
    have n11_ := Aside0.mk (blk_below (bY BK346.out) hb)
    have n12_ := Aside0.mk (blk_below (bY BK354.out) hb)
    have n13_ := Aside0.mk (below_step (by repeat (first | (with_reducible first | exact HB.out | apply below_alloc | apply pw_below_drewN | apply below_drew1 | refine below_set ?_ GE301.out | refine below_set ?_ GE302.out | refine below_set ?_ GE328.out | refine below_set ?_ GE335.out | refine below_set ?_ GE346.out | refine below_set ?_ GE354.out) | exact HB.out)) hb)
    have n14_ := Aside0.mk (hbox)
    have n15_ := Aside0.mk ((by rw [hg]; exact (below_size (by repeat (first | (with_reducible first | exact HB.out | apply below_alloc | apply pw_below_drewN | apply below_drew1 | refine below_set ?_ GE301.out | refine below_set ?_ GE302.out | refine below_set ?_ GE328.out | refine below_set ?_ GE335.out | refine below_set ?_ GE346.out | refine below_set ?_ GE354.out) | exact HB.out))) : w.heap.size ≤ gb407))
    have n16_ := Aside0.mk ((by rw [hg]; exact (below_size (by repeat (first | (with_reducible first | exact HB.out | apply below_alloc | apply pw_below_drewN | apply below_drew1 | refine below_set ?_ GE301.out | refine below_set ?_ GE302.out | refine below_set ?_ GE328.out | refine below_set ?_ GE335.out | refine below_set ?_ GE346.out | refine below_set ?_ GE354.out) | exact HB.out))) : w.heap.size ≤ gb407))
    have n17_ := Aside0.mk ((by rw [hg]; exact Nat.ne_of_lt (blk_lt (bY BK301.out)) : gb301 ≠ gb407))
    have n18_ := Aside0.mk ((by rw [hg]; exact Nat.ne_of_gt (blk_lt (bY BK301.out)) : gb407 ≠ gb301))
    have n19_ := Aside0.mk ((by rw [hg]; exact Nat.ne_of_lt (blk_lt (bY BK302.out)) : gb302 ≠ gb407))
    have n20_ := Aside0.mk ((by rw [hg]; exact Nat.ne_of_gt (blk_lt (bY BK302.out)) : gb407 ≠ gb302))
    have n21_ := Aside0.mk ((by rw [hg]; exact Nat.ne_of_lt (blk_lt (bY BK328.out)) : gb328 ≠ gb407))
    have n22_ := Aside0.mk ((by rw [hg]; exact Nat.ne_of_gt (blk_lt (bY BK328.out)) : gb407 ≠ gb328))
    have n23_ := Aside0.mk ((by rw [hg]; exact Nat.ne_of_lt (blk_lt (bY BK335.out)) : gb335 ≠ gb407))
    have n24_ := Aside0.mk ((by rw [hg]; exact Nat.ne_of_gt (blk_lt (bY BK335.out)) : gb407 ≠ gb335))
    have n25_ := Aside0.mk ((by rw [hg]; exact Nat.ne_of_lt (blk_lt (bY BK346.out)) : gb346 ≠ gb407))
    have n26_ := Aside0.mk ((by rw [hg]; exact Nat.ne_of_gt (blk_lt (bY BK346.out)) : gb407 ≠ gb346))
    have n27_ := Aside0.mk ((by rw [hg]; exact Nat.ne_of_lt (blk_lt (bY BK354.out)) : gb354 ≠ gb407))
    have n28_ := Aside0.mk ((by rw [hg]; exact Nat.ne_of_gt (blk_lt (bY BK354.out)) : gb407 ≠ gb354))
    clear HO_329000
    clear HO_329001
    clear HO_336000
    clear HO_336001
    clear HO_347007
    clear HO_355000
    clear HO_355001
    clear BK301
    clear BK302
    clear BK328
    clear BK335
    clear BK346
    clear BK354
    clear HB
    have HO_329000 := n0_
    have HO_329001 := n1_
    have HO_336000 := n2_
    have HO_336001 := n3_
    have HO_347007 := n4_
    have HO_355000 := n5_
    have HO_355001 := n6_
    have BK301 := n7_
    have BK302 := n8_
    have BK328 := n9_
    have BK335 := n10_
    have BK346 := n11_
    have BK354 := n12_
    have HB := n13_
    have BK407 := n14_
    have GW407 := n15_
    have GE407 := n16_
    have NB301_407 := n17_
    have NB407_301 := n18_
    have NB302_407 := n19_
    have NB407_302 := n20_
    have NB328_407 := n21_
    have NB407_328 := n22_
    have NB335_407 := n23_
    have NB407_335 := n24_
    have NB346_407 := n25_
    have NB407_346 := n26_
    have NB354_407 := n27_
    have NB407_354 := n28_
    clear n0_ n1_ n2_ n3_ n4_ n5_ n6_ n7_ n8_ n9_ n10_ n11_ n12_ n13_ n14_ n15_ n16_ n17_ n18_ n19_ n20_ n21_ n22_ n23_ n24_ n25_ n26_ n27_ n28_
    clear hb hbox hg
    refine hK.out _ _ ⟨(blk_cell BK301.out 0).trans rfl, (blk_cell BK301.out 1).trans rfl, (blk_cell BK302.out 0).trans rfl, (blk_cell BK302.out 1).trans rfl, (blk_cell BK302.out 2).trans rfl, (blk_cell BK302.out 3).trans rfl, (blk_cell BK302.out 4).trans rfl, (blk_cell BK302.out 5).trans rfl, (blk_cell BK302.out 6).trans rfl, (blk_cell BK302.out 7).trans rfl⟩ (fun hHeld => ?_)
    clear hK K
    refine norm_ (a' := ?_) ?_ ?_
    rotate_left
    ·show Act.put _ (some 15) _ = _
     simp only [pS]
     rfl
    refine one_ (i := 1) (N := some 96) #[T, T, T, F, F, F, F, F, T, F, F] rfl rfl (one_of HT_.out (by kernel_rfl)) (by decide) (fun K hK => ?_)
    refine goes_ Try.func17 (by kernel_rfl) rfl #[.agg #[.slice A0_0 l0_0.length c0_0, .slice A0_1 l0_1.length c0_1]] (by rfl) rfl rfl (by (try simp only [List.map_toArray, List.map_cons, List.map_nil]); first | done | rfl) ?_
    with_reducible refine (laws_toCredits.calls kj111 _ _ l0_0 _ _ l0_1 t384 t387 _ ?side1 ?side2 ?side3 ?side4 A167.out).mono ?_
    (case side1 => exact cY ((Kd.C_below HR0_0.out HB.out)))
    (case side2 => exact HC0_0.out)
    (case side3 => exact cY ((Kd.C_below HR0_1.out HB.out)))
    (case side4 => exact HC0_1.out)
    rintro e w182 ⟨v385, v388, rfl, ho0, ho1, hb⟩
    refine ⟨_, rfl, ?_⟩
    have n0_ := Aside0.mk (Kd.R_mono (Kd.R_told (Kd.R_told (Kd.R_old (rY HO_329000.out) hb) (Kd.R_base ho0)) (Kd.R_base ho1)) (fun _ h_ => h_.1))
    have n1_ := Aside0.mk (Kd.R_mono (Kd.R_told (Kd.R_told (Kd.R_old (rY HO_329001.out) hb) (Kd.R_base ho0)) (Kd.R_base ho1)) (fun _ h_ => h_.1))
    have n2_ := Aside0.mk (Kd.R_mono (Kd.R_told (Kd.R_told (Kd.R_old (rY HO_336000.out) hb) (Kd.R_base ho0)) (Kd.R_base ho1)) (fun _ h_ => h_.1))
    have n3_ := Aside0.mk (Kd.R_mono (Kd.R_told (Kd.R_told (Kd.R_old (rY HO_336001.out) hb) (Kd.R_base ho0)) (Kd.R_base ho1)) (fun _ h_ => h_.1))
    have n4_ := Aside0.mk (Kd.R_mono (Kd.R_told (Kd.R_told (Kd.R_old (rY HO_347007.out) hb) (Kd.R_base ho0)) (Kd.R_base ho1)) (fun _ h_ => h_.1))
    have n5_ := Aside0.mk (Kd.R_mono (Kd.R_told (Kd.R_told (Kd.R_old (rY HO_355000.out) hb) (Kd.R_base ho0)) (Kd.R_base ho1)) (fun _ h_ => h_.1))
    have n6_ := Aside0.mk (Kd.R_mono (Kd.R_told (Kd.R_told (Kd.R_old (rY HO_355001.out) hb) (Kd.R_base ho0)) (Kd.R_base ho1)) (fun _ h_ => h_.1))
    have n7_ := Aside0.mk (Kd.R_lower (Kd.R_new' (Kd.R_new' (Kd.R_new' (Kd.R_new' (Kd.R_new' (Kd.R_new' (Kd.R_new' ho0 (Kd.R_lt (rY HO_329000.out))) (Kd.R_lt (rY HO_329001.out))) (Kd.R_lt (rY HO_336000.out))) (Kd.R_lt (rY HO_336001.out))) (Kd.R_lt (rY HO_347007.out))) (Kd.R_lt (rY HO_355000.out))) (Kd.R_lt (rY HO_355001.out))) (below_size (by repeat (first | (with_reducible first | exact HB.out | apply below_alloc | apply pw_below_drewN | apply below_drew1 | refine below_set ?_ GE301.out | refine below_set ?_ GE302.out | refine below_set ?_ GE328.out | refine below_set ?_ GE335.out | refine below_set ?_ GE346.out | refine below_set ?_ GE354.out | refine below_set ?_ GE407.out) | exact HB.out))))
    have n8_ := Aside0.mk (Kd.R_lower (Kd.R_new' (Kd.R_new' (Kd.R_new' (Kd.R_new' (Kd.R_new' (Kd.R_new' (Kd.R_new' ho1 (Kd.R_lt (rY HO_329000.out))) (Kd.R_lt (rY HO_329001.out))) (Kd.R_lt (rY HO_336000.out))) (Kd.R_lt (rY HO_336001.out))) (Kd.R_lt (rY HO_347007.out))) (Kd.R_lt (rY HO_355000.out))) (Kd.R_lt (rY HO_355001.out))) (below_size (by repeat (first | (with_reducible first | exact HB.out | apply below_alloc | apply pw_below_drewN | apply below_drew1 | refine below_set ?_ GE301.out | refine below_set ?_ GE302.out | refine below_set ?_ GE328.out | refine below_set ?_ GE335.out | refine below_set ?_ GE346.out | refine below_set ?_ GE354.out | refine below_set ?_ GE407.out) | exact HB.out))))
    have n9_ := Aside0.mk (blk_below (bY BK301.out) hb)
    have n10_ := Aside0.mk (blk_below (bY BK302.out) hb)
    have n11_ := Aside0.mk (blk_below (bY BK328.out) hb)
    have n12_ := Aside0.mk (blk_below (bY BK335.out) hb)
    have n13_ := Aside0.mk (blk_below (bY BK346.out) hb)
    have n14_ := Aside0.mk (blk_below (bY BK354.out) hb)
    have n15_ := Aside0.mk (blk_below (bY BK407.out) hb)
    have n16_ := Aside0.mk (below_step (by repeat (first | (with_reducible first | exact HB.out | apply below_alloc | apply pw_below_drewN | apply below_drew1 | refine below_set ?_ GE301.out | refine below_set ?_ GE302.out | refine below_set ?_ GE328.out | refine below_set ?_ GE335.out | refine below_set ?_ GE346.out | refine below_set ?_ GE354.out | refine below_set ?_ GE407.out) | exact HB.out)) hb)
    clear HO_329000
    clear HO_329001
    clear HO_336000
    clear HO_336001
    clear HO_347007
    clear HO_355000
    clear HO_355001
    clear BK301
    clear BK302
    clear BK328
    clear BK335
    clear BK346
    clear BK354
    clear BK407
    clear HB
    have HO_329000 := n0_
    have HO_329001 := n1_
    have HO_336000 := n2_
    have HO_336001 := n3_
    have HO_347007 := n4_
    have HO_355000 := n5_
    have HO_355001 := n6_
    have HO386 := n7_
    have HO389 := n8_
    have BK301 := n9_
    have BK302 := n10_
    have BK328 := n11_
    have BK335 := n12_
    have BK346 := n13_
    have BK354 := n14_
    have BK407 := n15_
    have HB := n16_
    clear n0_ n1_ n2_ n3_ n4_ n5_ n6_ n7_ n8_ n9_ n10_ n11_ n12_ n13_ n14_ n15_ n16_
    refine hK.out _ _ ⟨(blk_cell BK301.out 0).trans rfl, (blk_cell BK301.out 1).trans rfl, (blk_cell BK302.out 0).trans rfl, (blk_cell BK302.out 1).trans rfl, (blk_cell BK302.out 2).trans rfl, (blk_cell BK302.out 3).trans rfl, (blk_cell BK302.out 4).trans rfl, (blk_cell BK302.out 5).trans rfl, (blk_cell BK302.out 6).trans rfl, (blk_cell BK302.out 7).trans rfl⟩ (fun hHeld => ?_)
    clear hK K
    refine norm_ (a' := ?_) ?_ ?_
    rotate_left
    ·show Act.put _ (some 96) _ = _
     simp only [pS]
     rfl
    refine one_ (i := 3) (N := some 98) #[T, T, T, T, F, F, F, F, T, F, F] rfl rfl (one_of HT_.out (by kernel_rfl)) (by decide) (fun K hK => ?_)
    refine goes_ Try.func22 (by kernel_rfl) rfl #[.agg #[.int .i64 a1_0, .int .i64 a1_1, .int .i64 a1_2, .int .i64 a1_3, .int .i64 a1_4, .int .i64 a1_5, .int .i64 a1_6, .slice A1_7 l1_7.length c1_7]] (by rfl) rfl rfl (by (try simp only [List.map_toArray, List.map_cons, List.map_nil]); first | done | rfl) ?_
    with_reducible refine (laws_toPacket.calls kj111 a1_0 a1_1 a1_2 a1_3 a1_4 a1_5 a1_6 _ _ l1_7 t390 t391 t392 t393 t394 t395 t396 t397 _ ?side1 ?side2 A168.out).mono ?_
    (case side1 => exact cY ((Kd.C_below HR1_7.out HB.out)))
    (case side2 => exact HC1_7.out)
    rintro e w183 ⟨v398, rfl, ho0, hb⟩
    refine ⟨_, rfl, ?_⟩
    have n0_ := Aside0.mk (Kd.R_elder' (rY HO_329000.out) (Kd.R_base ho0) hb)
    have n1_ := Aside0.mk (Kd.R_elder' (rY HO_329001.out) (Kd.R_base ho0) hb)
    have n2_ := Aside0.mk (Kd.R_elder' (rY HO_336000.out) (Kd.R_base ho0) hb)
    have n3_ := Aside0.mk (Kd.R_elder' (rY HO_336001.out) (Kd.R_base ho0) hb)
    have n4_ := Aside0.mk (Kd.R_elder' (rY HO_347007.out) (Kd.R_base ho0) hb)
    have n5_ := Aside0.mk (Kd.R_elder' (rY HO_355000.out) (Kd.R_base ho0) hb)
    have n6_ := Aside0.mk (Kd.R_elder' (rY HO_355001.out) (Kd.R_base ho0) hb)
    have n7_ := Aside0.mk (Kd.R_elder' (rY HO386.out) (Kd.R_base ho0) hb)
    have n8_ := Aside0.mk (Kd.R_elder' (rY HO389.out) (Kd.R_base ho0) hb)
    have n9_ := Aside0.mk (Kd.R_lower (Kd.R_new' (Kd.R_new' (Kd.R_new' (Kd.R_new' (Kd.R_new' (Kd.R_new' (Kd.R_new' (Kd.R_new' (Kd.R_new' ho0 (Kd.R_lt (rY HO_329000.out))) (Kd.R_lt (rY HO_329001.out))) (Kd.R_lt (rY HO_336000.out))) (Kd.R_lt (rY HO_336001.out))) (Kd.R_lt (rY HO_347007.out))) (Kd.R_lt (rY HO_355000.out))) (Kd.R_lt (rY HO_355001.out))) (Kd.R_lt (rY HO386.out))) (Kd.R_lt (rY HO389.out))) (below_size (by repeat (first | (with_reducible first | exact HB.out | apply below_alloc | apply pw_below_drewN | apply below_drew1 | refine below_set ?_ GE301.out | refine below_set ?_ GE302.out | refine below_set ?_ GE328.out | refine below_set ?_ GE335.out | refine below_set ?_ GE346.out | refine below_set ?_ GE354.out | refine below_set ?_ GE407.out) | exact HB.out))))
    have n10_ := Aside0.mk (blk_below (bY BK301.out) hb)
    have n11_ := Aside0.mk (blk_below (bY BK302.out) hb)
    have n12_ := Aside0.mk (blk_below (bY BK328.out) hb)
    have n13_ := Aside0.mk (blk_below (bY BK335.out) hb)
    have n14_ := Aside0.mk (blk_below (bY BK346.out) hb)
    have n15_ := Aside0.mk (blk_below (bY BK354.out) hb)
    have n16_ := Aside0.mk (blk_below (bY BK407.out) hb)
    have n17_ := Aside0.mk (below_step (by repeat (first | (with_reducible first | exact HB.out | apply below_alloc | apply pw_below_drewN | apply below_drew1 | refine below_set ?_ GE301.out | refine below_set ?_ GE302.out | refine below_set ?_ GE328.out | refine below_set ?_ GE335.out | refine below_set ?_ GE346.out | refine below_set ?_ GE354.out | refine below_set ?_ GE407.out) | exact HB.out)) hb)
    clear HO_329000
    clear HO_329001
    clear HO_336000
    clear HO_336001
    clear HO_347007
    clear HO_355000
    clear HO_355001
    clear HO386
    clear HO389
    clear BK301
    clear BK302
    clear BK328
    clear BK335
    clear BK346
    clear BK354
    clear BK407
    clear HB
    have HO_329000 := n0_
    have HO_329001 := n1_
    have HO_336000 := n2_
    have HO_336001 := n3_
    have HO_347007 := n4_
    have HO_355000 := n5_
    have HO_355001 := n6_
    have HO386 := n7_
    have HO389 := n8_
    have HO399 := n9_
    have BK301 := n10_
    have BK302 := n11_
    have BK328 := n12_
    have BK335 := n13_
    have BK346 := n14_
    have BK354 := n15_
    have BK407 := n16_
    have HB := n17_
    clear n0_ n1_ n2_ n3_ n4_ n5_ n6_ n7_ n8_ n9_ n10_ n11_ n12_ n13_ n14_ n15_ n16_ n17_
    obtain ⟨Ao184, co184, eo184⟩ := Kd.R_slice HO386.out
    (first | subst eo184 | (injection eo184 with f1_ f2_ f3_; have f4_ := f1_.symm; have f5_ := f3_.symm; clear f1_ f2_ f3_; subst f4_; subst f5_))
    obtain ⟨Ao185, co185, eo185⟩ := Kd.R_slice HO389.out
    (first | subst eo185 | (injection eo185 with f1_ f2_ f3_; have f4_ := f1_.symm; have f5_ := f3_.symm; clear f1_ f2_ f3_; subst f4_; subst f5_))
    obtain ⟨Ao186, co186, eo186⟩ := Kd.R_slice HO399.out
    (first | subst eo186 | (injection eo186 with f1_ f2_ f3_; have f4_ := f1_.symm; have f5_ := f3_.symm; clear f1_ f2_ f3_; subst f4_; subst f5_))
    refine hK.out _ _ ⟨(blk_cell BK301.out 0).trans rfl, (blk_cell BK301.out 1).trans rfl, (blk_cell BK302.out 0).trans rfl, (blk_cell BK302.out 1).trans rfl, (blk_cell BK302.out 2).trans rfl, (blk_cell BK302.out 3).trans rfl, (blk_cell BK302.out 4).trans rfl, (blk_cell BK302.out 5).trans rfl, (blk_cell BK302.out 6).trans rfl, (blk_cell BK302.out 7).trans rfl⟩ (fun hHeld => ?_)
    clear hK K
    refine norm_ (a' := ?_) ?_ ?_
    rotate_left
    ·show Act.put _ (some 98) _ = _
     simp only [pS]
     rfl
    refine one_ (i := 4) (N := some 99) #[T, T, T, T, T, F, F, F, T, F, F] rfl rfl (one_of HT_.out (by kernel_rfl)) (by decide) (fun K hK => ?_)
    refine goes_ Try.func57 (by kernel_rfl) rfl #[.agg #[.slice Ao184 t384.length co184, .slice Ao185 t387.length co185], .agg #[.int .i64 t390, .int .i64 t391, .int .i64 t392, .int .i64 t393, .int .i64 t394, .int .i64 t395, .int .i64 t396, .slice Ao186 t397.length co186]] (by rfl) rfl rfl (by (try simp only [List.map_toArray, List.map_cons, List.map_nil]); first | done | rfl) ?_
    with_reducible refine (impl_ReturnCredits.calls kj111 _ _ t384 _ _ t387 t390 t391 t392 t393 t394 t395 t396 _ _ t397 t400 t403 t406 _ ?side1 ?side2 ?side3 ?side4 ?side5 ?side6 A169.out).mono ?_
    (case side1 => exact cY ((Kd.R_reads' HO386.out).2.2))
    (case side2 => exact (Kd.R_reads' HO386.out).2.1)
    (case side3 => exact cY ((Kd.R_reads' HO389.out).2.2))
    (case side4 => exact (Kd.R_reads' HO389.out).2.1)
    (case side5 => exact cY ((Kd.R_reads' HO399.out).2.2))
    (case side6 => exact (Kd.R_reads' HO399.out).2.1)
    rintro e w187 ⟨v401, v404, rfl, ho0, ho1, hb⟩
    refine ⟨_, rfl, ?_⟩
    have n0_ := Aside0.mk (Kd.R_mono (Kd.R_told (Kd.R_told (Kd.R_old (rY HO_329000.out) hb) (Kd.R_base ho0)) (Kd.R_base ho1)) (fun _ h_ => h_.1))
    have n1_ := Aside0.mk (Kd.R_mono (Kd.R_told (Kd.R_told (Kd.R_old (rY HO_329001.out) hb) (Kd.R_base ho0)) (Kd.R_base ho1)) (fun _ h_ => h_.1))
    have n2_ := Aside0.mk (Kd.R_mono (Kd.R_told (Kd.R_told (Kd.R_old (rY HO_336000.out) hb) (Kd.R_base ho0)) (Kd.R_base ho1)) (fun _ h_ => h_.1))
    have n3_ := Aside0.mk (Kd.R_mono (Kd.R_told (Kd.R_told (Kd.R_old (rY HO_336001.out) hb) (Kd.R_base ho0)) (Kd.R_base ho1)) (fun _ h_ => h_.1))
    have n4_ := Aside0.mk (Kd.R_mono (Kd.R_told (Kd.R_told (Kd.R_old (rY HO_347007.out) hb) (Kd.R_base ho0)) (Kd.R_base ho1)) (fun _ h_ => h_.1))
    have n5_ := Aside0.mk (Kd.R_mono (Kd.R_told (Kd.R_told (Kd.R_old (rY HO_355000.out) hb) (Kd.R_base ho0)) (Kd.R_base ho1)) (fun _ h_ => h_.1))
    have n6_ := Aside0.mk (Kd.R_mono (Kd.R_told (Kd.R_told (Kd.R_old (rY HO_355001.out) hb) (Kd.R_base ho0)) (Kd.R_base ho1)) (fun _ h_ => h_.1))
    have n7_ := Aside0.mk (Kd.R_mono (Kd.R_told (Kd.R_told (Kd.R_old (rY HO386.out) hb) (Kd.R_base ho0)) (Kd.R_base ho1)) (fun _ h_ => h_.1))
    have n8_ := Aside0.mk (Kd.R_mono (Kd.R_told (Kd.R_told (Kd.R_old (rY HO389.out) hb) (Kd.R_base ho0)) (Kd.R_base ho1)) (fun _ h_ => h_.1))
    have n9_ := Aside0.mk (Kd.R_mono (Kd.R_told (Kd.R_told (Kd.R_old (rY HO399.out) hb) (Kd.R_base ho0)) (Kd.R_base ho1)) (fun _ h_ => h_.1))
    have n10_ := Aside0.mk (Kd.R_lower (Kd.R_new' (Kd.R_new' (Kd.R_new' (Kd.R_new' (Kd.R_new' (Kd.R_new' (Kd.R_new' (Kd.R_new' (Kd.R_new' (Kd.R_new' ho0 (Kd.R_lt (rY HO_329000.out))) (Kd.R_lt (rY HO_329001.out))) (Kd.R_lt (rY HO_336000.out))) (Kd.R_lt (rY HO_336001.out))) (Kd.R_lt (rY HO_347007.out))) (Kd.R_lt (rY HO_355000.out))) (Kd.R_lt (rY HO_355001.out))) (Kd.R_lt (rY HO386.out))) (Kd.R_lt (rY HO389.out))) (Kd.R_lt (rY HO399.out))) (below_size (by repeat (first | (with_reducible first | exact HB.out | apply below_alloc | apply pw_below_drewN | apply below_drew1 | refine below_set ?_ GE301.out | refine below_set ?_ GE302.out | refine below_set ?_ GE328.out | refine below_set ?_ GE335.out | refine below_set ?_ GE346.out | refine below_set ?_ GE354.out | refine below_set ?_ GE407.out) | exact HB.out))))
    have n11_ := Aside0.mk (Kd.R_lower (Kd.R_new' (Kd.R_new' (Kd.R_new' (Kd.R_new' (Kd.R_new' (Kd.R_new' (Kd.R_new' (Kd.R_new' (Kd.R_new' (Kd.R_new' ho1 (Kd.R_lt (rY HO_329000.out))) (Kd.R_lt (rY HO_329001.out))) (Kd.R_lt (rY HO_336000.out))) (Kd.R_lt (rY HO_336001.out))) (Kd.R_lt (rY HO_347007.out))) (Kd.R_lt (rY HO_355000.out))) (Kd.R_lt (rY HO_355001.out))) (Kd.R_lt (rY HO386.out))) (Kd.R_lt (rY HO389.out))) (Kd.R_lt (rY HO399.out))) (below_size (by repeat (first | (with_reducible first | exact HB.out | apply below_alloc | apply pw_below_drewN | apply below_drew1 | refine below_set ?_ GE301.out | refine below_set ?_ GE302.out | refine below_set ?_ GE328.out | refine below_set ?_ GE335.out | refine below_set ?_ GE346.out | refine below_set ?_ GE354.out | refine below_set ?_ GE407.out) | exact HB.out))))
    have n12_ := Aside0.mk (blk_below (bY BK301.out) hb)
    have n13_ := Aside0.mk (blk_below (bY BK302.out) hb)
    have n14_ := Aside0.mk (blk_below (bY BK328.out) hb)
    have n15_ := Aside0.mk (blk_below (bY BK335.out) hb)
    have n16_ := Aside0.mk (blk_below (bY BK346.out) hb)
    have n17_ := Aside0.mk (blk_below (bY BK354.out) hb)
    have n18_ := Aside0.mk (blk_below (bY BK407.out) hb)
    have n19_ := Aside0.mk (below_step (by repeat (first | (with_reducible first | exact HB.out | apply below_alloc | apply pw_below_drewN | apply below_drew1 | refine below_set ?_ GE301.out | refine below_set ?_ GE302.out | refine below_set ?_ GE328.out | refine below_set ?_ GE335.out | refine below_set ?_ GE346.out | refine below_set ?_ GE354.out | refine below_set ?_ GE407.out) | exact HB.out)) hb)
    clear HO_329000
    clear HO_329001
    clear HO_336000
    clear HO_336001
    clear HO_347007
    clear HO_355000
    clear HO_355001
    clear HO386
    clear HO389
    clear HO399
    clear BK301
    clear BK302
    clear BK328
    clear BK335
    clear BK346
    clear BK354
    clear BK407
    clear HB
    have HO_329000 := n0_
    have HO_329001 := n1_
    have HO_336000 := n2_
    have HO_336001 := n3_
    have HO_347007 := n4_
    have HO_355000 := n5_
    have HO_355001 := n6_
    have HO386 := n7_
    have HO389 := n8_
    have HO399 := n9_
    have HO402 := n10_
    have HO405 := n11_
    have BK301 := n12_
    have BK302 := n13_
    have BK328 := n14_
    have BK335 := n15_
    have BK346 := n16_
    have BK354 := n17_
    have BK407 := n18_
    have HB := n19_
    clear n0_ n1_ n2_ n3_ n4_ n5_ n6_ n7_ n8_ n9_ n10_ n11_ n12_ n13_ n14_ n15_ n16_ n17_ n18_ n19_
    refine hK.out _ _ ⟨(blk_cell BK301.out 0).trans rfl, (blk_cell BK301.out 1).trans rfl, (blk_cell BK302.out 0).trans rfl, (blk_cell BK302.out 1).trans rfl, (blk_cell BK302.out 2).trans rfl, (blk_cell BK302.out 3).trans rfl, (blk_cell BK302.out 4).trans rfl, (blk_cell BK302.out 5).trans rfl, (blk_cell BK302.out 6).trans rfl, (blk_cell BK302.out 7).trans rfl⟩ (fun hHeld => ?_)
    clear hK K
    refine norm_ (a' := ?_) ?_ ?_
    rotate_left
    ·show Act.put _ (some 99) _ = _
     simp only [pS]
     rfl
    refine pure_ (i := 5) (N := some 94) (v := ?_) (a' := ?_) #[T, T, T, T, T, T, F, F, T, F, F] rfl rfl (any_of HT_.out (by kernel_rfl)) (fun _ _ _ h => h) (Or.inl ⟨by rfl, ?_⟩) ?_ ?_
    rotate_left
    ·intro w'
     go_simp
     with_reducible rfl
    rotate_left
    ·simp only [pS]
     rfl
    refine pure_ (i := 6) (N := some 100) (v := ?_) (a' := ?_) #[T, T, T, T, T, T, T, F, T, F, F] rfl rfl (any_of HT_.out (by kernel_rfl)) (fun _ _ _ h => h) (Or.inl ⟨by rfl, ?_⟩) ?_ ?_
    rotate_left
    ·intro w'
     go_simp
     with_reducible rfl
    rotate_left
    ·simp only [pS]
     rfl
    refine pure_ (i := 7) (N := some 101) (v := ?_) (a' := ?_) #[T, T, T, T, T, T, T, T, T, F, F] rfl rfl (any_of HT_.out (by kernel_rfl)) (fun _ _ _ h => h) (Or.inl ⟨by rfl, ?_⟩) ?_ ?_
    rotate_left
    ·intro w'
     go_simp
     with_reducible rfl
    rotate_left
    ·simp only [pS]
     rfl
    exact norm_ (by simp only [putAll, Act.put, List.setIfInBounds_toArray, List.set_cons_zero, List.set_cons_succ]) (hCont (.slice Ao184 t384.length co184, .slice Ao185 t387.length co185, .slice Ao186 t397.length co186, v401, v404, gb407) _ ⟨hHeld, (by (repeat apply rX); exact Kd.R_mono HO386.out (fun _ hk => ⟨hk.1.1.1.1.1.1.1.1.1.1, ⟨hk.1.1.2, ⟨hk.1.2, ⟨hk.2, ⟨hk.1.1.1.1.1.1.1.1.1.2, ⟨hk.1.1.1.1.1.1.1.1.2, ⟨hk.1.1.1.1.1.1.1.2, ⟨hk.1.1.1.1.1.1.2, ⟨hk.1.1.1.1.1.2, ⟨hk.1.1.1.1.2, hk.1.1.1.2⟩⟩⟩⟩⟩⟩⟩⟩⟩⟩)), (by (repeat apply rX); exact Kd.R_mono HO389.out (fun _ hk => ⟨hk.1.1.1.1.1.1.1.1.1.1, ⟨hk.1.1.2, ⟨hk.1.2, ⟨hk.2, ⟨hk.1.1.1.1.1.1.1.1.1.2, ⟨hk.1.1.1.1.1.1.1.1.2, ⟨hk.1.1.1.1.1.1.1.2, ⟨hk.1.1.1.1.1.1.2, ⟨hk.1.1.1.1.1.2, ⟨hk.1.1.1.1.2, hk.1.1.1.2⟩⟩⟩⟩⟩⟩⟩⟩⟩⟩)), (by (repeat apply rX); exact Kd.R_mono HO399.out (fun _ hk => ⟨hk.1.1.1.2, ⟨hk.1.1.2, ⟨hk.1.2, ⟨hk.2, ⟨hk.1.1.1.1.1.1.1.1.1.1.2, ⟨hk.1.1.1.1.1.1.1.1.1.2, ⟨hk.1.1.1.1.1.1.1.1.2, ⟨hk.1.1.1.1.1.1.1.2, ⟨hk.1.1.1.1.1.1.2, ⟨hk.1.1.1.1.1.2, hk.1.1.1.1.2⟩⟩⟩⟩⟩⟩⟩⟩⟩⟩)), (by (repeat apply rX); exact Kd.R_mono HO402.out (fun _ hk => ⟨hk.1.1.2, ⟨hk.1.2, ⟨hk.2, ⟨hk.1.1.1.1.1.1.1.1.1.1, ⟨hk.1.1.1.1.1.1.1.1.1.2, ⟨hk.1.1.1.1.1.1.1.1.2, ⟨hk.1.1.1.1.1.1.1.2, ⟨hk.1.1.1.1.1.1.2, ⟨hk.1.1.1.1.1.2, ⟨hk.1.1.1.1.2, hk.1.1.1.2⟩⟩⟩⟩⟩⟩⟩⟩⟩⟩)), (by (repeat apply rX); exact Kd.R_mono HO405.out (fun _ hk => ⟨hk.1.1.2, ⟨hk.1.2, ⟨hk.2, ⟨hk.1.1.1.1.1.1.1.1.1.1, ⟨hk.1.1.1.1.1.1.1.1.1.2, ⟨hk.1.1.1.1.1.1.1.1.2, ⟨hk.1.1.1.1.1.1.1.2, ⟨hk.1.1.1.1.1.1.2, ⟨hk.1.1.1.1.1.2, ⟨hk.1.1.1.1.2, hk.1.1.1.2⟩⟩⟩⟩⟩⟩⟩⟩⟩⟩)), (by (repeat apply rX); exact Kd.R_mono HO_329000.out (fun _ hk => ⟨hk.1.1.1.1.2, ⟨hk.1.1.1.2, ⟨hk.1.1.2, ⟨hk.1.2, ⟨hk.2, ⟨hk.1.1.1.1.1.1, ⟨hk.1.1.1.1.1.2.1, ⟨hk.1.1.1.1.1.2.2.1, ⟨hk.1.1.1.1.1.2.2.2.1, ⟨hk.1.1.1.1.1.2.2.2.2.1, hk.1.1.1.1.1.2.2.2.2.2⟩⟩⟩⟩⟩⟩⟩⟩⟩⟩)), (by (repeat apply rX); exact Kd.R_mono HO_329001.out (fun _ hk => ⟨hk.1.1.1.1.2, ⟨hk.1.1.1.2, ⟨hk.1.1.2, ⟨hk.1.2, ⟨hk.2, ⟨hk.1.1.1.1.1.1, ⟨hk.1.1.1.1.1.2.1, ⟨hk.1.1.1.1.1.2.2.1, ⟨hk.1.1.1.1.1.2.2.2.1, ⟨hk.1.1.1.1.1.2.2.2.2.1, hk.1.1.1.1.1.2.2.2.2.2⟩⟩⟩⟩⟩⟩⟩⟩⟩⟩)), (by (repeat apply rX); exact Kd.R_mono HO_336000.out (fun _ hk => ⟨hk.1.1.1.1.2, ⟨hk.1.1.1.2, ⟨hk.1.1.2, ⟨hk.1.2, ⟨hk.2, ⟨hk.1.1.1.1.1.1, ⟨hk.1.1.1.1.1.2.1, ⟨hk.1.1.1.1.1.2.2.1, ⟨hk.1.1.1.1.1.2.2.2.1, ⟨hk.1.1.1.1.1.2.2.2.2.1, hk.1.1.1.1.1.2.2.2.2.2⟩⟩⟩⟩⟩⟩⟩⟩⟩⟩)), (by (repeat apply rX); exact Kd.R_mono HO_336001.out (fun _ hk => ⟨hk.1.1.1.1.2, ⟨hk.1.1.1.2, ⟨hk.1.1.2, ⟨hk.1.2, ⟨hk.2, ⟨hk.1.1.1.1.1.1, ⟨hk.1.1.1.1.1.2.1, ⟨hk.1.1.1.1.1.2.2.1, ⟨hk.1.1.1.1.1.2.2.2.1, ⟨hk.1.1.1.1.1.2.2.2.2.1, hk.1.1.1.1.1.2.2.2.2.2⟩⟩⟩⟩⟩⟩⟩⟩⟩⟩)), (by (repeat apply rX); exact Kd.R_mono HO_347007.out (fun _ hk => ⟨hk.1.1.1.1.2, ⟨hk.1.1.1.2, ⟨hk.1.1.2, ⟨hk.1.2, ⟨hk.2, ⟨hk.1.1.1.1.1.1, ⟨hk.1.1.1.1.1.2.1, ⟨hk.1.1.1.1.1.2.2.1, ⟨hk.1.1.1.1.1.2.2.2.1, ⟨hk.1.1.1.1.1.2.2.2.2.1, hk.1.1.1.1.1.2.2.2.2.2⟩⟩⟩⟩⟩⟩⟩⟩⟩⟩)), (by (repeat apply rX); exact Kd.R_mono HO_355000.out (fun _ hk => ⟨hk.1.1.1.1.2, ⟨hk.1.1.1.2, ⟨hk.1.1.2, ⟨hk.1.2, ⟨hk.2, ⟨hk.1.1.1.1.1.1, ⟨hk.1.1.1.1.1.2.1, ⟨hk.1.1.1.1.1.2.2.1, ⟨hk.1.1.1.1.1.2.2.2.1, ⟨hk.1.1.1.1.1.2.2.2.2.1, hk.1.1.1.1.1.2.2.2.2.2⟩⟩⟩⟩⟩⟩⟩⟩⟩⟩)), (by (repeat apply rX); exact Kd.R_mono HO_355001.out (fun _ hk => ⟨hk.1.1.1.1.2, ⟨hk.1.1.1.2, ⟨hk.1.1.2, ⟨hk.1.2, ⟨hk.2, ⟨hk.1.1.1.1.1.1, ⟨hk.1.1.1.1.1.2.1, ⟨hk.1.1.1.1.1.2.2.1, ⟨hk.1.1.1.1.1.2.2.2.1, ⟨hk.1.1.1.1.1.2.2.2.2.1, hk.1.1.1.1.1.2.2.2.2.2⟩⟩⟩⟩⟩⟩⟩⟩⟩⟩)), (bY BK301.out), (bY BK302.out), (bY BK328.out), (bY BK335.out), (bY BK346.out), (bY BK354.out), (bY BK407.out), GW407.out, GE407.out, NB301_407.out, NB407_301.out, NB302_407.out, NB407_302.out, NB328_407.out, NB407_328.out, NB335_407.out, NB407_335.out, NB346_407.out, NB407_346.out, NB354_407.out, NB407_354.out, (by repeat (first | (with_reducible first | exact HB.out | apply below_alloc | apply pw_below_drewN | apply below_drew1 | refine below_set ?_ GE301.out | refine below_set ?_ GE302.out | refine below_set ?_ GE328.out | refine below_set ?_ GE335.out | refine below_set ?_ GE346.out | refine below_set ?_ GE354.out | refine below_set ?_ GE407.out) | exact HB.out))⟩)
  rintro ⟨v385, v388, v398, v401, v404, gb407⟩ w188 ⟨hS_, h0_, h1_, h2_, h3_, h4_, h5_, h6_, h7_, h8_, h9_, h10_, h11_, h12_, h13_, h14_, h15_, h16_, h17_, h18_, h19_, h20_, h21_, h22_, h23_, h24_, h25_, h26_, h27_, h28_, h29_, h30_, h31_, h32_, h33_⟩
  have n0_ : Aside0 (Kd.R (Kd.int .i64) 3 w188 w.heap.size (fun k_ => some k_ ≠ (v388 : Value).ownBlock ∧ some k_ ≠ (v398 : Value).ownBlock ∧ some k_ ≠ (v401 : Value).ownBlock ∧ some k_ ≠ (v404 : Value).ownBlock ∧ some k_ ≠ (.slice Ao42 t321.length co42 : Value).ownBlock ∧ some k_ ≠ (.slice Ao44 t324.length co44 : Value).ownBlock ∧ some k_ ≠ (.slice Ao50 t375.length co50 : Value).ownBlock ∧ some k_ ≠ (.slice Ao55 t376.length co55 : Value).ownBlock ∧ some k_ ≠ (.slice Ao65 t378.length co65 : Value).ownBlock ∧ some k_ ≠ (.slice Ao69 t347.length co69 : Value).ownBlock ∧ some k_ ≠ (.slice Ao76 t350.length co76 : Value).ownBlock) v385 t384) := ⟨h0_⟩
  have n1_ : Aside0 (Kd.R (Kd.int .i64) 3 w188 w.heap.size (fun k_ => some k_ ≠ (v385 : Value).ownBlock ∧ some k_ ≠ (v398 : Value).ownBlock ∧ some k_ ≠ (v401 : Value).ownBlock ∧ some k_ ≠ (v404 : Value).ownBlock ∧ some k_ ≠ (.slice Ao42 t321.length co42 : Value).ownBlock ∧ some k_ ≠ (.slice Ao44 t324.length co44 : Value).ownBlock ∧ some k_ ≠ (.slice Ao50 t375.length co50 : Value).ownBlock ∧ some k_ ≠ (.slice Ao55 t376.length co55 : Value).ownBlock ∧ some k_ ≠ (.slice Ao65 t378.length co65 : Value).ownBlock ∧ some k_ ≠ (.slice Ao69 t347.length co69 : Value).ownBlock ∧ some k_ ≠ (.slice Ao76 t350.length co76 : Value).ownBlock) v388 t387) := ⟨h1_⟩
  have n2_ : Aside0 (Kd.R (Kd.int .i64) 3 w188 w.heap.size (fun k_ => some k_ ≠ (v385 : Value).ownBlock ∧ some k_ ≠ (v388 : Value).ownBlock ∧ some k_ ≠ (v401 : Value).ownBlock ∧ some k_ ≠ (v404 : Value).ownBlock ∧ some k_ ≠ (.slice Ao42 t321.length co42 : Value).ownBlock ∧ some k_ ≠ (.slice Ao44 t324.length co44 : Value).ownBlock ∧ some k_ ≠ (.slice Ao50 t375.length co50 : Value).ownBlock ∧ some k_ ≠ (.slice Ao55 t376.length co55 : Value).ownBlock ∧ some k_ ≠ (.slice Ao65 t378.length co65 : Value).ownBlock ∧ some k_ ≠ (.slice Ao69 t347.length co69 : Value).ownBlock ∧ some k_ ≠ (.slice Ao76 t350.length co76 : Value).ownBlock) v398 t397) := ⟨h2_⟩
  have n3_ : Aside0 (Kd.R (Kd.int .i64) 3 w188 w.heap.size (fun k_ => some k_ ≠ (v385 : Value).ownBlock ∧ some k_ ≠ (v388 : Value).ownBlock ∧ some k_ ≠ (v398 : Value).ownBlock ∧ some k_ ≠ (v404 : Value).ownBlock ∧ some k_ ≠ (.slice Ao42 t321.length co42 : Value).ownBlock ∧ some k_ ≠ (.slice Ao44 t324.length co44 : Value).ownBlock ∧ some k_ ≠ (.slice Ao50 t375.length co50 : Value).ownBlock ∧ some k_ ≠ (.slice Ao55 t376.length co55 : Value).ownBlock ∧ some k_ ≠ (.slice Ao65 t378.length co65 : Value).ownBlock ∧ some k_ ≠ (.slice Ao69 t347.length co69 : Value).ownBlock ∧ some k_ ≠ (.slice Ao76 t350.length co76 : Value).ownBlock) v401 t400) := ⟨h3_⟩
  have n4_ : Aside0 (Kd.R (Kd.int .i64) 3 w188 w.heap.size (fun k_ => some k_ ≠ (v385 : Value).ownBlock ∧ some k_ ≠ (v388 : Value).ownBlock ∧ some k_ ≠ (v398 : Value).ownBlock ∧ some k_ ≠ (v401 : Value).ownBlock ∧ some k_ ≠ (.slice Ao42 t321.length co42 : Value).ownBlock ∧ some k_ ≠ (.slice Ao44 t324.length co44 : Value).ownBlock ∧ some k_ ≠ (.slice Ao50 t375.length co50 : Value).ownBlock ∧ some k_ ≠ (.slice Ao55 t376.length co55 : Value).ownBlock ∧ some k_ ≠ (.slice Ao65 t378.length co65 : Value).ownBlock ∧ some k_ ≠ (.slice Ao69 t347.length co69 : Value).ownBlock ∧ some k_ ≠ (.slice Ao76 t350.length co76 : Value).ownBlock) v404 t403) := ⟨h4_⟩
  have n5_ : Aside0 (Kd.R (Kd.int .i64) 3 w188 w.heap.size (fun k_ => some k_ ≠ (v385 : Value).ownBlock ∧ some k_ ≠ (v388 : Value).ownBlock ∧ some k_ ≠ (v398 : Value).ownBlock ∧ some k_ ≠ (v401 : Value).ownBlock ∧ some k_ ≠ (v404 : Value).ownBlock ∧ some k_ ≠ (.slice Ao44 t324.length co44 : Value).ownBlock ∧ some k_ ≠ (.slice Ao50 t375.length co50 : Value).ownBlock ∧ some k_ ≠ (.slice Ao55 t376.length co55 : Value).ownBlock ∧ some k_ ≠ (.slice Ao65 t378.length co65 : Value).ownBlock ∧ some k_ ≠ (.slice Ao69 t347.length co69 : Value).ownBlock ∧ some k_ ≠ (.slice Ao76 t350.length co76 : Value).ownBlock) (.slice Ao42 t321.length co42) t321) := ⟨h5_⟩
  have n6_ : Aside0 (Kd.R (Kd.int .i64) 3 w188 w.heap.size (fun k_ => some k_ ≠ (v385 : Value).ownBlock ∧ some k_ ≠ (v388 : Value).ownBlock ∧ some k_ ≠ (v398 : Value).ownBlock ∧ some k_ ≠ (v401 : Value).ownBlock ∧ some k_ ≠ (v404 : Value).ownBlock ∧ some k_ ≠ (.slice Ao42 t321.length co42 : Value).ownBlock ∧ some k_ ≠ (.slice Ao50 t375.length co50 : Value).ownBlock ∧ some k_ ≠ (.slice Ao55 t376.length co55 : Value).ownBlock ∧ some k_ ≠ (.slice Ao65 t378.length co65 : Value).ownBlock ∧ some k_ ≠ (.slice Ao69 t347.length co69 : Value).ownBlock ∧ some k_ ≠ (.slice Ao76 t350.length co76 : Value).ownBlock) (.slice Ao44 t324.length co44) t324) := ⟨h6_⟩
  have n7_ : Aside0 (Kd.R (Kd.int .i64) 3 w188 w.heap.size (fun k_ => some k_ ≠ (v385 : Value).ownBlock ∧ some k_ ≠ (v388 : Value).ownBlock ∧ some k_ ≠ (v398 : Value).ownBlock ∧ some k_ ≠ (v401 : Value).ownBlock ∧ some k_ ≠ (v404 : Value).ownBlock ∧ some k_ ≠ (.slice Ao42 t321.length co42 : Value).ownBlock ∧ some k_ ≠ (.slice Ao44 t324.length co44 : Value).ownBlock ∧ some k_ ≠ (.slice Ao55 t376.length co55 : Value).ownBlock ∧ some k_ ≠ (.slice Ao65 t378.length co65 : Value).ownBlock ∧ some k_ ≠ (.slice Ao69 t347.length co69 : Value).ownBlock ∧ some k_ ≠ (.slice Ao76 t350.length co76 : Value).ownBlock) (.slice Ao50 t375.length co50) t375) := ⟨h7_⟩
  have n8_ : Aside0 (Kd.R (Kd.int .i64) 3 w188 w.heap.size (fun k_ => some k_ ≠ (v385 : Value).ownBlock ∧ some k_ ≠ (v388 : Value).ownBlock ∧ some k_ ≠ (v398 : Value).ownBlock ∧ some k_ ≠ (v401 : Value).ownBlock ∧ some k_ ≠ (v404 : Value).ownBlock ∧ some k_ ≠ (.slice Ao42 t321.length co42 : Value).ownBlock ∧ some k_ ≠ (.slice Ao44 t324.length co44 : Value).ownBlock ∧ some k_ ≠ (.slice Ao50 t375.length co50 : Value).ownBlock ∧ some k_ ≠ (.slice Ao65 t378.length co65 : Value).ownBlock ∧ some k_ ≠ (.slice Ao69 t347.length co69 : Value).ownBlock ∧ some k_ ≠ (.slice Ao76 t350.length co76 : Value).ownBlock) (.slice Ao55 t376.length co55) t376) := ⟨h8_⟩
  have n9_ : Aside0 (Kd.R (Kd.int .i64) 3 w188 w.heap.size (fun k_ => some k_ ≠ (v385 : Value).ownBlock ∧ some k_ ≠ (v388 : Value).ownBlock ∧ some k_ ≠ (v398 : Value).ownBlock ∧ some k_ ≠ (v401 : Value).ownBlock ∧ some k_ ≠ (v404 : Value).ownBlock ∧ some k_ ≠ (.slice Ao42 t321.length co42 : Value).ownBlock ∧ some k_ ≠ (.slice Ao44 t324.length co44 : Value).ownBlock ∧ some k_ ≠ (.slice Ao50 t375.length co50 : Value).ownBlock ∧ some k_ ≠ (.slice Ao55 t376.length co55 : Value).ownBlock ∧ some k_ ≠ (.slice Ao69 t347.length co69 : Value).ownBlock ∧ some k_ ≠ (.slice Ao76 t350.length co76 : Value).ownBlock) (.slice Ao65 t378.length co65) t378) := ⟨h9_⟩
  have n10_ : Aside0 (Kd.R (Kd.int .i64) 3 w188 w.heap.size (fun k_ => some k_ ≠ (v385 : Value).ownBlock ∧ some k_ ≠ (v388 : Value).ownBlock ∧ some k_ ≠ (v398 : Value).ownBlock ∧ some k_ ≠ (v401 : Value).ownBlock ∧ some k_ ≠ (v404 : Value).ownBlock ∧ some k_ ≠ (.slice Ao42 t321.length co42 : Value).ownBlock ∧ some k_ ≠ (.slice Ao44 t324.length co44 : Value).ownBlock ∧ some k_ ≠ (.slice Ao50 t375.length co50 : Value).ownBlock ∧ some k_ ≠ (.slice Ao55 t376.length co55 : Value).ownBlock ∧ some k_ ≠ (.slice Ao65 t378.length co65 : Value).ownBlock ∧ some k_ ≠ (.slice Ao76 t350.length co76 : Value).ownBlock) (.slice Ao69 t347.length co69) t381) := ⟨h10_⟩
  have n11_ : Aside0 (Kd.R (Kd.int .i64) 3 w188 w.heap.size (fun k_ => some k_ ≠ (v385 : Value).ownBlock ∧ some k_ ≠ (v388 : Value).ownBlock ∧ some k_ ≠ (v398 : Value).ownBlock ∧ some k_ ≠ (v401 : Value).ownBlock ∧ some k_ ≠ (v404 : Value).ownBlock ∧ some k_ ≠ (.slice Ao42 t321.length co42 : Value).ownBlock ∧ some k_ ≠ (.slice Ao44 t324.length co44 : Value).ownBlock ∧ some k_ ≠ (.slice Ao50 t375.length co50 : Value).ownBlock ∧ some k_ ≠ (.slice Ao55 t376.length co55 : Value).ownBlock ∧ some k_ ≠ (.slice Ao65 t378.length co65 : Value).ownBlock ∧ some k_ ≠ (.slice Ao69 t347.length co69 : Value).ownBlock) (.slice Ao76 t350.length co76) t382) := ⟨h11_⟩
  have n12_ : Aside0 (w188.heap[gb301]? = some (.cells #[.slice A0_0 l0_0.length c0_0, .slice A0_1 l0_1.length c0_1] 24 (0, 0))) := ⟨h12_⟩
  have n13_ : Aside0 (w188.heap[gb302]? = some (.cells #[.int .i64 a1_0, .int .i64 a1_1, .int .i64 a1_2, .int .i64 a1_3, .int .i64 a1_4, .int .i64 a1_5, .int .i64 a1_6, .slice A1_7 l1_7.length c1_7] 32 (0, 0))) := ⟨h13_⟩
  have n14_ : Aside0 (w188.heap[gb328]? = some (.cells #[.slice Ao42 t321.length co42, .slice Ao44 t324.length co44] 27 (0, 0))) := ⟨h14_⟩
  have n15_ : Aside0 (w188.heap[gb335]? = some (.cells #[.slice Ao50 t375.length co50, .slice Ao55 t376.length co55] 27 (0, 0))) := ⟨h15_⟩
  have n16_ : Aside0 (w188.heap[gb346]? = some (.cells #[.int .i64 t336, .int .i64 t337, .int .i64 t338, .int .i64 t339, .int .i64 t340, .int .i64 t341, .int .i64 t342, .slice Ao65 t378.length co65] 35 (0, 0))) := ⟨h16_⟩
  have n17_ : Aside0 (w188.heap[gb354]? = some (.cells #[.slice Ao69 t347.length co69, .slice Ao76 t350.length co76] 27 (0, 0))) := ⟨h17_⟩
  have n18_ : Aside0 (w188.heap[gb407]? = some (.cells #[.slice none 0 0, .slice none 0 0] 27 (0, 0))) := ⟨h18_⟩
  have n19_ : Aside0 (w.heap.size ≤ gb407) := ⟨h19_⟩
  have n20_ : Aside0 (w.heap.size ≤ gb407) := ⟨h20_⟩
  have n21_ : Aside0 (gb301 ≠ gb407) := ⟨h21_⟩
  have n22_ : Aside0 (gb407 ≠ gb301) := ⟨h22_⟩
  have n23_ : Aside0 (gb302 ≠ gb407) := ⟨h23_⟩
  have n24_ : Aside0 (gb407 ≠ gb302) := ⟨h24_⟩
  have n25_ : Aside0 (gb328 ≠ gb407) := ⟨h25_⟩
  have n26_ : Aside0 (gb407 ≠ gb328) := ⟨h26_⟩
  have n27_ : Aside0 (gb335 ≠ gb407) := ⟨h27_⟩
  have n28_ : Aside0 (gb407 ≠ gb335) := ⟨h28_⟩
  have n29_ : Aside0 (gb346 ≠ gb407) := ⟨h29_⟩
  have n30_ : Aside0 (gb407 ≠ gb346) := ⟨h30_⟩
  have n31_ : Aside0 (gb354 ≠ gb407) := ⟨h31_⟩
  have n32_ : Aside0 (gb407 ≠ gb354) := ⟨h32_⟩
  have n33_ : Aside0 (Below w.heap.size w w188) := ⟨h33_⟩
  clear HO_329000
  clear HO_329001
  clear HO_336000
  clear HO_336001
  clear HO_347007
  clear HO_355000
  clear HO_355001
  clear BK301
  clear BK302
  clear BK328
  clear BK335
  clear BK346
  clear BK354
  clear HB
  clear h0_ h1_ h2_ h3_ h4_ h5_ h6_ h7_ h8_ h9_ h10_ h11_ h12_ h13_ h14_ h15_ h16_ h17_ h18_ h19_ h20_ h21_ h22_ h23_ h24_ h25_ h26_ h27_ h28_ h29_ h30_ h31_ h32_ h33_
  have HO386 := n0_
  have HO389 := n1_
  have HO399 := n2_
  have HO402 := n3_
  have HO405 := n4_
  have HO_329000 := n5_
  have HO_329001 := n6_
  have HO_336000 := n7_
  have HO_336001 := n8_
  have HO_347007 := n9_
  have HO_355000 := n10_
  have HO_355001 := n11_
  have BK301 := n12_
  have BK302 := n13_
  have BK328 := n14_
  have BK335 := n15_
  have BK346 := n16_
  have BK354 := n17_
  have BK407 := n18_
  have GW407 := n19_
  have GE407 := n20_
  have NB301_407 := n21_
  have NB407_301 := n22_
  have NB302_407 := n23_
  have NB407_302 := n24_
  have NB328_407 := n25_
  have NB407_328 := n26_
  have NB335_407 := n27_
  have NB407_335 := n28_
  have NB346_407 := n29_
  have NB407_346 := n30_
  have NB354_407 := n31_
  have NB407_354 := n32_
  have HB := n33_
  clear n0_ n1_ n2_ n3_ n4_ n5_ n6_ n7_ n8_ n9_ n10_ n11_ n12_ n13_ n14_ n15_ n16_ n17_ n18_ n19_ n20_ n21_ n22_ n23_ n24_ n25_ n26_ n27_ n28_ n29_ n30_ n31_ n32_ n33_
  have hHeld : w188.cell? ⟨gb301, 0, none⟩ = some (.slice A0_0 l0_0.length c0_0) ∧ w188.cell? ⟨gb301, 1, none⟩ = some (.slice A0_1 l0_1.length c0_1) ∧ w188.cell? ⟨gb302, 0, none⟩ = some (.int .i64 a1_0) ∧ w188.cell? ⟨gb302, 1, none⟩ = some (.int .i64 a1_1) ∧ w188.cell? ⟨gb302, 2, none⟩ = some (.int .i64 a1_2) ∧ w188.cell? ⟨gb302, 3, none⟩ = some (.int .i64 a1_3) ∧ w188.cell? ⟨gb302, 4, none⟩ = some (.int .i64 a1_4) ∧ w188.cell? ⟨gb302, 5, none⟩ = some (.int .i64 a1_5) ∧ w188.cell? ⟨gb302, 6, none⟩ = some (.int .i64 a1_6) ∧ w188.cell? ⟨gb302, 7, none⟩ = some (.slice A1_7 l1_7.length c1_7) := hS_
  obtain ⟨Ao189, co189, eo189⟩ := Kd.R_slice HO402.out
  (first | subst eo189 | (injection eo189 with f1_ f2_ f3_; have f4_ := f1_.symm; have f5_ := f3_.symm; clear f1_ f2_ f3_; subst f4_; subst f5_))
  obtain ⟨Ao191, co191, eo191⟩ := Kd.R_slice HO405.out
  (first | subst eo191 | (injection eo191 with f1_ f2_ f3_; have f4_ := f1_.symm; have f5_ := f3_.symm; clear f1_ f2_ f3_; subst f4_; subst f5_))
  refine norm_ (a' := ?_) ?_ ?_
  rotate_left
  ·simp only [putAll, Act.put, List.setIfInBounds_toArray, List.set_cons_zero, List.set_cons_succ]
   rfl
  refine one_ (i := 9) (N := none) #[T, T, T, T, T, T, T, T, T, T, F] rfl rfl (one_of HT_.out (by kernel_rfl)) (by decide) (fun K hK => ?_)
  have hs190 : w188.cell? ⟨gb407, 0, none⟩ = some (.slice none 0 0) := (blk_cell BK407.out 0).trans rfl
  have hfs190 := blk_frozen BK407.out 0
  have hns190_0 := NB301_407.out
  have hns190_1 := NB302_407.out
  have hns190_2 := NB328_407.out
  have hns190_3 := NB335_407.out
  have hns190_4 := NB346_407.out
  have hns190_5 := NB354_407.out
  have hms190_0 := NB407_301.out
  have hms190_1 := NB407_302.out
  have hms190_2 := NB407_328.out
  have hms190_3 := NB407_335.out
  have hms190_4 := NB407_346.out
  have hms190_5 := NB407_354.out
  have hs192 : w188.cell? ⟨gb407, 1, none⟩ = some (.slice none 0 0) := (blk_cell BK407.out 1).trans rfl
  have hfs192 := blk_frozen BK407.out 1
  have hns192_0 := NB301_407.out
  have hns192_1 := NB302_407.out
  have hns192_2 := NB328_407.out
  have hns192_3 := NB335_407.out
  have hns192_4 := NB346_407.out
  have hns192_5 := NB354_407.out
  have hms192_0 := NB407_301.out
  have hms192_1 := NB407_302.out
  have hms192_2 := NB407_328.out
  have hms192_3 := NB407_335.out
  have hms192_4 := NB407_346.out
  have hms192_5 := NB407_354.out
  refine skip_ (w1 := ?_) (by rfl) rfl ?_ ?_
  rotate_left
  ·go_simp
   rfl
  refine hK.out _ _ ⟨((cell_far (p := ⟨gb407, _, none⟩) NB301_407.out _).trans (((cell_far (p := ⟨gb407, _, none⟩) NB301_407.out _).trans (hHeld.1)))), ((cell_far (p := ⟨gb407, _, none⟩) NB301_407.out _).trans (((cell_far (p := ⟨gb407, _, none⟩) NB301_407.out _).trans (hHeld.2.1)))), ((cell_far (p := ⟨gb407, _, none⟩) NB302_407.out _).trans (((cell_far (p := ⟨gb407, _, none⟩) NB302_407.out _).trans (hHeld.2.2.1)))), ((cell_far (p := ⟨gb407, _, none⟩) NB302_407.out _).trans (((cell_far (p := ⟨gb407, _, none⟩) NB302_407.out _).trans (hHeld.2.2.2.1)))), ((cell_far (p := ⟨gb407, _, none⟩) NB302_407.out _).trans (((cell_far (p := ⟨gb407, _, none⟩) NB302_407.out _).trans (hHeld.2.2.2.2.1)))), ((cell_far (p := ⟨gb407, _, none⟩) NB302_407.out _).trans (((cell_far (p := ⟨gb407, _, none⟩) NB302_407.out _).trans (hHeld.2.2.2.2.2.1)))), ((cell_far (p := ⟨gb407, _, none⟩) NB302_407.out _).trans (((cell_far (p := ⟨gb407, _, none⟩) NB302_407.out _).trans (hHeld.2.2.2.2.2.2.1)))), ((cell_far (p := ⟨gb407, _, none⟩) NB302_407.out _).trans (((cell_far (p := ⟨gb407, _, none⟩) NB302_407.out _).trans (hHeld.2.2.2.2.2.2.2.1)))), ((cell_far (p := ⟨gb407, _, none⟩) NB302_407.out _).trans (((cell_far (p := ⟨gb407, _, none⟩) NB302_407.out _).trans (hHeld.2.2.2.2.2.2.2.2.1)))), ((cell_far (p := ⟨gb407, _, none⟩) NB302_407.out _).trans (((cell_far (p := ⟨gb407, _, none⟩) NB302_407.out _).trans (hHeld.2.2.2.2.2.2.2.2.2))))⟩ (fun hHeld => ?_)
  clear hK K
  refine pure_ (i := 10) (N := some 16) (v := ?_) (a' := ?_) #[T, T, T, T, T, T, T, T, T, T, T] rfl rfl (any_of HT_.out (by kernel_rfl)) (fun _ _ _ h => h) (Or.inl ⟨by rfl, ?_⟩) ?_ ?_
  rotate_left
  ·intro w'
   go_simp
   with_reducible rfl
  rotate_left
  ·simp only [pS]
   rfl
  refine done_ (done_of HT_.out (by kernel_rfl)) ?_
  go_upto_region 32 with (fail)
  go_cut [110] (fun v110 wc => ∃ (kq : Nat) (x110_169 : Bool), v110 = .bool x110_169 ∧ Aside0 (laws_FnExactReturnCredits.j2 kq t380 x110_169 t381 t382 = some r) ∧ Aside0 (kq ≤ kj111) ∧ Aside0 (Kd.R (Kd.int .i64) 3 wc w.heap.size (fun k_ => some k_ ≠ ((.slice Ao44 t324.length co44) : Value).ownBlock ∧ some k_ ≠ ((.slice Ao50 t375.length co50) : Value).ownBlock ∧ some k_ ≠ ((.slice Ao55 t376.length co55) : Value).ownBlock ∧ some k_ ≠ ((.slice Ao65 t378.length co65) : Value).ownBlock ∧ some k_ ≠ ((.slice Ao69 t347.length co69) : Value).ownBlock ∧ some k_ ≠ ((.slice Ao76 t350.length co76) : Value).ownBlock ∧ some k_ ≠ ((.slice Ao189 t400.length co189) : Value).ownBlock ∧ some k_ ≠ ((.slice Ao191 t403.length co191) : Value).ownBlock) (.slice Ao42 t321.length co42) t321) ∧ Aside0 (Kd.R (Kd.int .i64) 3 wc w.heap.size (fun k_ => some k_ ≠ ((.slice Ao42 t321.length co42) : Value).ownBlock ∧ some k_ ≠ ((.slice Ao50 t375.length co50) : Value).ownBlock ∧ some k_ ≠ ((.slice Ao55 t376.length co55) : Value).ownBlock ∧ some k_ ≠ ((.slice Ao65 t378.length co65) : Value).ownBlock ∧ some k_ ≠ ((.slice Ao69 t347.length co69) : Value).ownBlock ∧ some k_ ≠ ((.slice Ao76 t350.length co76) : Value).ownBlock ∧ some k_ ≠ ((.slice Ao189 t400.length co189) : Value).ownBlock ∧ some k_ ≠ ((.slice Ao191 t403.length co191) : Value).ownBlock) (.slice Ao44 t324.length co44) t324) ∧ Aside0 (Kd.R (Kd.int .i64) 3 wc w.heap.size (fun k_ => some k_ ≠ ((.slice Ao42 t321.length co42) : Value).ownBlock ∧ some k_ ≠ ((.slice Ao44 t324.length co44) : Value).ownBlock ∧ some k_ ≠ ((.slice Ao55 t376.length co55) : Value).ownBlock ∧ some k_ ≠ ((.slice Ao65 t378.length co65) : Value).ownBlock ∧ some k_ ≠ ((.slice Ao69 t347.length co69) : Value).ownBlock ∧ some k_ ≠ ((.slice Ao76 t350.length co76) : Value).ownBlock ∧ some k_ ≠ ((.slice Ao189 t400.length co189) : Value).ownBlock ∧ some k_ ≠ ((.slice Ao191 t403.length co191) : Value).ownBlock) (.slice Ao50 t375.length co50) t375) ∧ Aside0 (Kd.R (Kd.int .i64) 3 wc w.heap.size (fun k_ => some k_ ≠ ((.slice Ao42 t321.length co42) : Value).ownBlock ∧ some k_ ≠ ((.slice Ao44 t324.length co44) : Value).ownBlock ∧ some k_ ≠ ((.slice Ao50 t375.length co50) : Value).ownBlock ∧ some k_ ≠ ((.slice Ao65 t378.length co65) : Value).ownBlock ∧ some k_ ≠ ((.slice Ao69 t347.length co69) : Value).ownBlock ∧ some k_ ≠ ((.slice Ao76 t350.length co76) : Value).ownBlock ∧ some k_ ≠ ((.slice Ao189 t400.length co189) : Value).ownBlock ∧ some k_ ≠ ((.slice Ao191 t403.length co191) : Value).ownBlock) (.slice Ao55 t376.length co55) t376) ∧ Aside0 (Kd.R (Kd.int .i64) 3 wc w.heap.size (fun k_ => some k_ ≠ ((.slice Ao42 t321.length co42) : Value).ownBlock ∧ some k_ ≠ ((.slice Ao44 t324.length co44) : Value).ownBlock ∧ some k_ ≠ ((.slice Ao50 t375.length co50) : Value).ownBlock ∧ some k_ ≠ ((.slice Ao55 t376.length co55) : Value).ownBlock ∧ some k_ ≠ ((.slice Ao69 t347.length co69) : Value).ownBlock ∧ some k_ ≠ ((.slice Ao76 t350.length co76) : Value).ownBlock ∧ some k_ ≠ ((.slice Ao189 t400.length co189) : Value).ownBlock ∧ some k_ ≠ ((.slice Ao191 t403.length co191) : Value).ownBlock) (.slice Ao65 t378.length co65) t378) ∧ Aside0 (Kd.R (Kd.int .i64) 3 wc w.heap.size (fun k_ => some k_ ≠ ((.slice Ao42 t321.length co42) : Value).ownBlock ∧ some k_ ≠ ((.slice Ao44 t324.length co44) : Value).ownBlock ∧ some k_ ≠ ((.slice Ao50 t375.length co50) : Value).ownBlock ∧ some k_ ≠ ((.slice Ao55 t376.length co55) : Value).ownBlock ∧ some k_ ≠ ((.slice Ao65 t378.length co65) : Value).ownBlock ∧ some k_ ≠ ((.slice Ao76 t350.length co76) : Value).ownBlock ∧ some k_ ≠ ((.slice Ao189 t400.length co189) : Value).ownBlock ∧ some k_ ≠ ((.slice Ao191 t403.length co191) : Value).ownBlock) (.slice Ao69 t347.length co69) t381) ∧ Aside0 (Kd.R (Kd.int .i64) 3 wc w.heap.size (fun k_ => some k_ ≠ ((.slice Ao42 t321.length co42) : Value).ownBlock ∧ some k_ ≠ ((.slice Ao44 t324.length co44) : Value).ownBlock ∧ some k_ ≠ ((.slice Ao50 t375.length co50) : Value).ownBlock ∧ some k_ ≠ ((.slice Ao55 t376.length co55) : Value).ownBlock ∧ some k_ ≠ ((.slice Ao65 t378.length co65) : Value).ownBlock ∧ some k_ ≠ ((.slice Ao69 t347.length co69) : Value).ownBlock ∧ some k_ ≠ ((.slice Ao189 t400.length co189) : Value).ownBlock ∧ some k_ ≠ ((.slice Ao191 t403.length co191) : Value).ownBlock) (.slice Ao76 t350.length co76) t382) ∧ Aside0 (Kd.R (Kd.int .i64) 3 wc w.heap.size (fun k_ => some k_ ≠ ((.slice Ao42 t321.length co42) : Value).ownBlock ∧ some k_ ≠ ((.slice Ao44 t324.length co44) : Value).ownBlock ∧ some k_ ≠ ((.slice Ao50 t375.length co50) : Value).ownBlock ∧ some k_ ≠ ((.slice Ao55 t376.length co55) : Value).ownBlock ∧ some k_ ≠ ((.slice Ao65 t378.length co65) : Value).ownBlock ∧ some k_ ≠ ((.slice Ao69 t347.length co69) : Value).ownBlock ∧ some k_ ≠ ((.slice Ao76 t350.length co76) : Value).ownBlock ∧ some k_ ≠ ((.slice Ao191 t403.length co191) : Value).ownBlock) (.slice Ao189 t400.length co189) t400) ∧ Aside0 (Kd.R (Kd.int .i64) 3 wc w.heap.size (fun k_ => some k_ ≠ ((.slice Ao42 t321.length co42) : Value).ownBlock ∧ some k_ ≠ ((.slice Ao44 t324.length co44) : Value).ownBlock ∧ some k_ ≠ ((.slice Ao50 t375.length co50) : Value).ownBlock ∧ some k_ ≠ ((.slice Ao55 t376.length co55) : Value).ownBlock ∧ some k_ ≠ ((.slice Ao65 t378.length co65) : Value).ownBlock ∧ some k_ ≠ ((.slice Ao69 t347.length co69) : Value).ownBlock ∧ some k_ ≠ ((.slice Ao76 t350.length co76) : Value).ownBlock ∧ some k_ ≠ ((.slice Ao189 t400.length co189) : Value).ownBlock) (.slice Ao191 t403.length co191) t403) ∧ Aside0 (wc.heap[gb301]? = some (.cells #[(.slice A0_0 l0_0.length c0_0), (.slice A0_1 l0_1.length c0_1)] 24 (0, 0))) ∧ Aside0 (wc.heap[gb302]? = some (.cells #[.int .i64 a1_0, .int .i64 a1_1, .int .i64 a1_2, .int .i64 a1_3, .int .i64 a1_4, .int .i64 a1_5, .int .i64 a1_6, (.slice A1_7 l1_7.length c1_7)] 32 (0, 0))) ∧ Aside0 (wc.heap[gb328]? = some (.cells #[(.slice Ao42 t321.length co42), (.slice Ao44 t324.length co44)] 27 (0, 0))) ∧ Aside0 (wc.heap[gb335]? = some (.cells #[(.slice Ao50 t375.length co50), (.slice Ao55 t376.length co55)] 27 (0, 0))) ∧ Aside0 (wc.heap[gb346]? = some (.cells #[.int .i64 t336, .int .i64 t337, .int .i64 t338, .int .i64 t339, .int .i64 t340, .int .i64 t341, .int .i64 t342, (.slice Ao65 t378.length co65)] 35 (0, 0))) ∧ Aside0 (wc.heap[gb354]? = some (.cells #[(.slice Ao69 t347.length co69), (.slice Ao76 t350.length co76)] 27 (0, 0))) ∧ Aside0 (wc.heap[gb407]? = some (.cells #[(.slice Ao189 t400.length co189), (.slice Ao191 t403.length co191)] 27 (0, 0))) ∧ Aside0 (Below w.heap.size w wc))
  case first =>
   have H := HC170.out
   clear HC170
   replace H := Option.bind_eq_some_iff.mp H
   obtain ⟨t408, A1930, H⟩ := H
   have A193 := Aside0.mk A1930
   clear A1930
   by_cases c194 : t408 = true
   ·subst c194
    have H1 : (laws_FnExactReturnCredits.j2 kj111 t380 (t406 != t327) t381 t382) = some r := by rw [if_pos rfl] at H; exact H
    clear H
    have H := H1
    clear H1
    have H' := Aside0.mk H
    clear H
    have hnb195 := NB407_301.out
    have hnc195 := NB301_407.out
    have hnb196 := NB407_302.out
    have hnc196 := NB302_407.out
    have hnb197 := NB407_328.out
    have hnc197 := NB328_407.out
    have hnb198 := NB407_335.out
    have hnc198 := NB335_407.out
    have hnb199 := NB407_346.out
    have hnc199 := NB346_407.out
    have hnb200 := NB407_354.out
    have hnc200 := NB354_407.out
    obtain ⟨hcz201_0, hcz201_1, hfz201_0, hfz201_1⟩ := b2 BK407.out
    have hnb202 := NB328_301.out
    have hnc202 := NB301_328.out
    have hnb203 := NB328_302.out
    have hnc203 := NB302_328.out
    have hnb204 := NB328_335.out
    have hnc204 := NB335_328.out
    have hnb205 := NB328_346.out
    have hnc205 := NB346_328.out
    have hnb206 := NB328_354.out
    have hnc206 := NB354_328.out
    obtain ⟨hcz207_0, hcz207_1, hfz207_0, hfz207_1⟩ := b2 BK328.out
    go_wp2_with (first | ((with_reducible refine gate_callee (f := 19) rfl ?_); refine goesL_ (some 104) rfl rfl Try.func19 (by kernel_rfl) rfl #[.agg #[.slice Ao189 t400.length co189, .slice Ao191 t403.length co191], .agg #[.slice Ao42 t321.length co42, .slice Ao44 t324.length co44]] rfl (by (try simp only [List.map_toArray, List.map_cons, List.map_nil]); first | done | rfl) ?_; (with_reducible refine (laws_eqCredits.calls kj111 _ _ t400 _ _ t403 _ _ t321 _ _ t324 true _ ?side1 ?side2 ?side3 ?side4 ?side5 ?side6 ?side7 ?side8 A193.out).mono ?_); (case side1 => refine (Kd.R_reads' (e := 3) (base := w.heap.size) (ok := fun k_ => (some k_ ≠ (v385 : Value).ownBlock ∧ (some k_ ≠ (v388 : Value).ownBlock ∧ (some k_ ≠ (v398 : Value).ownBlock ∧ (some k_ ≠ (.slice Ao191 t403.length co191 : Value).ownBlock ∧ (some k_ ≠ (.slice Ao42 t321.length co42 : Value).ownBlock ∧ (some k_ ≠ (.slice Ao44 t324.length co44 : Value).ownBlock ∧ (some k_ ≠ (.slice Ao50 t375.length co50 : Value).ownBlock ∧ (some k_ ≠ (.slice Ao55 t376.length co55 : Value).ownBlock ∧ (some k_ ≠ (.slice Ao65 t378.length co65 : Value).ownBlock ∧ (some k_ ≠ (.slice Ao69 t347.length co69 : Value).ownBlock ∧ some k_ ≠ (.slice Ao76 t350.length co76 : Value).ownBlock))))))))))) (n := t400.length) (c := co189) ?_).2.2; exact (by (repeat apply rX); exact (Kd.R_mono (Kd.R_far (p := ⟨gb407, 1, none⟩) (Kd.R_far (p := ⟨gb407, 0, none⟩) (Kd.R_types HO402.out BK407.out (by decide)) (fun _ hk => hk.2) (.slice Ao189 t400.length co189)) (fun _ hk => hk.2) (.slice Ao191 t403.length co191)) (fun _ h_ => h_.1)))); (case side2 => exact (Kd.R_reads' HO402.out).2.1); (case side3 => refine (Kd.R_reads' (e := 3) (base := w.heap.size) (ok := fun k_ => (some k_ ≠ (v385 : Value).ownBlock ∧ (some k_ ≠ (v388 : Value).ownBlock ∧ (some k_ ≠ (v398 : Value).ownBlock ∧ (some k_ ≠ (.slice Ao189 t400.length co189 : Value).ownBlock ∧ (some k_ ≠ (.slice Ao42 t321.length co42 : Value).ownBlock ∧ (some k_ ≠ (.slice Ao44 t324.length co44 : Value).ownBlock ∧ (some k_ ≠ (.slice Ao50 t375.length co50 : Value).ownBlock ∧ (some k_ ≠ (.slice Ao55 t376.length co55 : Value).ownBlock ∧ (some k_ ≠ (.slice Ao65 t378.length co65 : Value).ownBlock ∧ (some k_ ≠ (.slice Ao69 t347.length co69 : Value).ownBlock ∧ some k_ ≠ (.slice Ao76 t350.length co76 : Value).ownBlock))))))))))) (n := t403.length) (c := co191) ?_).2.2; exact (by (repeat apply rX); exact (Kd.R_mono (Kd.R_far (p := ⟨gb407, 1, none⟩) (Kd.R_far (p := ⟨gb407, 0, none⟩) (Kd.R_types HO405.out BK407.out (by decide)) (fun _ hk => hk.2) (.slice Ao189 t400.length co189)) (fun _ hk => hk.2) (.slice Ao191 t403.length co191)) (fun _ h_ => h_.1)))); (case side4 => exact (Kd.R_reads' HO405.out).2.1); (case side5 => refine (Kd.R_reads' (e := 3) (base := w.heap.size) (ok := fun k_ => (some k_ ≠ (v385 : Value).ownBlock ∧ (some k_ ≠ (v388 : Value).ownBlock ∧ (some k_ ≠ (v398 : Value).ownBlock ∧ (some k_ ≠ (.slice Ao189 t400.length co189 : Value).ownBlock ∧ (some k_ ≠ (.slice Ao191 t403.length co191 : Value).ownBlock ∧ (some k_ ≠ (.slice Ao44 t324.length co44 : Value).ownBlock ∧ (some k_ ≠ (.slice Ao50 t375.length co50 : Value).ownBlock ∧ (some k_ ≠ (.slice Ao55 t376.length co55 : Value).ownBlock ∧ (some k_ ≠ (.slice Ao65 t378.length co65 : Value).ownBlock ∧ (some k_ ≠ (.slice Ao69 t347.length co69 : Value).ownBlock ∧ some k_ ≠ (.slice Ao76 t350.length co76 : Value).ownBlock))))))))))) (n := t321.length) (c := co42) ?_).2.2; exact (by (repeat apply rX); exact (Kd.R_mono (Kd.R_far (p := ⟨gb407, 1, none⟩) (Kd.R_far (p := ⟨gb407, 0, none⟩) (Kd.R_types HO_329000.out BK407.out (by decide)) (fun _ hk => hk.2) (.slice Ao189 t400.length co189)) (fun _ hk => hk.2) (.slice Ao191 t403.length co191)) (fun _ h_ => h_.1)))); (case side6 => exact (Kd.R_reads' HO_329000.out).2.1); (case side7 => refine (Kd.R_reads' (e := 3) (base := w.heap.size) (ok := fun k_ => (some k_ ≠ (v385 : Value).ownBlock ∧ (some k_ ≠ (v388 : Value).ownBlock ∧ (some k_ ≠ (v398 : Value).ownBlock ∧ (some k_ ≠ (.slice Ao189 t400.length co189 : Value).ownBlock ∧ (some k_ ≠ (.slice Ao191 t403.length co191 : Value).ownBlock ∧ (some k_ ≠ (.slice Ao42 t321.length co42 : Value).ownBlock ∧ (some k_ ≠ (.slice Ao50 t375.length co50 : Value).ownBlock ∧ (some k_ ≠ (.slice Ao55 t376.length co55 : Value).ownBlock ∧ (some k_ ≠ (.slice Ao65 t378.length co65 : Value).ownBlock ∧ (some k_ ≠ (.slice Ao69 t347.length co69 : Value).ownBlock ∧ some k_ ≠ (.slice Ao76 t350.length co76 : Value).ownBlock))))))))))) (n := t324.length) (c := co44) ?_).2.2; exact (by (repeat apply rX); exact (Kd.R_mono (Kd.R_far (p := ⟨gb407, 1, none⟩) (Kd.R_far (p := ⟨gb407, 0, none⟩) (Kd.R_types HO_329001.out BK407.out (by decide)) (fun _ hk => hk.2) (.slice Ao189 t400.length co189)) (fun _ hk => hk.2) (.slice Ao191 t403.length co191)) (fun _ h_ => h_.1)))); (case side8 => exact (Kd.R_reads' HO_329001.out).2.1); rintro e w208 ⟨rfl, hb⟩; refine ⟨_, rfl, ?_⟩; have n0_ := Aside0.mk (Kd.R_below (by (repeat apply rX); exact (Kd.R_mono (Kd.R_far (p := ⟨gb407, 1, none⟩) (Kd.R_far (p := ⟨gb407, 0, none⟩) (Kd.R_types HO_329000.out BK407.out (by decide)) (fun _ hk => hk.2) (.slice Ao189 t400.length co189)) (fun _ hk => hk.2) (.slice Ao191 t403.length co191)) (fun _ h_ => h_.1))) hb); have n1_ := Aside0.mk (Kd.R_below (by (repeat apply rX); exact (Kd.R_mono (Kd.R_far (p := ⟨gb407, 1, none⟩) (Kd.R_far (p := ⟨gb407, 0, none⟩) (Kd.R_types HO_329001.out BK407.out (by decide)) (fun _ hk => hk.2) (.slice Ao189 t400.length co189)) (fun _ hk => hk.2) (.slice Ao191 t403.length co191)) (fun _ h_ => h_.1))) hb); have n2_ := Aside0.mk (Kd.R_below (by (repeat apply rX); exact (Kd.R_mono (Kd.R_far (p := ⟨gb407, 1, none⟩) (Kd.R_far (p := ⟨gb407, 0, none⟩) (Kd.R_types HO_336000.out BK407.out (by decide)) (fun _ hk => hk.2) (.slice Ao189 t400.length co189)) (fun _ hk => hk.2) (.slice Ao191 t403.length co191)) (fun _ h_ => h_.1))) hb); have n3_ := Aside0.mk (Kd.R_below (by (repeat apply rX); exact (Kd.R_mono (Kd.R_far (p := ⟨gb407, 1, none⟩) (Kd.R_far (p := ⟨gb407, 0, none⟩) (Kd.R_types HO_336001.out BK407.out (by decide)) (fun _ hk => hk.2) (.slice Ao189 t400.length co189)) (fun _ hk => hk.2) (.slice Ao191 t403.length co191)) (fun _ h_ => h_.1))) hb); have n4_ := Aside0.mk (Kd.R_below (by (repeat apply rX); exact (Kd.R_mono (Kd.R_far (p := ⟨gb407, 1, none⟩) (Kd.R_far (p := ⟨gb407, 0, none⟩) (Kd.R_types HO_347007.out BK407.out (by decide)) (fun _ hk => hk.2) (.slice Ao189 t400.length co189)) (fun _ hk => hk.2) (.slice Ao191 t403.length co191)) (fun _ h_ => h_.1))) hb); have n5_ := Aside0.mk (Kd.R_below (by (repeat apply rX); exact (Kd.R_mono (Kd.R_far (p := ⟨gb407, 1, none⟩) (Kd.R_far (p := ⟨gb407, 0, none⟩) (Kd.R_types HO_355000.out BK407.out (by decide)) (fun _ hk => hk.2) (.slice Ao189 t400.length co189)) (fun _ hk => hk.2) (.slice Ao191 t403.length co191)) (fun _ h_ => h_.1))) hb); have n6_ := Aside0.mk (Kd.R_below (by (repeat apply rX); exact (Kd.R_mono (Kd.R_far (p := ⟨gb407, 1, none⟩) (Kd.R_far (p := ⟨gb407, 0, none⟩) (Kd.R_types HO_355001.out BK407.out (by decide)) (fun _ hk => hk.2) (.slice Ao189 t400.length co189)) (fun _ hk => hk.2) (.slice Ao191 t403.length co191)) (fun _ h_ => h_.1))) hb); have n7_ := Aside0.mk (Kd.R_below (by (repeat apply rX); exact (Kd.R_mono (Kd.R_far (p := ⟨gb407, 1, none⟩) (Kd.R_far (p := ⟨gb407, 0, none⟩) (Kd.R_types HO386.out BK407.out (by decide)) (fun _ hk => hk.2) (.slice Ao189 t400.length co189)) (fun _ hk => hk.2) (.slice Ao191 t403.length co191)) (fun _ h_ => h_.1))) hb); have n8_ := Aside0.mk (Kd.R_below (by (repeat apply rX); exact (Kd.R_mono (Kd.R_far (p := ⟨gb407, 1, none⟩) (Kd.R_far (p := ⟨gb407, 0, none⟩) (Kd.R_types HO389.out BK407.out (by decide)) (fun _ hk => hk.2) (.slice Ao189 t400.length co189)) (fun _ hk => hk.2) (.slice Ao191 t403.length co191)) (fun _ h_ => h_.1))) hb); have n9_ := Aside0.mk (Kd.R_below (by (repeat apply rX); exact (Kd.R_mono (Kd.R_far (p := ⟨gb407, 1, none⟩) (Kd.R_far (p := ⟨gb407, 0, none⟩) (Kd.R_types HO399.out BK407.out (by decide)) (fun _ hk => hk.2) (.slice Ao189 t400.length co189)) (fun _ hk => hk.2) (.slice Ao191 t403.length co191)) (fun _ h_ => h_.1))) hb); have n10_ := Aside0.mk (Kd.R_below (by (repeat apply rX); exact (Kd.R_mono (Kd.R_far (p := ⟨gb407, 1, none⟩) (Kd.R_far (p := ⟨gb407, 0, none⟩) (Kd.R_types HO402.out BK407.out (by decide)) (fun _ hk => hk.2) (.slice Ao189 t400.length co189)) (fun _ hk => hk.2) (.slice Ao191 t403.length co191)) (fun _ h_ => h_.1))) hb); have n11_ := Aside0.mk (Kd.R_below (by (repeat apply rX); exact (Kd.R_mono (Kd.R_far (p := ⟨gb407, 1, none⟩) (Kd.R_far (p := ⟨gb407, 0, none⟩) (Kd.R_types HO405.out BK407.out (by decide)) (fun _ hk => hk.2) (.slice Ao189 t400.length co189)) (fun _ hk => hk.2) (.slice Ao191 t403.length co191)) (fun _ h_ => h_.1))) hb); have n12_ := Aside0.mk (blk_below (g := gb301) (o := .cells #[.slice A0_0 l0_0.length c0_0, .slice A0_1 l0_1.length c0_1] 24 (0, 0)) (by (repeat apply bX); refine blk_far ?_ NB301_407.out _; (repeat apply bX); refine blk_far ?_ NB301_407.out _; (repeat apply bX); exact BK301.out) hb); have n13_ := Aside0.mk (blk_below (g := gb302) (o := .cells #[.int .i64 a1_0, .int .i64 a1_1, .int .i64 a1_2, .int .i64 a1_3, .int .i64 a1_4, .int .i64 a1_5, .int .i64 a1_6, .slice A1_7 l1_7.length c1_7] 32 (0, 0)) (by (repeat apply bX); refine blk_far ?_ NB302_407.out _; (repeat apply bX); refine blk_far ?_ NB302_407.out _; (repeat apply bX); exact BK302.out) hb); have n14_ := Aside0.mk (blk_below (g := gb328) (o := .cells #[.slice Ao42 t321.length co42, .slice Ao44 t324.length co44] 27 (0, 0)) (by (repeat apply bX); refine blk_far ?_ NB328_407.out _; (repeat apply bX); refine blk_far ?_ NB328_407.out _; (repeat apply bX); exact BK328.out) hb); have n15_ := Aside0.mk (blk_below (g := gb335) (o := .cells #[.slice Ao50 t375.length co50, .slice Ao55 t376.length co55] 27 (0, 0)) (by (repeat apply bX); refine blk_far ?_ NB335_407.out _; (repeat apply bX); refine blk_far ?_ NB335_407.out _; (repeat apply bX); exact BK335.out) hb); have n16_ := Aside0.mk (blk_below (g := gb346) (o := .cells #[.int .i64 t336, .int .i64 t337, .int .i64 t338, .int .i64 t339, .int .i64 t340, .int .i64 t341, .int .i64 t342, .slice Ao65 t378.length co65] 35 (0, 0)) (by (repeat apply bX); refine blk_far ?_ NB346_407.out _; (repeat apply bX); refine blk_far ?_ NB346_407.out _; (repeat apply bX); exact BK346.out) hb); have n17_ := Aside0.mk (blk_below (g := gb354) (o := .cells #[.slice Ao69 t347.length co69, .slice Ao76 t350.length co76] 27 (0, 0)) (by (repeat apply bX); refine blk_far ?_ NB354_407.out _; (repeat apply bX); refine blk_far ?_ NB354_407.out _; (repeat apply bX); exact BK354.out) hb); have n18_ := Aside0.mk (blk_below (g := gb407) (o := .cells #[.slice Ao189 t400.length co189, .slice Ao191 t403.length co191] 27 (0, 0)) (by (repeat apply bX); refine blk_put (cs := #[.slice Ao189 t400.length co189, .slice none 0 0]) ?_ 1 _ rfl; (repeat apply bX); refine blk_put (cs := #[.slice none 0 0, .slice none 0 0]) ?_ 0 _ rfl; (repeat apply bX); exact BK407.out) hb); have n19_ := Aside0.mk (below_step (by repeat (first | (with_reducible first | exact HB.out | apply below_alloc | apply pw_below_drewN | apply below_drew1 | refine below_set ?_ GE301.out | refine below_set ?_ GE302.out | refine below_set ?_ GE328.out | refine below_set ?_ GE335.out | refine below_set ?_ GE346.out | refine below_set ?_ GE354.out | refine below_set ?_ GE407.out) | exact HB.out)) hb); clear HO_329000; clear HO_329001; clear HO_336000; clear HO_336001; clear HO_347007; clear HO_355000; clear HO_355001; clear HO386; clear HO389; clear HO399; clear HO402; clear HO405; clear BK301; clear BK302; clear BK328; clear BK335; clear BK346; clear BK354; clear BK407; clear HB; have HO_329000 := n0_; have HO_329001 := n1_; have HO_336000 := n2_; have HO_336001 := n3_; have HO_347007 := n4_; have HO_355000 := n5_; have HO_355001 := n6_; have HO386 := n7_; have HO389 := n8_; have HO399 := n9_; have HO402 := n10_; have HO405 := n11_; have BK301 := n12_; have BK302 := n13_; have BK328 := n14_; have BK335 := n15_; have BK346 := n16_; have BK354 := n17_; have BK407 := n18_; have HB := n19_; clear n0_ n1_ n2_ n3_ n4_ n5_ n6_ n7_ n8_ n9_ n10_ n11_ n12_ n13_ n14_ n15_ n16_ n17_ n18_ n19_; (try clear hb); (try clear hb2); (try clear hk); (try clear hi)))
    go_meet
    case rel => exact ⟨_, ((t406 != t327)), (by first | rfl | (simp; done) | (simp [*]; done)), H', ⟨by have := HJ24.out; have := HJ111.out; first | omega | exact Nat.le_refl _⟩, ⟨by (try simp only [hl336000_111]); (try simp only [hl336001_111]); (try simp only [hl347007_111]); (repeat apply rX); exact Kd.R_mono HO_329000.out (fun _ hk => ⟨hk.2.2.2.2.2.1, ⟨hk.2.2.2.2.2.2.1, ⟨hk.2.2.2.2.2.2.2.1, ⟨hk.2.2.2.2.2.2.2.2.1, ⟨hk.2.2.2.2.2.2.2.2.2.1, ⟨hk.2.2.2.2.2.2.2.2.2.2, ⟨hk.2.2.2.1, hk.2.2.2.2.1⟩⟩⟩⟩⟩⟩⟩)⟩, ⟨by (try simp only [hl336000_111]); (try simp only [hl336001_111]); (try simp only [hl347007_111]); (repeat apply rX); exact Kd.R_mono HO_329001.out (fun _ hk => ⟨hk.2.2.2.2.2.1, ⟨hk.2.2.2.2.2.2.1, ⟨hk.2.2.2.2.2.2.2.1, ⟨hk.2.2.2.2.2.2.2.2.1, ⟨hk.2.2.2.2.2.2.2.2.2.1, ⟨hk.2.2.2.2.2.2.2.2.2.2, ⟨hk.2.2.2.1, hk.2.2.2.2.1⟩⟩⟩⟩⟩⟩⟩)⟩, ⟨by (try simp only [hl336000_111]); (try simp only [hl336001_111]); (try simp only [hl347007_111]); (repeat apply rX); exact Kd.R_mono HO_336000.out (fun _ hk => ⟨hk.2.2.2.2.2.1, ⟨hk.2.2.2.2.2.2.1, ⟨hk.2.2.2.2.2.2.2.1, ⟨hk.2.2.2.2.2.2.2.2.1, ⟨hk.2.2.2.2.2.2.2.2.2.1, ⟨hk.2.2.2.2.2.2.2.2.2.2, ⟨hk.2.2.2.1, hk.2.2.2.2.1⟩⟩⟩⟩⟩⟩⟩)⟩, ⟨by (try simp only [hl336000_111]); (try simp only [hl336001_111]); (try simp only [hl347007_111]); (repeat apply rX); exact Kd.R_mono HO_336001.out (fun _ hk => ⟨hk.2.2.2.2.2.1, ⟨hk.2.2.2.2.2.2.1, ⟨hk.2.2.2.2.2.2.2.1, ⟨hk.2.2.2.2.2.2.2.2.1, ⟨hk.2.2.2.2.2.2.2.2.2.1, ⟨hk.2.2.2.2.2.2.2.2.2.2, ⟨hk.2.2.2.1, hk.2.2.2.2.1⟩⟩⟩⟩⟩⟩⟩)⟩, ⟨by (try simp only [hl336000_111]); (try simp only [hl336001_111]); (try simp only [hl347007_111]); (repeat apply rX); exact Kd.R_mono HO_347007.out (fun _ hk => ⟨hk.2.2.2.2.2.1, ⟨hk.2.2.2.2.2.2.1, ⟨hk.2.2.2.2.2.2.2.1, ⟨hk.2.2.2.2.2.2.2.2.1, ⟨hk.2.2.2.2.2.2.2.2.2.1, ⟨hk.2.2.2.2.2.2.2.2.2.2, ⟨hk.2.2.2.1, hk.2.2.2.2.1⟩⟩⟩⟩⟩⟩⟩)⟩, ⟨by (try simp only [hl336000_111]); (try simp only [hl336001_111]); (try simp only [hl347007_111]); (repeat apply rX); exact Kd.R_mono HO_355000.out (fun _ hk => ⟨hk.2.2.2.2.2.1, ⟨hk.2.2.2.2.2.2.1, ⟨hk.2.2.2.2.2.2.2.1, ⟨hk.2.2.2.2.2.2.2.2.1, ⟨hk.2.2.2.2.2.2.2.2.2.1, ⟨hk.2.2.2.2.2.2.2.2.2.2, ⟨hk.2.2.2.1, hk.2.2.2.2.1⟩⟩⟩⟩⟩⟩⟩)⟩, ⟨by (try simp only [hl336000_111]); (try simp only [hl336001_111]); (try simp only [hl347007_111]); (repeat apply rX); exact Kd.R_mono HO_355001.out (fun _ hk => ⟨hk.2.2.2.2.2.1, ⟨hk.2.2.2.2.2.2.1, ⟨hk.2.2.2.2.2.2.2.1, ⟨hk.2.2.2.2.2.2.2.2.1, ⟨hk.2.2.2.2.2.2.2.2.2.1, ⟨hk.2.2.2.2.2.2.2.2.2.2, ⟨hk.2.2.2.1, hk.2.2.2.2.1⟩⟩⟩⟩⟩⟩⟩)⟩, ⟨by (try simp only [hl336000_111]); (try simp only [hl336001_111]); (try simp only [hl347007_111]); (repeat apply rX); exact Kd.R_mono HO402.out (fun _ hk => ⟨hk.2.2.2.2.1, ⟨hk.2.2.2.2.2.1, ⟨hk.2.2.2.2.2.2.1, ⟨hk.2.2.2.2.2.2.2.1, ⟨hk.2.2.2.2.2.2.2.2.1, ⟨hk.2.2.2.2.2.2.2.2.2.1, ⟨hk.2.2.2.2.2.2.2.2.2.2, hk.2.2.2.1⟩⟩⟩⟩⟩⟩⟩)⟩, ⟨by (try simp only [hl336000_111]); (try simp only [hl336001_111]); (try simp only [hl347007_111]); (repeat apply rX); exact Kd.R_mono HO405.out (fun _ hk => ⟨hk.2.2.2.2.1, ⟨hk.2.2.2.2.2.1, ⟨hk.2.2.2.2.2.2.1, ⟨hk.2.2.2.2.2.2.2.1, ⟨hk.2.2.2.2.2.2.2.2.1, ⟨hk.2.2.2.2.2.2.2.2.2.1, ⟨hk.2.2.2.2.2.2.2.2.2.2, hk.2.2.2.1⟩⟩⟩⟩⟩⟩⟩)⟩, ⟨by (try simp only [hl336000_111]); (try simp only [hl336001_111]); (try simp only [hl347007_111]); (repeat apply bX); exact BK301.out⟩, ⟨by (try simp only [hl336000_111]); (try simp only [hl336001_111]); (try simp only [hl347007_111]); (repeat apply bX); exact BK302.out⟩, ⟨by (try simp only [hl336000_111]); (try simp only [hl336001_111]); (try simp only [hl347007_111]); (repeat apply bX); exact BK328.out⟩, ⟨by (try simp only [hl336000_111]); (try simp only [hl336001_111]); (try simp only [hl347007_111]); (repeat apply bX); exact BK335.out⟩, ⟨by (try simp only [hl336000_111]); (try simp only [hl336001_111]); (try simp only [hl347007_111]); (repeat apply bX); exact BK346.out⟩, ⟨by (try simp only [hl336000_111]); (try simp only [hl336001_111]); (try simp only [hl347007_111]); (repeat apply bX); exact BK354.out⟩, ⟨by (try simp only [hl336000_111]); (try simp only [hl336001_111]); (try simp only [hl347007_111]); (repeat apply bX); exact BK407.out⟩, ⟨by repeat (first | (with_reducible first | exact HB.out | apply below_alloc | apply pw_below_drewN | apply below_drew1 | refine below_set ?_ GE301.out | refine below_set ?_ GE302.out | refine below_set ?_ GE328.out | refine below_set ?_ GE335.out | refine below_set ?_ GE346.out | refine below_set ?_ GE354.out | refine below_set ?_ GE407.out) | exact HB.out)⟩⟩
   replace c194 := Bool.eq_false_iff.mpr c194
   subst c194
   have H1 : (laws_FnExactReturnCredits.j2 kj111 t380 true t381 t382) = some r := by rw [if_neg (show ¬ (false = true) by decide)] at H; exact H
   clear H
   have H := H1
   clear H1
   have H' := Aside0.mk H
   clear H
   have hnb209 := NB407_301.out
   have hnc209 := NB301_407.out
   have hnb210 := NB407_302.out
   have hnc210 := NB302_407.out
   have hnb211 := NB407_328.out
   have hnc211 := NB328_407.out
   have hnb212 := NB407_335.out
   have hnc212 := NB335_407.out
   have hnb213 := NB407_346.out
   have hnc213 := NB346_407.out
   have hnb214 := NB407_354.out
   have hnc214 := NB354_407.out
   obtain ⟨hcz215_0, hcz215_1, hfz215_0, hfz215_1⟩ := b2 BK407.out
   have hnb216 := NB328_301.out
   have hnc216 := NB301_328.out
   have hnb217 := NB328_302.out
   have hnc217 := NB302_328.out
   have hnb218 := NB328_335.out
   have hnc218 := NB335_328.out
   have hnb219 := NB328_346.out
   have hnc219 := NB346_328.out
   have hnb220 := NB328_354.out
   have hnc220 := NB354_328.out
   obtain ⟨hcz221_0, hcz221_1, hfz221_0, hfz221_1⟩ := b2 BK328.out
   go_wp2_with (first | ((with_reducible refine gate_callee (f := 19) rfl ?_); refine goesL_ (some 104) rfl rfl Try.func19 (by kernel_rfl) rfl #[.agg #[.slice Ao189 t400.length co189, .slice Ao191 t403.length co191], .agg #[.slice Ao42 t321.length co42, .slice Ao44 t324.length co44]] rfl (by (try simp only [List.map_toArray, List.map_cons, List.map_nil]); first | done | rfl) ?_; (with_reducible refine (laws_eqCredits.calls kj111 _ _ t400 _ _ t403 _ _ t321 _ _ t324 false _ ?side1 ?side2 ?side3 ?side4 ?side5 ?side6 ?side7 ?side8 A193.out).mono ?_); (case side1 => refine (Kd.R_reads' (e := 3) (base := w.heap.size) (ok := fun k_ => (some k_ ≠ (v385 : Value).ownBlock ∧ (some k_ ≠ (v388 : Value).ownBlock ∧ (some k_ ≠ (v398 : Value).ownBlock ∧ (some k_ ≠ (.slice Ao191 t403.length co191 : Value).ownBlock ∧ (some k_ ≠ (.slice Ao42 t321.length co42 : Value).ownBlock ∧ (some k_ ≠ (.slice Ao44 t324.length co44 : Value).ownBlock ∧ (some k_ ≠ (.slice Ao50 t375.length co50 : Value).ownBlock ∧ (some k_ ≠ (.slice Ao55 t376.length co55 : Value).ownBlock ∧ (some k_ ≠ (.slice Ao65 t378.length co65 : Value).ownBlock ∧ (some k_ ≠ (.slice Ao69 t347.length co69 : Value).ownBlock ∧ some k_ ≠ (.slice Ao76 t350.length co76 : Value).ownBlock))))))))))) (n := t400.length) (c := co189) ?_).2.2; exact (by (repeat apply rX); exact (Kd.R_mono (Kd.R_far (p := ⟨gb407, 1, none⟩) (Kd.R_far (p := ⟨gb407, 0, none⟩) (Kd.R_types HO402.out BK407.out (by decide)) (fun _ hk => hk.2) (.slice Ao189 t400.length co189)) (fun _ hk => hk.2) (.slice Ao191 t403.length co191)) (fun _ h_ => h_.1)))); (case side2 => exact (Kd.R_reads' HO402.out).2.1); (case side3 => refine (Kd.R_reads' (e := 3) (base := w.heap.size) (ok := fun k_ => (some k_ ≠ (v385 : Value).ownBlock ∧ (some k_ ≠ (v388 : Value).ownBlock ∧ (some k_ ≠ (v398 : Value).ownBlock ∧ (some k_ ≠ (.slice Ao189 t400.length co189 : Value).ownBlock ∧ (some k_ ≠ (.slice Ao42 t321.length co42 : Value).ownBlock ∧ (some k_ ≠ (.slice Ao44 t324.length co44 : Value).ownBlock ∧ (some k_ ≠ (.slice Ao50 t375.length co50 : Value).ownBlock ∧ (some k_ ≠ (.slice Ao55 t376.length co55 : Value).ownBlock ∧ (some k_ ≠ (.slice Ao65 t378.length co65 : Value).ownBlock ∧ (some k_ ≠ (.slice Ao69 t347.length co69 : Value).ownBlock ∧ some k_ ≠ (.slice Ao76 t350.length co76 : Value).ownBlock))))))))))) (n := t403.length) (c := co191) ?_).2.2; exact (by (repeat apply rX); exact (Kd.R_mono (Kd.R_far (p := ⟨gb407, 1, none⟩) (Kd.R_far (p := ⟨gb407, 0, none⟩) (Kd.R_types HO405.out BK407.out (by decide)) (fun _ hk => hk.2) (.slice Ao189 t400.length co189)) (fun _ hk => hk.2) (.slice Ao191 t403.length co191)) (fun _ h_ => h_.1)))); (case side4 => exact (Kd.R_reads' HO405.out).2.1); (case side5 => refine (Kd.R_reads' (e := 3) (base := w.heap.size) (ok := fun k_ => (some k_ ≠ (v385 : Value).ownBlock ∧ (some k_ ≠ (v388 : Value).ownBlock ∧ (some k_ ≠ (v398 : Value).ownBlock ∧ (some k_ ≠ (.slice Ao189 t400.length co189 : Value).ownBlock ∧ (some k_ ≠ (.slice Ao191 t403.length co191 : Value).ownBlock ∧ (some k_ ≠ (.slice Ao44 t324.length co44 : Value).ownBlock ∧ (some k_ ≠ (.slice Ao50 t375.length co50 : Value).ownBlock ∧ (some k_ ≠ (.slice Ao55 t376.length co55 : Value).ownBlock ∧ (some k_ ≠ (.slice Ao65 t378.length co65 : Value).ownBlock ∧ (some k_ ≠ (.slice Ao69 t347.length co69 : Value).ownBlock ∧ some k_ ≠ (.slice Ao76 t350.length co76 : Value).ownBlock))))))))))) (n := t321.length) (c := co42) ?_).2.2; exact (by (repeat apply rX); exact (Kd.R_mono (Kd.R_far (p := ⟨gb407, 1, none⟩) (Kd.R_far (p := ⟨gb407, 0, none⟩) (Kd.R_types HO_329000.out BK407.out (by decide)) (fun _ hk => hk.2) (.slice Ao189 t400.length co189)) (fun _ hk => hk.2) (.slice Ao191 t403.length co191)) (fun _ h_ => h_.1)))); (case side6 => exact (Kd.R_reads' HO_329000.out).2.1); (case side7 => refine (Kd.R_reads' (e := 3) (base := w.heap.size) (ok := fun k_ => (some k_ ≠ (v385 : Value).ownBlock ∧ (some k_ ≠ (v388 : Value).ownBlock ∧ (some k_ ≠ (v398 : Value).ownBlock ∧ (some k_ ≠ (.slice Ao189 t400.length co189 : Value).ownBlock ∧ (some k_ ≠ (.slice Ao191 t403.length co191 : Value).ownBlock ∧ (some k_ ≠ (.slice Ao42 t321.length co42 : Value).ownBlock ∧ (some k_ ≠ (.slice Ao50 t375.length co50 : Value).ownBlock ∧ (some k_ ≠ (.slice Ao55 t376.length co55 : Value).ownBlock ∧ (some k_ ≠ (.slice Ao65 t378.length co65 : Value).ownBlock ∧ (some k_ ≠ (.slice Ao69 t347.length co69 : Value).ownBlock ∧ some k_ ≠ (.slice Ao76 t350.length co76 : Value).ownBlock))))))))))) (n := t324.length) (c := co44) ?_).2.2; exact (by (repeat apply rX); exact (Kd.R_mono (Kd.R_far (p := ⟨gb407, 1, none⟩) (Kd.R_far (p := ⟨gb407, 0, none⟩) (Kd.R_types HO_329001.out BK407.out (by decide)) (fun _ hk => hk.2) (.slice Ao189 t400.length co189)) (fun _ hk => hk.2) (.slice Ao191 t403.length co191)) (fun _ h_ => h_.1)))); (case side8 => exact (Kd.R_reads' HO_329001.out).2.1); rintro e w222 ⟨rfl, hb⟩; refine ⟨_, rfl, ?_⟩; have n0_ := Aside0.mk (Kd.R_below (by (repeat apply rX); exact (Kd.R_mono (Kd.R_far (p := ⟨gb407, 1, none⟩) (Kd.R_far (p := ⟨gb407, 0, none⟩) (Kd.R_types HO_329000.out BK407.out (by decide)) (fun _ hk => hk.2) (.slice Ao189 t400.length co189)) (fun _ hk => hk.2) (.slice Ao191 t403.length co191)) (fun _ h_ => h_.1))) hb); have n1_ := Aside0.mk (Kd.R_below (by (repeat apply rX); exact (Kd.R_mono (Kd.R_far (p := ⟨gb407, 1, none⟩) (Kd.R_far (p := ⟨gb407, 0, none⟩) (Kd.R_types HO_329001.out BK407.out (by decide)) (fun _ hk => hk.2) (.slice Ao189 t400.length co189)) (fun _ hk => hk.2) (.slice Ao191 t403.length co191)) (fun _ h_ => h_.1))) hb); have n2_ := Aside0.mk (Kd.R_below (by (repeat apply rX); exact (Kd.R_mono (Kd.R_far (p := ⟨gb407, 1, none⟩) (Kd.R_far (p := ⟨gb407, 0, none⟩) (Kd.R_types HO_336000.out BK407.out (by decide)) (fun _ hk => hk.2) (.slice Ao189 t400.length co189)) (fun _ hk => hk.2) (.slice Ao191 t403.length co191)) (fun _ h_ => h_.1))) hb); have n3_ := Aside0.mk (Kd.R_below (by (repeat apply rX); exact (Kd.R_mono (Kd.R_far (p := ⟨gb407, 1, none⟩) (Kd.R_far (p := ⟨gb407, 0, none⟩) (Kd.R_types HO_336001.out BK407.out (by decide)) (fun _ hk => hk.2) (.slice Ao189 t400.length co189)) (fun _ hk => hk.2) (.slice Ao191 t403.length co191)) (fun _ h_ => h_.1))) hb); have n4_ := Aside0.mk (Kd.R_below (by (repeat apply rX); exact (Kd.R_mono (Kd.R_far (p := ⟨gb407, 1, none⟩) (Kd.R_far (p := ⟨gb407, 0, none⟩) (Kd.R_types HO_347007.out BK407.out (by decide)) (fun _ hk => hk.2) (.slice Ao189 t400.length co189)) (fun _ hk => hk.2) (.slice Ao191 t403.length co191)) (fun _ h_ => h_.1))) hb); have n5_ := Aside0.mk (Kd.R_below (by (repeat apply rX); exact (Kd.R_mono (Kd.R_far (p := ⟨gb407, 1, none⟩) (Kd.R_far (p := ⟨gb407, 0, none⟩) (Kd.R_types HO_355000.out BK407.out (by decide)) (fun _ hk => hk.2) (.slice Ao189 t400.length co189)) (fun _ hk => hk.2) (.slice Ao191 t403.length co191)) (fun _ h_ => h_.1))) hb); have n6_ := Aside0.mk (Kd.R_below (by (repeat apply rX); exact (Kd.R_mono (Kd.R_far (p := ⟨gb407, 1, none⟩) (Kd.R_far (p := ⟨gb407, 0, none⟩) (Kd.R_types HO_355001.out BK407.out (by decide)) (fun _ hk => hk.2) (.slice Ao189 t400.length co189)) (fun _ hk => hk.2) (.slice Ao191 t403.length co191)) (fun _ h_ => h_.1))) hb); have n7_ := Aside0.mk (Kd.R_below (by (repeat apply rX); exact (Kd.R_mono (Kd.R_far (p := ⟨gb407, 1, none⟩) (Kd.R_far (p := ⟨gb407, 0, none⟩) (Kd.R_types HO386.out BK407.out (by decide)) (fun _ hk => hk.2) (.slice Ao189 t400.length co189)) (fun _ hk => hk.2) (.slice Ao191 t403.length co191)) (fun _ h_ => h_.1))) hb); have n8_ := Aside0.mk (Kd.R_below (by (repeat apply rX); exact (Kd.R_mono (Kd.R_far (p := ⟨gb407, 1, none⟩) (Kd.R_far (p := ⟨gb407, 0, none⟩) (Kd.R_types HO389.out BK407.out (by decide)) (fun _ hk => hk.2) (.slice Ao189 t400.length co189)) (fun _ hk => hk.2) (.slice Ao191 t403.length co191)) (fun _ h_ => h_.1))) hb); have n9_ := Aside0.mk (Kd.R_below (by (repeat apply rX); exact (Kd.R_mono (Kd.R_far (p := ⟨gb407, 1, none⟩) (Kd.R_far (p := ⟨gb407, 0, none⟩) (Kd.R_types HO399.out BK407.out (by decide)) (fun _ hk => hk.2) (.slice Ao189 t400.length co189)) (fun _ hk => hk.2) (.slice Ao191 t403.length co191)) (fun _ h_ => h_.1))) hb); have n10_ := Aside0.mk (Kd.R_below (by (repeat apply rX); exact (Kd.R_mono (Kd.R_far (p := ⟨gb407, 1, none⟩) (Kd.R_far (p := ⟨gb407, 0, none⟩) (Kd.R_types HO402.out BK407.out (by decide)) (fun _ hk => hk.2) (.slice Ao189 t400.length co189)) (fun _ hk => hk.2) (.slice Ao191 t403.length co191)) (fun _ h_ => h_.1))) hb); have n11_ := Aside0.mk (Kd.R_below (by (repeat apply rX); exact (Kd.R_mono (Kd.R_far (p := ⟨gb407, 1, none⟩) (Kd.R_far (p := ⟨gb407, 0, none⟩) (Kd.R_types HO405.out BK407.out (by decide)) (fun _ hk => hk.2) (.slice Ao189 t400.length co189)) (fun _ hk => hk.2) (.slice Ao191 t403.length co191)) (fun _ h_ => h_.1))) hb); have n12_ := Aside0.mk (blk_below (g := gb301) (o := .cells #[.slice A0_0 l0_0.length c0_0, .slice A0_1 l0_1.length c0_1] 24 (0, 0)) (by (repeat apply bX); refine blk_far ?_ NB301_407.out _; (repeat apply bX); refine blk_far ?_ NB301_407.out _; (repeat apply bX); exact BK301.out) hb); have n13_ := Aside0.mk (blk_below (g := gb302) (o := .cells #[.int .i64 a1_0, .int .i64 a1_1, .int .i64 a1_2, .int .i64 a1_3, .int .i64 a1_4, .int .i64 a1_5, .int .i64 a1_6, .slice A1_7 l1_7.length c1_7] 32 (0, 0)) (by (repeat apply bX); refine blk_far ?_ NB302_407.out _; (repeat apply bX); refine blk_far ?_ NB302_407.out _; (repeat apply bX); exact BK302.out) hb); have n14_ := Aside0.mk (blk_below (g := gb328) (o := .cells #[.slice Ao42 t321.length co42, .slice Ao44 t324.length co44] 27 (0, 0)) (by (repeat apply bX); refine blk_far ?_ NB328_407.out _; (repeat apply bX); refine blk_far ?_ NB328_407.out _; (repeat apply bX); exact BK328.out) hb); have n15_ := Aside0.mk (blk_below (g := gb335) (o := .cells #[.slice Ao50 t375.length co50, .slice Ao55 t376.length co55] 27 (0, 0)) (by (repeat apply bX); refine blk_far ?_ NB335_407.out _; (repeat apply bX); refine blk_far ?_ NB335_407.out _; (repeat apply bX); exact BK335.out) hb); have n16_ := Aside0.mk (blk_below (g := gb346) (o := .cells #[.int .i64 t336, .int .i64 t337, .int .i64 t338, .int .i64 t339, .int .i64 t340, .int .i64 t341, .int .i64 t342, .slice Ao65 t378.length co65] 35 (0, 0)) (by (repeat apply bX); refine blk_far ?_ NB346_407.out _; (repeat apply bX); refine blk_far ?_ NB346_407.out _; (repeat apply bX); exact BK346.out) hb); have n17_ := Aside0.mk (blk_below (g := gb354) (o := .cells #[.slice Ao69 t347.length co69, .slice Ao76 t350.length co76] 27 (0, 0)) (by (repeat apply bX); refine blk_far ?_ NB354_407.out _; (repeat apply bX); refine blk_far ?_ NB354_407.out _; (repeat apply bX); exact BK354.out) hb); have n18_ := Aside0.mk (blk_below (g := gb407) (o := .cells #[.slice Ao189 t400.length co189, .slice Ao191 t403.length co191] 27 (0, 0)) (by (repeat apply bX); refine blk_put (cs := #[.slice Ao189 t400.length co189, .slice none 0 0]) ?_ 1 _ rfl; (repeat apply bX); refine blk_put (cs := #[.slice none 0 0, .slice none 0 0]) ?_ 0 _ rfl; (repeat apply bX); exact BK407.out) hb); have n19_ := Aside0.mk (below_step (by repeat (first | (with_reducible first | exact HB.out | apply below_alloc | apply pw_below_drewN | apply below_drew1 | refine below_set ?_ GE301.out | refine below_set ?_ GE302.out | refine below_set ?_ GE328.out | refine below_set ?_ GE335.out | refine below_set ?_ GE346.out | refine below_set ?_ GE354.out | refine below_set ?_ GE407.out) | exact HB.out)) hb); clear HO_329000; clear HO_329001; clear HO_336000; clear HO_336001; clear HO_347007; clear HO_355000; clear HO_355001; clear HO386; clear HO389; clear HO399; clear HO402; clear HO405; clear BK301; clear BK302; clear BK328; clear BK335; clear BK346; clear BK354; clear BK407; clear HB; have HO_329000 := n0_; have HO_329001 := n1_; have HO_336000 := n2_; have HO_336001 := n3_; have HO_347007 := n4_; have HO_355000 := n5_; have HO_355001 := n6_; have HO386 := n7_; have HO389 := n8_; have HO399 := n9_; have HO402 := n10_; have HO405 := n11_; have BK301 := n12_; have BK302 := n13_; have BK328 := n14_; have BK335 := n15_; have BK346 := n16_; have BK354 := n17_; have BK407 := n18_; have HB := n19_; clear n0_ n1_ n2_ n3_ n4_ n5_ n6_ n7_ n8_ n9_ n10_ n11_ n12_ n13_ n14_ n15_ n16_ n17_ n18_ n19_; (try clear hb); (try clear hb2); (try clear hk); (try clear hi)))
   go_meet
   case rel => exact ⟨_, (true), (by first | rfl | (simp; done) | (simp [*]; done)), H', ⟨by have := HJ24.out; have := HJ111.out; first | omega | exact Nat.le_refl _⟩, ⟨by (try simp only [hl336000_111]); (try simp only [hl336001_111]); (try simp only [hl347007_111]); (repeat apply rX); exact Kd.R_mono HO_329000.out (fun _ hk => ⟨hk.2.2.2.2.2.1, ⟨hk.2.2.2.2.2.2.1, ⟨hk.2.2.2.2.2.2.2.1, ⟨hk.2.2.2.2.2.2.2.2.1, ⟨hk.2.2.2.2.2.2.2.2.2.1, ⟨hk.2.2.2.2.2.2.2.2.2.2, ⟨hk.2.2.2.1, hk.2.2.2.2.1⟩⟩⟩⟩⟩⟩⟩)⟩, ⟨by (try simp only [hl336000_111]); (try simp only [hl336001_111]); (try simp only [hl347007_111]); (repeat apply rX); exact Kd.R_mono HO_329001.out (fun _ hk => ⟨hk.2.2.2.2.2.1, ⟨hk.2.2.2.2.2.2.1, ⟨hk.2.2.2.2.2.2.2.1, ⟨hk.2.2.2.2.2.2.2.2.1, ⟨hk.2.2.2.2.2.2.2.2.2.1, ⟨hk.2.2.2.2.2.2.2.2.2.2, ⟨hk.2.2.2.1, hk.2.2.2.2.1⟩⟩⟩⟩⟩⟩⟩)⟩, ⟨by (try simp only [hl336000_111]); (try simp only [hl336001_111]); (try simp only [hl347007_111]); (repeat apply rX); exact Kd.R_mono HO_336000.out (fun _ hk => ⟨hk.2.2.2.2.2.1, ⟨hk.2.2.2.2.2.2.1, ⟨hk.2.2.2.2.2.2.2.1, ⟨hk.2.2.2.2.2.2.2.2.1, ⟨hk.2.2.2.2.2.2.2.2.2.1, ⟨hk.2.2.2.2.2.2.2.2.2.2, ⟨hk.2.2.2.1, hk.2.2.2.2.1⟩⟩⟩⟩⟩⟩⟩)⟩, ⟨by (try simp only [hl336000_111]); (try simp only [hl336001_111]); (try simp only [hl347007_111]); (repeat apply rX); exact Kd.R_mono HO_336001.out (fun _ hk => ⟨hk.2.2.2.2.2.1, ⟨hk.2.2.2.2.2.2.1, ⟨hk.2.2.2.2.2.2.2.1, ⟨hk.2.2.2.2.2.2.2.2.1, ⟨hk.2.2.2.2.2.2.2.2.2.1, ⟨hk.2.2.2.2.2.2.2.2.2.2, ⟨hk.2.2.2.1, hk.2.2.2.2.1⟩⟩⟩⟩⟩⟩⟩)⟩, ⟨by (try simp only [hl336000_111]); (try simp only [hl336001_111]); (try simp only [hl347007_111]); (repeat apply rX); exact Kd.R_mono HO_347007.out (fun _ hk => ⟨hk.2.2.2.2.2.1, ⟨hk.2.2.2.2.2.2.1, ⟨hk.2.2.2.2.2.2.2.1, ⟨hk.2.2.2.2.2.2.2.2.1, ⟨hk.2.2.2.2.2.2.2.2.2.1, ⟨hk.2.2.2.2.2.2.2.2.2.2, ⟨hk.2.2.2.1, hk.2.2.2.2.1⟩⟩⟩⟩⟩⟩⟩)⟩, ⟨by (try simp only [hl336000_111]); (try simp only [hl336001_111]); (try simp only [hl347007_111]); (repeat apply rX); exact Kd.R_mono HO_355000.out (fun _ hk => ⟨hk.2.2.2.2.2.1, ⟨hk.2.2.2.2.2.2.1, ⟨hk.2.2.2.2.2.2.2.1, ⟨hk.2.2.2.2.2.2.2.2.1, ⟨hk.2.2.2.2.2.2.2.2.2.1, ⟨hk.2.2.2.2.2.2.2.2.2.2, ⟨hk.2.2.2.1, hk.2.2.2.2.1⟩⟩⟩⟩⟩⟩⟩)⟩, ⟨by (try simp only [hl336000_111]); (try simp only [hl336001_111]); (try simp only [hl347007_111]); (repeat apply rX); exact Kd.R_mono HO_355001.out (fun _ hk => ⟨hk.2.2.2.2.2.1, ⟨hk.2.2.2.2.2.2.1, ⟨hk.2.2.2.2.2.2.2.1, ⟨hk.2.2.2.2.2.2.2.2.1, ⟨hk.2.2.2.2.2.2.2.2.2.1, ⟨hk.2.2.2.2.2.2.2.2.2.2, ⟨hk.2.2.2.1, hk.2.2.2.2.1⟩⟩⟩⟩⟩⟩⟩)⟩, ⟨by (try simp only [hl336000_111]); (try simp only [hl336001_111]); (try simp only [hl347007_111]); (repeat apply rX); exact Kd.R_mono HO402.out (fun _ hk => ⟨hk.2.2.2.2.1, ⟨hk.2.2.2.2.2.1, ⟨hk.2.2.2.2.2.2.1, ⟨hk.2.2.2.2.2.2.2.1, ⟨hk.2.2.2.2.2.2.2.2.1, ⟨hk.2.2.2.2.2.2.2.2.2.1, ⟨hk.2.2.2.2.2.2.2.2.2.2, hk.2.2.2.1⟩⟩⟩⟩⟩⟩⟩)⟩, ⟨by (try simp only [hl336000_111]); (try simp only [hl336001_111]); (try simp only [hl347007_111]); (repeat apply rX); exact Kd.R_mono HO405.out (fun _ hk => ⟨hk.2.2.2.2.1, ⟨hk.2.2.2.2.2.1, ⟨hk.2.2.2.2.2.2.1, ⟨hk.2.2.2.2.2.2.2.1, ⟨hk.2.2.2.2.2.2.2.2.1, ⟨hk.2.2.2.2.2.2.2.2.2.1, ⟨hk.2.2.2.2.2.2.2.2.2.2, hk.2.2.2.1⟩⟩⟩⟩⟩⟩⟩)⟩, ⟨by (try simp only [hl336000_111]); (try simp only [hl336001_111]); (try simp only [hl347007_111]); (repeat apply bX); exact BK301.out⟩, ⟨by (try simp only [hl336000_111]); (try simp only [hl336001_111]); (try simp only [hl347007_111]); (repeat apply bX); exact BK302.out⟩, ⟨by (try simp only [hl336000_111]); (try simp only [hl336001_111]); (try simp only [hl347007_111]); (repeat apply bX); exact BK328.out⟩, ⟨by (try simp only [hl336000_111]); (try simp only [hl336001_111]); (try simp only [hl347007_111]); (repeat apply bX); exact BK335.out⟩, ⟨by (try simp only [hl336000_111]); (try simp only [hl336001_111]); (try simp only [hl347007_111]); (repeat apply bX); exact BK346.out⟩, ⟨by (try simp only [hl336000_111]); (try simp only [hl336001_111]); (try simp only [hl347007_111]); (repeat apply bX); exact BK354.out⟩, ⟨by (try simp only [hl336000_111]); (try simp only [hl336001_111]); (try simp only [hl347007_111]); (repeat apply bX); exact BK407.out⟩, ⟨by repeat (first | (with_reducible first | exact HB.out | apply below_alloc | apply pw_below_drewN | apply below_drew1 | refine below_set ?_ GE301.out | refine below_set ?_ GE302.out | refine below_set ?_ GE328.out | refine below_set ?_ GE335.out | refine below_set ?_ GE346.out | refine below_set ?_ GE354.out | refine below_set ?_ GE407.out) | exact HB.out)⟩⟩
  case rest =>
   clear HC170
   obtain ⟨kq, x110_169, rfl, HA, HJ169, HO_329000, HO_329001, HO_336000, HO_336001, HO_347007, HO_355000, HO_355001, HO_408000, HO_408001, BK301, BK302, BK328, BK335, BK346, BK354, BK407, HB⟩ := hcut
   have hl355000_169 := (Kd.R_reads' HO_355000.out).1
   rw [hl355000_169] at HO_355000
   (try simp only [hl355000_169])
   (try simp only [hl355000_169] at BK301)
   (try simp only [hl355000_169] at BK302)
   (try simp only [hl355000_169] at BK328)
   (try simp only [hl355000_169] at BK335)
   (try simp only [hl355000_169] at BK346)
   (try simp only [hl355000_169] at BK354)
   (try simp only [hl355000_169] at BK407)
   (try simp only [hl355000_169] at HO_329000)
   (try simp only [hl355000_169] at HO_329001)
   (try simp only [hl355000_169] at HO_336000)
   (try simp only [hl355000_169] at HO_336001)
   (try simp only [hl355000_169] at HO_347007)
   (try simp only [hl355000_169] at HO_355001)
   (try simp only [hl355000_169] at HO_408000)
   (try simp only [hl355000_169] at HO_408001)
   have hl355001_169 := (Kd.R_reads' HO_355001.out).1
   rw [hl355001_169] at HO_355001
   (try simp only [hl355001_169])
   (try simp only [hl355001_169] at BK301)
   (try simp only [hl355001_169] at BK302)
   (try simp only [hl355001_169] at BK328)
   (try simp only [hl355001_169] at BK335)
   (try simp only [hl355001_169] at BK346)
   (try simp only [hl355001_169] at BK354)
   (try simp only [hl355001_169] at BK407)
   (try simp only [hl355001_169] at HO_329000)
   (try simp only [hl355001_169] at HO_329001)
   (try simp only [hl355001_169] at HO_336000)
   (try simp only [hl355001_169] at HO_336001)
   (try simp only [hl355001_169] at HO_347007)
   (try simp only [hl355001_169] at HO_355000)
   (try simp only [hl355001_169] at HO_408000)
   (try simp only [hl355001_169] at HO_408001)
   cases kq with
   | zero => exact absurd HA.out (by simp [laws_FnExactReturnCredits.j2])
   | succ kj169 =>
    have H := HA.out
    clear HA
    simp only [laws_FnExactReturnCredits.j2] at H
    by_cases c223 : x110_169 = true
    ·subst c223
     have H1 : (some false) = some r := by rw [if_pos rfl] at H; exact H
     clear H
     have H := H1
     clear H1
     exact absurd (H.trans (congrArg some hrt.out)) (by simp)
    replace c223 := Bool.eq_false_iff.mpr c223
    subst c223
    have H1 : ((laws_heldCredits.f kj169 t381 t382 1).bind fun t409 => (if t409 < 0 then (some false) else (if t409 = t380 then (some true) else (some false)))) = some r := by rw [if_neg (show ¬ (false = true) by decide)] at H; exact H
    clear H
    have H := H1
    clear H1
    replace H := Option.bind_eq_some_iff.mp H
    obtain ⟨t409, A2240, H⟩ := H
    have A224 := Aside0.mk A2240
    clear A2240
    by_cases c225 : t409 < 0
    ·rw [if_pos c225] at H
     have c225b0 : decide (t409 < 0) = true := decide_eq_true c225
     clear c225
     exact absurd (H.trans (congrArg some hrt.out)) (by simp)
    rw [if_neg c225] at H
    have c225b0 : decide (t409 < 0) = false := decide_eq_false c225
    clear c225
    by_cases c226 : t409 = t380
    rotate_left
    ·rw [if_neg c226] at H
     have c226b0 : (t409 == t380) = false := beq_eq_false_iff_ne.mpr c226
     have c226b1 : (t409 != t380) = true := bne_iff_ne.mpr c226
     exact absurd (H.trans (congrArg some hrt.out)) (by simp)
    rw [if_pos c226] at H
    have c226b0 : (t409 == t380) = true := beq_iff_eq.mpr c226
    have c226b1 : (t409 != t380) = false := bne_eq_false_iff_eq.mpr c226
    clear c226
    obtain rfl := Option.some.inj H
    have hnb227 := NB354_301.out
    have hnc227 := NB301_354.out
    have hnb228 := NB354_302.out
    have hnc228 := NB302_354.out
    have hnb229 := NB354_328.out
    have hnc229 := NB328_354.out
    have hnb230 := NB354_335.out
    have hnc230 := NB335_354.out
    have hnb231 := NB354_346.out
    have hnc231 := NB346_354.out
    have hnb232 := NB354_407.out
    have hnc232 := NB407_354.out
    obtain ⟨hcz233_0, hcz233_1, hfz233_0, hfz233_1⟩ := b2 BK354.out
    go_wp2_with (first | ((with_reducible refine gate_callee (f := 59) rfl ?_); refine goesL_ (some 113) rfl rfl Try.func59 (by kernel_rfl) rfl #[.agg #[.slice Ao69 t381.length co69, .slice Ao76 t382.length co76], .int .i64 1] rfl (by (try simp only [List.map_toArray, List.map_cons, List.map_nil]); first | done | rfl) ?_; (with_reducible refine (laws_heldCredits.calls kj169 _ _ t381 _ _ t382 1 t409 _ ?side1 ?side2 ?side3 ?side4 A224.out).mono ?_); (case side1 => exact cY ((Kd.R_reads' HO_355000.out).2.2)); (case side2 => exact (Kd.R_reads' HO_355000.out).2.1); (case side3 => exact cY ((Kd.R_reads' HO_355001.out).2.2)); (case side4 => exact (Kd.R_reads' HO_355001.out).2.1); rintro e w234 ⟨rfl, hb⟩; refine ⟨_, rfl, ?_⟩; have n0_ := Aside0.mk (Kd.R_below (rY HO_329000.out) hb); have n1_ := Aside0.mk (Kd.R_below (rY HO_329001.out) hb); have n2_ := Aside0.mk (Kd.R_below (rY HO_336000.out) hb); have n3_ := Aside0.mk (Kd.R_below (rY HO_336001.out) hb); have n4_ := Aside0.mk (Kd.R_below (rY HO_347007.out) hb); have n5_ := Aside0.mk (Kd.R_below (rY HO_355000.out) hb); have n6_ := Aside0.mk (Kd.R_below (rY HO_355001.out) hb); have n7_ := Aside0.mk (Kd.R_below (rY HO_408000.out) hb); have n8_ := Aside0.mk (Kd.R_below (rY HO_408001.out) hb); have n9_ := Aside0.mk (blk_below (bY BK301.out) hb); have n10_ := Aside0.mk (blk_below (bY BK302.out) hb); have n11_ := Aside0.mk (blk_below (bY BK328.out) hb); have n12_ := Aside0.mk (blk_below (bY BK335.out) hb); have n13_ := Aside0.mk (blk_below (bY BK346.out) hb); have n14_ := Aside0.mk (blk_below (bY BK354.out) hb); have n15_ := Aside0.mk (blk_below (bY BK407.out) hb); have n16_ := Aside0.mk (below_step (by repeat (first | (with_reducible first | exact HB.out | apply below_alloc | apply pw_below_drewN | apply below_drew1 | refine below_set ?_ GE301.out | refine below_set ?_ GE302.out | refine below_set ?_ GE328.out | refine below_set ?_ GE335.out | refine below_set ?_ GE346.out | refine below_set ?_ GE354.out | refine below_set ?_ GE407.out) | exact HB.out)) hb); clear HO_329000; clear HO_329001; clear HO_336000; clear HO_336001; clear HO_347007; clear HO_355000; clear HO_355001; clear HO_408000; clear HO_408001; clear BK301; clear BK302; clear BK328; clear BK335; clear BK346; clear BK354; clear BK407; clear HB; have HO_329000 := n0_; have HO_329001 := n1_; have HO_336000 := n2_; have HO_336001 := n3_; have HO_347007 := n4_; have HO_355000 := n5_; have HO_355001 := n6_; have HO_408000 := n7_; have HO_408001 := n8_; have BK301 := n9_; have BK302 := n10_; have BK328 := n11_; have BK335 := n12_; have BK346 := n13_; have BK354 := n14_; have BK407 := n15_; have HB := n16_; clear n0_ n1_ n2_ n3_ n4_ n5_ n6_ n7_ n8_ n9_ n10_ n11_ n12_ n13_ n14_ n15_ n16_; (try clear hb); (try clear hb2); (try clear hk); (try clear hi)))
    go_ret
    exact ⟨by first | rfl | (simp [errW_none, errW_some] <;> rfl) | (simp [*, errW_none, errW_some] <;> rfl), by repeat (first | (with_reducible first | exact HB.out | apply below_alloc | apply pw_below_drewN | apply below_drew1 | refine below_set ?_ GE301.out | refine below_set ?_ GE302.out | refine below_set ?_ GE328.out | refine below_set ?_ GE335.out | refine below_set ?_ GE346.out | refine below_set ?_ GE354.out | refine below_set ?_ GE407.out) | exact HB.out)⟩

end Go.Proofs.Ytkapncihoabnmaa.PFnExactReturnCredits
