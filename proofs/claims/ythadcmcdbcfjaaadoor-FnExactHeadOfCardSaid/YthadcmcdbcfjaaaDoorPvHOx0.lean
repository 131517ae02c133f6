/- Functions of the program by their own lists and numbers. No condition beyond those in each statement. -/
import Derived.Test.YthadcmcdbcfjaaaDoorPvLbC
import Derived.Test.YthadcmcdbcfjaaaDoorProg
import Derived.KernelRfl
set_option linter.unusedVariables false
set_option linter.unusedSimpArgs false
set_option maxRecDepth 100000
set_option linter.unusedVariables false
namespace Go.PV.T
open Go.Proofs
noncomputable section
open IntKind (wrap i64)
open Int (toNat)
open List (getD)
abbrev K0 : SS := .one (.str)
abbrev K1 : SS := .cons (.str) (.cons (.int .i64) (.one (.bool)))
abbrev K2 : SS := .cons (.int .i64) (.one (.bool))
abbrev K3 : SS := .cons (.str) (.cons (.bool) (.one (.row K2)))
abbrev K4 : SS := .cons (.str) (.cons (.row K1) (.cons (.row K2) (.one (.row K3))))
abbrev K5 : SS := .one (.int .u8)
abbrev Y0 := ByteArray × Bool × (List (Int × Bool))
abbrev Y1 := ByteArray × (List (ByteArray × Int × Bool)) × (List (Int × Bool)) × (List (ByteArray × Bool × (List (Int × Bool))))
abbrev Y2 := ByteArray × Int × Bool × Int
abbrev Y3 := (List (ByteArray × Int × Bool)) × Int
abbrev Y4 := (List (ByteArray × Int × Bool)) × Int × Int
abbrev Y5 := ByteArray × Bool × (List (Int × Bool)) × Int
abbrev Y6 := (List (ByteArray × Bool × (List (Int × Bool)))) × Int
abbrev Y7 := (List (ByteArray × Bool × (List (Int × Bool)))) × Int × Int
abbrev Y8 := ByteArray × (List (ByteArray × Int × Bool)) × (List (Int × Bool)) × (List (ByteArray × Bool × (List (Int × Bool)))) × Int
abbrev Y9 := (List (ByteArray × (List (ByteArray × Int × Bool)) × (List (Int × Bool)) × (List (ByteArray × Bool × (List (Int × Bool)))))) × Int
abbrev Y10 := (List (ByteArray × (List (ByteArray × Int × Bool)) × (List (Int × Bool)) × (List (ByteArray × Bool × (List (Int × Bool)))))) × Int × Int
abbrev Y11 := (List ByteArray) × ByteArray
abbrev Y12 := (List ByteArray) × ByteArray × Int
abbrev Y13 := Int × ByteArray × (List (ByteArray × Int × Bool)) × (List (Int × Bool)) × (List (ByteArray × Bool × (List (Int × Bool))))
abbrev Y14 := ByteArray × (List (ByteArray × Int × Bool)) × (List (Int × Bool)) × (List (ByteArray × Bool × (List (Int × Bool)))) × ByteArray
abbrev Y15 := ByteArray × Int × ByteArray × (List (ByteArray × Int × Bool)) × (List (Int × Bool)) × (List (ByteArray × Bool × (List (Int × Bool))))
abbrev Y16 := Int × Int × ByteArray × (List (ByteArray × Int × Bool)) × (List (Int × Bool)) × (List (ByteArray × Bool × (List (Int × Bool))))
abbrev Y17 := ByteArray × (List (ByteArray × Int × Bool)) × (List (Int × Bool)) × (List (ByteArray × Bool × (List (Int × Bool)))) × (List (Int × Bool))
abbrev Y18 := (List (Int × Bool)) × Int × ByteArray × (List (ByteArray × Int × Bool)) × (List (Int × Bool)) × (List (ByteArray × Bool × (List (Int × Bool))))
abbrev Y19 := (List (ByteArray × (List (ByteArray × Int × Bool)) × (List (Int × Bool)) × (List (ByteArray × Bool × (List (Int × Bool))))))
abbrev Y20 := (List (ByteArray × (List (ByteArray × Int × Bool)) × (List (Int × Bool)) × (List (ByteArray × Bool × (List (Int × Bool)))))) × Int × Int × Int × Bool
abbrev Y21 := (List (ByteArray × Int × Bool))
abbrev Y22 := (List (ByteArray × Int × Bool)) × Int × (List (ByteArray × Int × Bool))
abbrev Y23 := (List (Int × Bool)) × Int × (List (Int × Bool))
abbrev Y24 := (List (ByteArray × Bool × (List (Int × Bool))))
abbrev Y25 := (List (ByteArray × Bool × (List (Int × Bool)))) × Int × (List (ByteArray × Bool × (List (Int × Bool))))
abbrev Y26 := (List (ByteArray × (List (ByteArray × Int × Bool)) × (List (Int × Bool)) × (List (ByteArray × Bool × (List (Int × Bool)))))) × Int × (List (ByteArray × (List (ByteArray × Int × Bool)) × (List (Int × Bool)) × (List (ByteArray × Bool × (List (Int × Bool))))))
abbrev Y27 := ByteArray × Int × Int × (List ByteArray)
abbrev Y28 := (List (ByteArray × Bool × (List (Int × Bool)))) × Int × Int × ByteArray × (List (ByteArray × Int × Bool)) × (List (Int × Bool)) × (List (ByteArray × Bool × (List (Int × Bool))))
abbrev Y29 := (List (ByteArray × Int × Bool)) × Int × Int × ByteArray × (List (ByteArray × Int × Bool)) × (List (Int × Bool)) × (List (ByteArray × Bool × (List (Int × Bool))))
abbrev Y30 := (List (ByteArray × Int × Bool)) × Int × Int × (List (ByteArray × Int × Bool)) × Int × Int × ByteArray × (List (ByteArray × Int × Bool)) × (List (Int × Bool)) × (List (ByteArray × Bool × (List (Int × Bool)))) × ByteArray × Int × Bool
abbrev Y31 := (List (ByteArray × Bool × (List (Int × Bool)))) × Int × Int × (List (ByteArray × Bool × (List (Int × Bool)))) × Int × Int × ByteArray × (List (ByteArray × Int × Bool)) × (List (Int × Bool)) × (List (ByteArray × Bool × (List (Int × Bool)))) × ByteArray × Bool × (List (Int × Bool))
abbrev Y32 := (List (Int × Bool)) × (List (Int × Bool)) × Int × Int × (List (Int × Bool)) × Int × Int × ByteArray × (List (ByteArray × Int × Bool)) × (List (Int × Bool)) × (List (ByteArray × Bool × (List (Int × Bool)))) × Int × Bool
abbrev Y33 := (List (Int × Bool)) × (List (Int × Bool)) × Int × Int × ByteArray × (List (ByteArray × Int × Bool)) × (List (Int × Bool)) × (List (ByteArray × Bool × (List (Int × Bool))))
abbrev Y34 := (List (Int × Bool)) × Int × Int × ByteArray × (List (ByteArray × Int × Bool)) × (List (Int × Bool)) × (List (ByteArray × Bool × (List (Int × Bool))))
abbrev Y35 := (List (ByteArray × (List (ByteArray × Int × Bool)) × (List (Int × Bool)) × (List (ByteArray × Bool × (List (Int × Bool)))))) × Int × (List (ByteArray × (List (ByteArray × Int × Bool)) × (List (Int × Bool)) × (List (ByteArray × Bool × (List (Int × Bool)))))) × Int × Int × ByteArray × (List (ByteArray × Int × Bool)) × (List (Int × Bool)) × (List (ByteArray × Bool × (List (Int × Bool)))) × Int × Bool × (List (ByteArray × (List (ByteArray × Int × Bool)) × (List (Int × Bool)) × (List (ByteArray × Bool × (List (Int × Bool)))))) × Int × Int × ByteArray × (List (ByteArray × Int × Bool)) × (List (Int × Bool)) × (List (ByteArray × Bool × (List (Int × Bool))))
abbrev Y36 := (List (ByteArray × (List (ByteArray × Int × Bool)) × (List (Int × Bool)) × (List (ByteArray × Bool × (List (Int × Bool)))))) × (List (ByteArray × (List (ByteArray × Int × Bool)) × (List (Int × Bool)) × (List (ByteArray × Bool × (List (Int × Bool)))))) × Int × Int
abbrev Y37 := (List Int) × (List Int) × Int
abbrev Y38 := ByteArray × Int × Bool × ByteArray × Int × Bool
abbrev Y39 := (List (ByteArray × Int × Bool)) × (List (ByteArray × Int × Bool))
abbrev Y40 := (List (ByteArray × Int × Bool)) × (List (ByteArray × Int × Bool)) × Int
abbrev Y41 := (List (Int × Bool)) × (List (Int × Bool))
abbrev Y42 := (List (Int × Bool)) × (List (Int × Bool)) × Int
abbrev Y43 := ByteArray × Bool × (List (Int × Bool)) × ByteArray × Bool × (List (Int × Bool))
abbrev Y44 := (List (ByteArray × Bool × (List (Int × Bool)))) × (List (ByteArray × Bool × (List (Int × Bool))))
abbrev Y45 := (List (ByteArray × Bool × (List (Int × Bool)))) × (List (ByteArray × Bool × (List (Int × Bool)))) × Int
abbrev Y46 := ByteArray × (List (ByteArray × Int × Bool)) × (List (Int × Bool)) × (List (ByteArray × Bool × (List (Int × Bool)))) × ByteArray × (List (ByteArray × Int × Bool)) × (List (Int × Bool)) × (List (ByteArray × Bool × (List (Int × Bool))))
abbrev Y47 := (List (ByteArray × (List (ByteArray × Int × Bool)) × (List (Int × Bool)) × (List (ByteArray × Bool × (List (Int × Bool)))))) × (List (ByteArray × (List (ByteArray × Int × Bool)) × (List (Int × Bool)) × (List (ByteArray × Bool × (List (Int × Bool))))))
abbrev Y48 := (List (ByteArray × (List (ByteArray × Int × Bool)) × (List (Int × Bool)) × (List (ByteArray × Bool × (List (Int × Bool)))))) × (List (ByteArray × (List (ByteArray × Int × Bool)) × (List (Int × Bool)) × (List (ByteArray × Bool × (List (Int × Bool)))))) × Int
abbrev Y49 := Int × (List (ByteArray × Int × Bool))
abbrev Y50 := Int × Int × (List (ByteArray × Int × Bool))
abbrev Y51 := Int × Int × (List (Int × Bool))
abbrev Y52 := Int × (List (ByteArray × Bool × (List (Int × Bool))))
abbrev Y53 := Int × Int × (List (ByteArray × Bool × (List (Int × Bool))))
abbrev Y54 := Int × (List (ByteArray × (List (ByteArray × Int × Bool)) × (List (Int × Bool)) × (List (ByteArray × Bool × (List (Int × Bool))))))
abbrev Y55 := Int × Int × (List (ByteArray × (List (ByteArray × Int × Bool)) × (List (Int × Bool)) × (List (ByteArray × Bool × (List (Int × Bool))))))
abbrev Z3 : Int × Bool := ((0 : Int), false)
abbrev Z2 : ByteArray × Int × Bool := (ByteArray.empty, (0 : Int), false)
abbrev Z1 : Y0 := (ByteArray.empty, false, ([] : List (Int × Bool)))
abbrev Z0 : Y1 := (ByteArray.empty, ([] : List (ByteArray × Int × Bool)), ([] : List (Int × Bool)), ([] : List (ByteArray × Bool × (List (Int × Bool)))))
noncomputable def eqts (t : Nat) : Bool := memN t []
noncomputable def tys : Nat → TyI
 | 3 => .cell (.int .i64) 0
 | 4 => .cell (.bool) 0
 | 5 => .cell (.int .u8) 0
 | 9 => .cell (.str) 0
 | 22 => .cell (.row K4) 88
 | 24 => .cell (.row K5) 1
 | 26 => .cell (.row K4) 88
 | 34 => .cell (.row K1) 32
 | 35 => .cell (.row K2) 16
 | 36 => .cell (.row K3) 48
 | 38 => .strct [0, 1, 2, 3] [.str, .row K1, .row K2, .row K3]
 | 40 => .cell (.row K1) 32
 | 41 => .cell (.row K2) 16
 | 42 => .cell (.row K3) 48
 | 44 => .strct [0, 1, 2, 3] [.str, .row K1, .row K2, .row K3]
 | 63 => .strct [0, 1, 2] [.str, .int .i64, .bool]
 | 65 => .strct [0, 1] [.int .i64, .bool]
 | 67 => .strct [0, 1, 2] [.str, .bool, .row K2]
 | 69 => .strct [0, 1, 2] [.str, .int .i64, .bool]
 | 72 => .strct [0, 1, 2] [.str, .bool, .row K2]
 | 76 => .strct [0, 1] [.int .i64, .bool]
 | 86 => .cell (.row K0) 16
 | _ => .no
noncomputable def strings_Split.sig : Sig := ⟨[.val false [⟨.str, 0, 0, false⟩], .val false [⟨.str, 0, 0, false⟩]], [(.one, [(.row K0, 1)])]⟩
namespace laws_szCol
noncomputable def m  : Y2 → Option Int
 | (a0_0, a0_1, a0_2, a1_0) => bif decide ((wrap i64 (a1_0 - (ByteArray.size a0_0 : Int))) < 0) then some (-1 : Int) else some (wrap i64 (a1_0 - (ByteArray.size a0_0 : Int)))
noncomputable def sig : Sig := ⟨[.val true [⟨.str, 0, 0, false⟩, ⟨.int .i64, 0, 0, false⟩, ⟨.bool, 0, 0, false⟩], .val false [⟨.int .i64, 0, 0, false⟩]], [(.one, [(.int .i64, 0)])]⟩
noncomputable def hint (_ : Nat) : Hint := ⟨[], []⟩
noncomputable def join (_ : Nat) : Option Hint := none
noncomputable def body : Code := (Tryd.f35).body.getD .skip
noncomputable def rv : List ResultVar := (Tryd.f35).results.toList
noncomputable def fn : Fn := ⟨13, sig, rv, body, hint, join⟩
end laws_szCol
namespace laws_szColS
noncomputable def s0 (c35 : Y2 → Option Int) (L0 : Y4 → Option Int) : Y4 → Option Int
 | (x0, x1, x2) => bif decide (x2 < (List.length x0 : Int)) then bif decide (0 ≤ x2) && decide (x2 < (List.length x0 : Int)) then Option.bind (c35 ((getD x0 (toNat x2) Z2).1, (getD x0 (toNat x2) Z2).2.1, (getD x0 (toNat x2) Z2).2.2, x1)) fun r1 => bif decide (r1 < 0) then some (-1 : Int) else L0 (x0, r1, wrap i64 (x2 + 1)) else none else some x1
noncomputable def ll0 : Y4 → LS
 | (x0, x1, x2) => ⟨[.cv ⟨.row K1, x0⟩, .cv ⟨.int .i64, x1⟩, .cv ⟨.int .i64, x2⟩], []⟩
noncomputable def m (B0 : Y4 → Option Int) : Y3 → Option Int
 | (a0_0, a1_0) => bif decide ((wrap i64 (a1_0 - (List.length a0_0 : Int))) < 0) then some (-1 : Int) else B0 (a0_0, wrap i64 (a1_0 - (List.length a0_0 : Int)), (0 : Int))
noncomputable def sig : Sig := ⟨[.val false [⟨.row K1, 0, 0, false⟩], .val false [⟨.int .i64, 0, 0, false⟩]], [(.one, [(.int .i64, 0)])]⟩
noncomputable def hint : Nat → Hint
 | 0 => ⟨[(0, .keep), (1, .keep), (5, .keep)], []⟩
 | _ => ⟨[], []⟩
noncomputable def join (_ : Nat) : Option Hint := none
noncomputable def body : Code := (Tryd.f22).body.getD .skip
noncomputable def rv : List ResultVar := (Tryd.f22).results.toList
noncomputable def fn : Fn := ⟨27, sig, rv, body, hint, join⟩
end laws_szColS
namespace laws_szByS
noncomputable def m  : ((List (Int × Bool)) × Int) → Option Int
 | (a0_0, a1_0) => bif decide ((wrap i64 (a1_0 - (List.length a0_0 : Int))) < 0) then some (-1 : Int) else some (wrap i64 (a1_0 - (List.length a0_0 : Int)))
noncomputable def sig : Sig := ⟨[.val false [⟨.row K2, 0, 0, false⟩], .val false [⟨.int .i64, 0, 0, false⟩]], [(.one, [(.int .i64, 0)])]⟩
noncomputable def hint (_ : Nat) : Hint := ⟨[], []⟩
noncomputable def join (_ : Nat) : Option Hint := none
noncomputable def body : Code := (Tryd.f23).body.getD .skip
noncomputable def rv : List ResultVar := (Tryd.f23).results.toList
noncomputable def fn : Fn := ⟨12, sig, rv, body, hint, join⟩
end laws_szByS
namespace laws_szIndex
noncomputable def m (c23 : ((List (Int × Bool)) × Int) → Option Int) : Y5 → Option Int
 | (a0_0, a0_1, a0_2, a1_0) => bif decide ((wrap i64 (a1_0 - (ByteArray.size a0_0 : Int))) < 0) then some (-1 : Int) else Option.bind (c23 (a0_2, wrap i64 (a1_0 - (ByteArray.size a0_0 : Int)))) fun r1 => bif decide (r1 < 0) then some (-1 : Int) else some r1
noncomputable def sig : Sig := ⟨[.val true [⟨.str, 0, 0, false⟩, ⟨.bool, 0, 0, false⟩, ⟨.row K2, 0, 0, false⟩], .val false [⟨.int .i64, 0, 0, false⟩]], [(.one, [(.int .i64, 0)])]⟩
noncomputable def hint (_ : Nat) : Hint := ⟨[], []⟩
noncomputable def join (_ : Nat) : Option Hint := none
noncomputable def body : Code := (Tryd.f36).body.getD .skip
noncomputable def rv : List ResultVar := (Tryd.f36).results.toList
noncomputable def fn : Fn := ⟨19, sig, rv, body, hint, join⟩
end laws_szIndex
namespace laws_szIndexS
noncomputable def s0 (c36 : Y5 → Option Int) (L0 : Y7 → Option Int) : Y7 → Option Int
 | (x0, x1, x2) => bif decide (x2 < (List.length x0 : Int)) then bif decide (0 ≤ x2) && decide (x2 < (List.length x0 : Int)) then Option.bind (c36 ((getD x0 (toNat x2) Z1).1, (getD x0 (toNat x2) Z1).2.1, (getD x0 (toNat x2) Z1).2.2, x1)) fun r1 => bif decide (r1 < 0) then some (-1 : Int) else L0 (x0, r1, wrap i64 (x2 + 1)) else none else some x1
noncomputable def ll0 : Y7 → LS
 | (x0, x1, x2) => ⟨[.cv ⟨.row K3, x0⟩, .cv ⟨.int .i64, x1⟩, .cv ⟨.int .i64, x2⟩], []⟩
noncomputable def m (B0 : Y7 → Option Int) : Y6 → Option Int
 | (a0_0, a1_0) => bif decide ((wrap i64 (a1_0 - (List.length a0_0 : Int))) < 0) then some (-1 : Int) else B0 (a0_0, wrap i64 (a1_0 - (List.length a0_0 : Int)), (0 : Int))
noncomputable def sig : Sig := ⟨[.val false [⟨.row K3, 0, 0, false⟩], .val false [⟨.int .i64, 0, 0, false⟩]], [(.one, [(.int .i64, 0)])]⟩
noncomputable def hint : Nat → Hint
 | 0 => ⟨[(0, .keep), (1, .keep), (5, .keep)], []⟩
 | _ => ⟨[], []⟩
noncomputable def join (_ : Nat) : Option Hint := none
noncomputable def body : Code := (Tryd.f24).body.getD .skip
noncomputable def rv : List ResultVar := (Tryd.f24).results.toList
noncomputable def fn : Fn := ⟨27, sig, rv, body, hint, join⟩
end laws_szIndexS
namespace laws_szDef
noncomputable def m (c22 : Y3 → Option Int) (c23 : ((List (Int × Bool)) × Int) → Option Int) (c24 : Y6 → Option Int) : Y8 → Option Int
 | (a0_0, a0_1, a0_2, a0_3, a1_0) => bif decide ((wrap i64 (a1_0 - (ByteArray.size a0_0 : Int))) < 0) then some (-1 : Int) else Option.bind (c22 (a0_1, wrap i64 (a1_0 - (ByteArray.size a0_0 : Int)))) fun r1 => bif decide (r1 < 0) then some (-1 : Int) else Option.bind (c23 (a0_2, r1)) fun r2 => bif decide (r2 < 0) then some (-1 : Int) else Option.bind (c24 (a0_3, r2)) fun r3 => bif decide (r3 < 0) then some (-1 : Int) else some r3
noncomputable def sig : Sig := ⟨[.val true [⟨.str, 0, 0, false⟩, ⟨.row K1, 0, 0, false⟩, ⟨.row K2, 0, 0, false⟩, ⟨.row K3, 0, 0, false⟩], .val false [⟨.int .i64, 0, 0, false⟩]], [(.one, [(.int .i64, 0)])]⟩
noncomputable def hint (_ : Nat) : Hint := ⟨[], []⟩
noncomputable def join (_ : Nat) : Option Hint := none
noncomputable def body : Code := (Tryd.f13).body.getD .skip
noncomputable def rv : List ResultVar := (Tryd.f13).results.toList
noncomputable def fn : Fn := ⟨31, sig, rv, body, hint, join⟩
end laws_szDef
namespace laws_szDefS
noncomputable def s0 (c13 : Y8 → Option Int) (L0 : Y10 → Option Int) : Y10 → Option Int
 | (x0, x1, x2) => bif decide (x2 < (List.length x0 : Int)) then bif decide (0 ≤ x2) && decide (x2 < (List.length x0 : Int)) then Option.bind (c13 ((getD x0 (toNat x2) Z0).1, (getD x0 (toNat x2) Z0).2.1, (getD x0 (toNat x2) Z0).2.2.1, (getD x0 (toNat x2) Z0).2.2.2, x1)) fun r1 => bif decide (r1 < 0) then some (-1 : Int) else L0 (x0, r1, wrap i64 (x2 + 1)) else none else some x1
noncomputable def ll0 : Y10 → LS
 | (x0, x1, x2) => ⟨[.cv ⟨.row K4, x0⟩, .cv ⟨.int .i64, x1⟩, .cv ⟨.int .i64, x2⟩], []⟩
noncomputable def m (B0 : Y10 → Option Int) : Y9 → Option Int
 | (a0_0, a1_0) => bif decide ((wrap i64 (a1_0 - (List.length a0_0 : Int))) < 0) then some (-1 : Int) else B0 (a0_0, wrap i64 (a1_0 - (List.length a0_0 : Int)), (0 : Int))
noncomputable def sig : Sig := ⟨[.val false [⟨.row K4, 0, 0, false⟩], .val false [⟨.int .i64, 0, 0, false⟩]], [(.one, [(.int .i64, 0)])]⟩
noncomputable def hint : Nat → Hint
 | 0 => ⟨[(0, .keep), (1, .keep), (5, .keep)], []⟩
 | _ => ⟨[], []⟩
noncomputable def join (_ : Nat) : Option Hint := none
noncomputable def body : Code := (Tryd.f4).body.getD .skip
noncomputable def rv : List ResultVar := (Tryd.f4).results.toList
noncomputable def fn : Fn := ⟨27, sig, rv, body, hint, join⟩
end laws_szDefS
namespace spec_l1In
noncomputable def m  : (Int × Int × Int) → Option Bool
 | (a0_0, a1_0, a2_0) => bif decide (a0_0 ≥ a1_0) then some (decide (a0_0 ≤ a2_0)) else some false
noncomputable def sig : Sig := ⟨[.val false [⟨.int .i64, 0, 0, false⟩], .val false [⟨.int .i64, 0, 0, false⟩], .val false [⟨.int .i64, 0, 0, false⟩]], [(.one, [(.bool, 0)])]⟩
noncomputable def hint (_ : Nat) : Hint := ⟨[], []⟩
noncomputable def join (_ : Nat) : Option Hint := none
noncomputable def body : Code := (Tryd.f26).body.getD .skip
noncomputable def rv : List ResultVar := (Tryd.f26).results.toList
noncomputable def fn : Fn := ⟨15, sig, rv, body, hint, join⟩
end spec_l1In
namespace spec_l8Small
noncomputable def m (c26 : (Int × Int × Int) → Option Bool) : Int → Option Bool
 | a0_0 => Option.bind (c26 (wrap i64 a0_0, (97 : Int), (122 : Int))) fun r1 => some r1
noncomputable def sig : Sig := ⟨[.val false [⟨.int .u8, 0, 0, false⟩]], [(.one, [(.bool, 0)])]⟩
noncomputable def hint (_ : Nat) : Hint := ⟨[], []⟩
noncomputable def join (_ : Nat) : Option Hint := none
noncomputable def body : Code := (Tryd.f60).body.getD .skip
noncomputable def rv : List ResultVar := (Tryd.f60).results.toList
noncomputable def fn : Fn := ⟨6, sig, rv, body, hint, join⟩
end spec_l8Small
namespace spec_l2Digit
noncomputable def m (c26 : (Int × Int × Int) → Option Bool) : Int → Option Bool
 | a0_0 => Option.bind (c26 (wrap i64 a0_0, (48 : Int), (57 : Int))) fun r1 => some r1
noncomputable def sig : Sig := ⟨[.val false [⟨.int .u8, 0, 0, false⟩]], [(.one, [(.bool, 0)])]⟩
noncomputable def hint (_ : Nat) : Hint := ⟨[], []⟩
noncomputable def join (_ : Nat) : Option Hint := none
noncomputable def body : Code := (Tryd.f61).body.getD .skip
noncomputable def rv : List ResultVar := (Tryd.f61).results.toList
noncomputable def fn : Fn := ⟨6, sig, rv, body, hint, join⟩
end spec_l2Digit
namespace spec_l8Name
noncomputable def s0 (c26 : (Int × Int × Int) → Option Bool) (c60 c61 : Int → Option Bool) (L0 : (ByteArray × Int) → Option Bool) : (ByteArray × Int) → Option Bool
 | (x0, x1) => bif decide (x1 < (ByteArray.size x0 : Int)) then bif decide (0 ≤ x1) && decide (x1 < (ByteArray.size x0 : Int)) then Option.bind (c60 ((ByteArray.get! x0 (toNat x1)).toNat : Int)) fun r1 => bif !(r1) then bif x1 == 0 then some false else bif decide (0 ≤ x1) && decide (x1 < (ByteArray.size x0 : Int)) then Option.bind (c61 ((ByteArray.get! x0 (toNat x1)).toNat : Int)) fun r2 => bif !(r2) then some false else L0 (x0, wrap i64 (x1 + 1)) else none else L0 (x0, wrap i64 (x1 + 1)) else none else Option.bind (c26 ((ByteArray.size x0 : Int), (1 : Int), (8 : Int))) fun r3 => some r3
noncomputable def ll0 : (ByteArray × Int) → LS
 | (x0, x1) => ⟨[.cv ⟨.str, x0⟩, .cv ⟨.int .i64, x1⟩], []⟩
noncomputable def m (B0 : (ByteArray × Int) → Option Bool) : ByteArray → Option Bool
 | a0_0 => B0 (a0_0, (0 : Int))
noncomputable def sig : Sig := ⟨[.val false [⟨.str, 0, 0, false⟩]], [(.one, [(.bool, 0)])]⟩
noncomputable def hint : Nat → Hint
 | 0 => ⟨[(0, .keep), (3, .keep)], []⟩
 | _ => ⟨[], []⟩
noncomputable def join (_ : Nat) : Option Hint := none
noncomputable def body : Code := (Tryd.f56).body.getD .skip
noncomputable def rv : List ResultVar := (Tryd.f56).results.toList
noncomputable def fn : Fn := ⟨29, sig, rv, body, hint, join⟩
end spec_l8Name
namespace spec_l9Has
noncomputable def s0 (L0 : Y12 → Option Bool) : Y12 → Option Bool
 | (x0, x1, x2) => bif decide (x2 < (List.length x0 : Int)) then bif decide (0 ≤ x2) && decide (x2 < (List.length x0 : Int)) then bif ByteArray.toList (getD x0 (toNat x2) ByteArray.empty) == ByteArray.toList x1 then some true else L0 (x0, x1, wrap i64 (x2 + 1)) else none else some false
noncomputable def ll0 : Y12 → LS
 | (x0, x1, x2) => ⟨[.cv ⟨.row K0, x0⟩, .cv ⟨.str, x1⟩, .cv ⟨.int .i64, x2⟩], []⟩
noncomputable def m (B0 : Y12 → Option Bool) : Y11 → Option Bool
 | (a0_0, a1_0) => B0 (a0_0, a1_0, (0 : Int))
noncomputable def sig : Sig := ⟨[.val false [⟨.row K0, 0, 0, false⟩], .val false [⟨.str, 0, 0, false⟩]], [(.one, [(.bool, 0)])]⟩
noncomputable def hint : Nat → Hint
 | 0 => ⟨[(0, .keep), (1, .keep), (5, .keep)], []⟩
 | _ => ⟨[], []⟩
noncomputable def join (_ : Nat) : Option Hint := none
noncomputable def body : Code := (Tryd.f57).body.getD .skip
noncomputable def rv : List ResultVar := (Tryd.f57).results.toList
noncomputable def fn : Fn := ⟨18, sig, rv, body, hint, join⟩
end spec_l9Has
namespace spec_l9Word
noncomputable def m (c56 : ByteArray → Option Bool) (c57 : Y11 → Option Bool) : ByteArray → Option Bool
 | a0_0 => Option.bind (c56 a0_0) fun r1 => bif r1 then Option.bind (c57 (([({ data := #[116, 97, 98, 108, 101] } : ByteArray), ({ data := #[112, 114, 105, 109, 97, 114, 121] } : ByteArray), ({ data := #[117, 110, 105, 113, 117, 101] } : ByteArray), ({ data := #[105, 110, 100, 101, 120] } : ByteArray), ({ data := #[110, 117, 108, 108] } : ByteArray), ({ data := #[100, 101, 115, 99] } : ByteArray), ({ data := #[105, 110, 116] } : ByteArray), ({ data := #[110, 117, 109] } : ByteArray), ({ data := #[116, 101, 120, 116] } : ByteArray), ({ data := #[98, 111, 111, 108] } : ByteArray)] : List ByteArray), a0_0)) fun r2 => some (!(r2)) else some false
noncomputable def sig : Sig := ⟨[.val false [⟨.str, 0, 0, false⟩]], [(.one, [(.bool, 0)])]⟩
noncomputable def hint (_ : Nat) : Hint := ⟨[], []⟩
noncomputable def join (_ : Nat) : Option Hint := none
noncomputable def body : Code := (Tryd.f52).body.getD .skip
noncomputable def rv : List ResultVar := (Tryd.f52).results.toList
noncomputable def fn : Fn := ⟨11, sig, rv, body, hint, join⟩
end spec_l9Word
namespace spec_l9Names
noncomputable def s0 (c52 : ByteArray → Option Bool) (B2 L0 : Y13 → Option Bool) : Y13 → Option Bool
 | (x0, x1, x2, x3, x4) => bif decide (x0 < (List.length x2 : Int)) then bif decide (0 ≤ x0) && decide (x0 < (List.length x2 : Int)) then Option.bind (c52 ((getD x2 (toNat x0) Z2).1)) fun r1 => bif !(r1) then some false else L0 (wrap i64 (x0 + 1), x1, x2, x3, x4) else none else B2 ((0 : Int), x1, x2, x3, x4)
noncomputable def ll0 : Y13 → LS
 | (x0, x1, x2, x3, x4) => ⟨[.addr 65 0 [] 0, .cv ⟨.int .i64, x0⟩], [⟨false, [⟨0, 0, .mk 0 ⟨.str, x1⟩⟩, ⟨0, 0, .mk 0 ⟨.row K1, x2⟩⟩, ⟨0, 0, .mk 0 ⟨.row K2, x3⟩⟩, ⟨0, 0, .mk 0 ⟨.row K3, x4⟩⟩]⟩]⟩
noncomputable def s2 (c52 : ByteArray → Option Bool) (L2 : Y13 → Option Bool) : Y13 → Option Bool
 | (x0, x1, x2, x3, x4) => bif decide (x0 < (List.length x4 : Int)) then bif decide (0 ≤ x0) && decide (x0 < (List.length x4 : Int)) then Option.bind (c52 ((getD x4 (toNat x0) Z1).1)) fun r2 => bif !(r2) then some false else L2 (wrap i64 (x0 + 1), x1, x2, x3, x4) else none else Option.bind (c52 x1) fun r3 => some r3
noncomputable def ll2 : Y13 → LS
 | (x0, x1, x2, x3, x4) => ⟨[.addr 65 0 [] 0, .cv ⟨.int .i64, x0⟩], [⟨false, [⟨0, 0, .mk 0 ⟨.str, x1⟩⟩, ⟨0, 0, .mk 0 ⟨.row K1, x2⟩⟩, ⟨0, 0, .mk 0 ⟨.row K2, x3⟩⟩, ⟨0, 0, .mk 0 ⟨.row K3, x4⟩⟩]⟩]⟩
noncomputable def m (B0 : Y13 → Option Bool) : Y1 → Option Bool
 | (a0_0, a0_1, a0_2, a0_3) => B0 ((0 : Int), a0_0, a0_1, a0_2, a0_3)
noncomputable def sig : Sig := ⟨[.val true [⟨.str, 0, 0, false⟩, ⟨.row K1, 0, 0, false⟩, ⟨.row K2, 0, 0, false⟩, ⟨.row K3, 0, 0, false⟩]], [(.one, [(.bool, 0)])]⟩
noncomputable def hint : Nat → Hint
 | 0 => ⟨[(1, .keep), (3, .keep)], [(65, [0, 0, 0, 0])]⟩
 | 2 => ⟨[(1, .keep), (4, .keep)], [(65, [0, 0, 0, 0])]⟩
 | _ => ⟨[], []⟩
noncomputable def join (_ : Nat) : Option Hint := none
noncomputable def body : Code := (Tryd.f45).body.getD .skip
noncomputable def rv : List ResultVar := (Tryd.f45).results.toList
noncomputable def fn : Fn := ⟨38, sig, rv, body, hint, join⟩
end spec_l9Names
namespace spec_l9Types
noncomputable def s0 (c26 : (Int × Int × Int) → Option Bool) (L0 : Y13 → Option Bool) : Y13 → Option Bool
 | (x0, x1, x2, x3, x4) => bif decide (x0 < (List.length x2 : Int)) then bif decide (0 ≤ x0) && decide (x0 < (List.length x2 : Int)) then Option.bind (c26 ((getD x2 (toNat x0) Z2).2.1, (1 : Int), (4 : Int))) fun r1 => bif !(r1) then some false else L0 (wrap i64 (x0 + 1), x1, x2, x3, x4) else none else Option.bind (c26 ((List.length x2 : Int), (1 : Int), (6 : Int))) fun r2 => some r2
noncomputable def ll0 : Y13 → LS
 | (x0, x1, x2, x3, x4) => ⟨[.addr 65 0 [] 0, .cv ⟨.int .i64, x0⟩], [⟨false, [⟨0, 0, .mk 0 ⟨.str, x1⟩⟩, ⟨0, 0, .mk 0 ⟨.row K1, x2⟩⟩, ⟨0, 0, .mk 0 ⟨.row K2, x3⟩⟩, ⟨0, 0, .mk 0 ⟨.row K3, x4⟩⟩]⟩]⟩
noncomputable def m (B0 : Y13 → Option Bool) : Y1 → Option Bool
 | (a0_0, a0_1, a0_2, a0_3) => B0 ((0 : Int), a0_0, a0_1, a0_2, a0_3)
noncomputable def sig : Sig := ⟨[.val true [⟨.str, 0, 0, false⟩, ⟨.row K1, 0, 0, false⟩, ⟨.row K2, 0, 0, false⟩, ⟨.row K3, 0, 0, false⟩]], [(.one, [(.bool, 0)])]⟩
noncomputable def hint : Nat → Hint
 | 0 => ⟨[(1, .keep), (3, .keep)], [(65, [0, 0, 0, 0])]⟩
 | _ => ⟨[], []⟩
noncomputable def join (_ : Nat) : Option Hint := none
noncomputable def body : Code := (Tryd.f46).body.getD .skip
noncomputable def rv : List ResultVar := (Tryd.f46).results.toList
noncomputable def fn : Fn := ⟨23, sig, rv, body, hint, join⟩
end spec_l9Types
namespace spec_l9Col
noncomputable def s0 (L0 : Y15 → Option Int) : Y15 → Option Int
 | (x0, x1, x2, x3, x4, x5) => bif decide (x1 < (List.length x3 : Int)) then bif decide (0 ≤ x1) && decide (x1 < (List.length x3 : Int)) then bif ByteArray.toList ((getD x3 (toNat x1) Z2).1) == ByteArray.toList x0 then some x1 else L0 (x0, wrap i64 (x1 + 1), x2, x3, x4, x5) else none else some (-1 : Int)
noncomputable def ll0 : Y15 → LS
 | (x0, x1, x2, x3, x4, x5) => ⟨[.cv ⟨.str, x0⟩, .addr 129 0 [] 0, .cv ⟨.int .i64, x1⟩], [⟨false, [⟨0, 0, .mk 0 ⟨.str, x2⟩⟩, ⟨0, 0, .mk 0 ⟨.row K1, x3⟩⟩, ⟨0, 0, .mk 0 ⟨.row K2, x4⟩⟩, ⟨0, 0, .mk 0 ⟨.row K3, x5⟩⟩]⟩]⟩
noncomputable def m (B0 : Y15 → Option Int) : Y14 → Option Int
 | (a0_0, a0_1, a0_2, a0_3, a1_0) => B0 (a1_0, (0 : Int), a0_0, a0_1, a0_2, a0_3)
noncomputable def sig : Sig := ⟨[.val true [⟨.str, 0, 0, false⟩, ⟨.row K1, 0, 0, false⟩, ⟨.row K2, 0, 0, false⟩, ⟨.row K3, 0, 0, false⟩], .val false [⟨.str, 0, 0, false⟩]], [(.one, [(.int .i64, 0)])]⟩
noncomputable def hint : Nat → Hint
 | 0 => ⟨[(1, .keep), (2, .keep), (5, .keep)], [(129, [0, 0, 0, 0])]⟩
 | _ => ⟨[], []⟩
noncomputable def join (_ : Nat) : Option Hint := none
noncomputable def body : Code := (Tryd.f53).body.getD .skip
noncomputable def rv : List ResultVar := (Tryd.f53).results.toList
noncomputable def fn : Fn := ⟨22, sig, rv, body, hint, join⟩
end spec_l9Col
namespace spec_l9Once
noncomputable def s0 (c53 : Y14 → Option Int) (B2 L0 : Y13 → Option Bool) : Y13 → Option Bool
 | (x0, x1, x2, x3, x4) => bif decide (x0 < (List.length x2 : Int)) then bif decide (0 ≤ x0) && decide (x0 < (List.length x2 : Int)) then Option.bind (c53 (x1, x2, x3, x4, (getD x2 (toNat x0) Z2).1)) fun r1 => bif r1 != x0 then some false else L0 (wrap i64 (x0 + 1), x1, x2, x3, x4) else none else B2 ((0 : Int), x1, x2, x3, x4)
noncomputable def ll0 : Y13 → LS
 | (x0, x1, x2, x3, x4) => ⟨[.addr 65 0 [] 0, .cv ⟨.int .i64, x0⟩], [⟨false, [⟨0, 0, .mk 0 ⟨.str, x1⟩⟩, ⟨0, 0, .mk 0 ⟨.row K1, x2⟩⟩, ⟨0, 0, .mk 0 ⟨.row K2, x3⟩⟩, ⟨0, 0, .mk 0 ⟨.row K3, x4⟩⟩]⟩]⟩
noncomputable def s2 (B4 : Y16 → Option Bool) (L2 : Y13 → Option Bool) : Y13 → Option Bool
 | (x0, x1, x2, x3, x4) => bif decide (x0 < (List.length x4 : Int)) then B4 (x0, (0 : Int), x1, x2, x3, x4) else some true
noncomputable def ll2 : Y13 → LS
 | (x0, x1, x2, x3, x4) => ⟨[.addr 65 0 [] 0, .cv ⟨.int .i64, x0⟩], [⟨false, [⟨0, 0, .mk 0 ⟨.str, x1⟩⟩, ⟨0, 0, .mk 0 ⟨.row K1, x2⟩⟩, ⟨0, 0, .mk 0 ⟨.row K2, x3⟩⟩, ⟨0, 0, .mk 0 ⟨.row K3, x4⟩⟩]⟩]⟩
noncomputable def s4 (L2 : Y13 → Option Bool) (L4 : Y16 → Option Bool) : Y16 → Option Bool
 | (x0, x1, x2, x3, x4, x5) => bif decide (x1 < x0) then bif decide (0 ≤ x1) && decide (x1 < (List.length x5 : Int)) then bif decide (0 ≤ x0) && decide (x0 < (List.length x5 : Int)) then bif ByteArray.toList ((getD x5 (toNat x1) Z1).1) == ByteArray.toList ((getD x5 (toNat x0) Z1).1) then some false else L4 (x0, wrap i64 (x1 + 1), x2, x3, x4, x5) else none else none else L2 (wrap i64 (x0 + 1), x2, x3, x4, x5)
noncomputable def ll4 : Y16 → LS
 | (x0, x1, x2, x3, x4, x5) => ⟨[.addr 65 0 [] 0, .cv ⟨.int .i64, x0⟩, .cv ⟨.int .i64, x1⟩], [⟨false, [⟨0, 0, .mk 0 ⟨.str, x2⟩⟩, ⟨0, 0, .mk 0 ⟨.row K1, x3⟩⟩, ⟨0, 0, .mk 0 ⟨.row K2, x4⟩⟩, ⟨0, 0, .mk 0 ⟨.row K3, x5⟩⟩]⟩]⟩
noncomputable def m (B0 : Y13 → Option Bool) : Y1 → Option Bool
 | (a0_0, a0_1, a0_2, a0_3) => B0 ((0 : Int), a0_0, a0_1, a0_2, a0_3)
noncomputable def sig : Sig := ⟨[.val true [⟨.str, 0, 0, false⟩, ⟨.row K1, 0, 0, false⟩, ⟨.row K2, 0, 0, false⟩, ⟨.row K3, 0, 0, false⟩]], [(.one, [(.bool, 0)])]⟩
noncomputable def hint : Nat → Hint
 | 0 => ⟨[(1, .keep), (3, .keep)], [(65, [0, 0, 0, 0])]⟩
 | 2 => ⟨[(1, .keep), (4, .keep)], [(65, [0, 0, 0, 0])]⟩
 | 4 => ⟨[(1, .keep), (4, .keep), (5, .keep)], [(65, [0, 0, 0, 0])]⟩
 | _ => ⟨[], []⟩
noncomputable def join (_ : Nat) : Option Hint := none
noncomputable def body : Code := (Tryd.f47).body.getD .skip
noncomputable def rv : List ResultVar := (Tryd.f47).results.toList
noncomputable def fn : Fn := ⟨48, sig, rv, body, hint, join⟩
end spec_l9Once
namespace spec_l9Parts
noncomputable def s0 (c26 : (Int × Int × Int) → Option Bool) (L0 : Y18 → Option Bool) : Y18 → Option Bool
 | (x0, x1, x2, x3, x4, x5) => bif decide (x1 < (List.length x0 : Int)) then bif decide (0 ≤ x1) && decide (x1 < (List.length x0 : Int)) then Option.bind (c26 ((getD x0 (toNat x1) Z3).1, (0 : Int), wrap i64 ((List.length x3 : Int) - 1))) fun r1 => bif !(r1) then some false else bif decide (x1 > 0) then bif decide (0 ≤ 0) && decide ((0 : Int) < (List.length x0 : Int)) then bif decide (0 ≤ x1) && decide (x1 < (List.length x0 : Int)) then bif ((getD x0 (toNat (0 : Int)) Z3).1) == ((getD x0 (toNat x1) Z3).1) then some false else L0 (x0, wrap i64 (x1 + 1), x2, x3, x4, x5) else none else none else L0 (x0, wrap i64 (x1 + 1), x2, x3, x4, x5) else none else Option.bind (c26 ((List.length x0 : Int), (1 : Int), (2 : Int))) fun r2 => some r2
noncomputable def ll0 : Y18 → LS
 | (x0, x1, x2, x3, x4, x5) => ⟨[.cv ⟨.row K2, x0⟩, .addr 129 0 [] 0, .cv ⟨.int .i64, x1⟩], [⟨false, [⟨0, 0, .mk 0 ⟨.str, x2⟩⟩, ⟨0, 0, .mk 0 ⟨.row K1, x3⟩⟩, ⟨0, 0, .mk 0 ⟨.row K2, x4⟩⟩, ⟨0, 0, .mk 0 ⟨.row K3, x5⟩⟩]⟩]⟩
noncomputable def m (B0 : Y18 → Option Bool) : Y17 → Option Bool
 | (a0_0, a0_1, a0_2, a0_3, a1_0) => B0 (a1_0, (0 : Int), a0_0, a0_1, a0_2, a0_3)
noncomputable def sig : Sig := ⟨[.val true [⟨.str, 0, 0, false⟩, ⟨.row K1, 0, 0, false⟩, ⟨.row K2, 0, 0, false⟩, ⟨.row K3, 0, 0, false⟩], .val false [⟨.row K2, 0, 0, false⟩]], [(.one, [(.bool, 0)])]⟩
noncomputable def hint : Nat → Hint
 | 0 => ⟨[(1, .keep), (2, .keep), (5, .keep)], [(129, [0, 0, 0, 0])]⟩
 | _ => ⟨[], []⟩
noncomputable def join (_ : Nat) : Option Hint := none
noncomputable def body : Code := (Tryd.f54).body.getD .skip
noncomputable def rv : List ResultVar := (Tryd.f54).results.toList
noncomputable def fn : Fn := ⟨42, sig, rv, body, hint, join⟩
end spec_l9Parts
namespace spec_l9AllParts
noncomputable def s0 (c54 : Y17 → Option Bool) (L0 : Y13 → Option Bool) : Y13 → Option Bool
 | (x0, x1, x2, x3, x4) => bif decide (x0 < (List.length x4 : Int)) then bif decide (0 ≤ x0) && decide (x0 < (List.length x4 : Int)) then Option.bind (c54 (x1, x2, x3, x4, (getD x4 (toNat x0) Z1).2.2)) fun r1 => bif !(r1) then some false else L0 (wrap i64 (x0 + 1), x1, x2, x3, x4) else none else Option.bind (c54 (x1, x2, x3, x4, x3)) fun r2 => some r2
noncomputable def ll0 : Y13 → LS
 | (x0, x1, x2, x3, x4) => ⟨[.addr 65 0 [] 0, .cv ⟨.int .i64, x0⟩], [⟨false, [⟨0, 0, .mk 0 ⟨.str, x1⟩⟩, ⟨0, 0, .mk 0 ⟨.row K1, x2⟩⟩, ⟨0, 0, .mk 0 ⟨.row K2, x3⟩⟩, ⟨0, 0, .mk 0 ⟨.row K3, x4⟩⟩]⟩]⟩
noncomputable def m (B0 : Y13 → Option Bool) : Y1 → Option Bool
 | (a0_0, a0_1, a0_2, a0_3) => B0 ((0 : Int), a0_0, a0_1, a0_2, a0_3)
noncomputable def sig : Sig := ⟨[.val true [⟨.str, 0, 0, false⟩, ⟨.row K1, 0, 0, false⟩, ⟨.row K2, 0, 0, false⟩, ⟨.row K3, 0, 0, false⟩]], [(.one, [(.bool, 0)])]⟩
noncomputable def hint : Nat → Hint
 | 0 => ⟨[(1, .keep), (3, .keep)], [(65, [0, 0, 0, 0])]⟩
 | _ => ⟨[], []⟩
noncomputable def join (_ : Nat) : Option Hint := none
noncomputable def body : Code := (Tryd.f48).body.getD .skip
noncomputable def rv : List ResultVar := (Tryd.f48).results.toList
noncomputable def fn : Fn := ⟨24, sig, rv, body, hint, join⟩
end spec_l9AllParts
namespace spec_CheckDef
noncomputable def s1 (L1 : Y13 → Option Int) : Y13 → Option Int
 | (x0, x1, x2, x3, x4) => bif decide (x0 < (List.length x3 : Int)) then bif decide (0 ≤ x0) && decide (x0 < (List.length x3 : Int)) then bif decide (0 ≤ ((getD x3 (toNat x0) Z3).1)) && decide (((getD x3 (toNat x0) Z3).1) < (List.length x2 : Int)) then bif (getD x2 (toNat ((getD x3 (toNat x0) Z3).1)) Z2).2.2 then some (4 : Int) else L1 (wrap i64 (x0 + 1), x1, x2, x3, x4) else none else none else some (0 : Int)
noncomputable def ll1 : Y13 → LS
 | (x0, x1, x2, x3, x4) => ⟨[.addr 65 0 [] 0, .cv ⟨.int .i64, x0⟩], [⟨false, [⟨0, 0, .mk 0 ⟨.str, x1⟩⟩, ⟨0, 0, .mk 0 ⟨.row K1, x2⟩⟩, ⟨0, 0, .mk 0 ⟨.row K2, x3⟩⟩, ⟨0, 0, .mk 0 ⟨.row K3, x4⟩⟩]⟩]⟩
noncomputable def m (c45 c46 c47 c48 : Y1 → Option Bool) (B1 : Y13 → Option Int) : Y1 → Option Int
 | (a0_0, a0_1, a0_2, a0_3) => Option.bind (c45 (a0_0, a0_1, a0_2, a0_3)) fun r1 => bif !(r1) then some (1 : Int) else Option.bind (c46 (a0_0, a0_1, a0_2, a0_3)) fun r2 => bif !(r2) then some (2 : Int) else Option.bind (c47 (a0_0, a0_1, a0_2, a0_3)) fun r3 => bif !(r3) then some (3 : Int) else bif decide ((List.length a0_3 : Int) > 2) then some (6 : Int) else Option.bind (c48 (a0_0, a0_1, a0_2, a0_3)) fun r4 => bif !(r4) then some (5 : Int) else B1 ((0 : Int), a0_0, a0_1, a0_2, a0_3)
noncomputable def sig : Sig := ⟨[.val true [⟨.str, 0, 0, false⟩, ⟨.row K1, 0, 0, false⟩, ⟨.row K2, 0, 0, false⟩, ⟨.row K3, 0, 0, false⟩]], [(.one, [(.int .i64, 0)])]⟩
noncomputable def hint : Nat → Hint
 | 1 => ⟨[(1, .keep), (3, .keep)], [(65, [0, 0, 0, 0])]⟩
 | _ => ⟨[], []⟩
noncomputable def join (_ : Nat) : Option Hint := none
noncomputable def body : Code := (Tryd.f37).body.getD .skip
noncomputable def rv : List ResultVar := (Tryd.f37).results.toList
noncomputable def fn : Fn := ⟨43, sig, rv, body, hint, join⟩
end spec_CheckDef
namespace spec_FirstBad
noncomputable def s0 (c37 : Y1 → Option Int) (B2 : Y20 → Option Int) (L0 : Y9 → Option Int) : Y9 → Option Int
 | (x0, x1) => bif decide (x1 < (List.length x0 : Int)) then bif decide (0 ≤ x1) && decide (x1 < (List.length x0 : Int)) then Option.bind (c37 ((getD x0 (toNat x1) Z0).1, (getD x0 (toNat x1) Z0).2.1, (getD x0 (toNat x1) Z0).2.2.1, (getD x0 (toNat x1) Z0).2.2.2)) fun r1 => bif r1 != 0 then some x1 else bif decide (x1 > 2) then some x1 else B2 (x0, x1, (0 : Int), x1, decide (x1 > 2)) else none else some (-1 : Int)
noncomputable def ll0 : Y9 → LS
 | (x0, x1) => ⟨[.cv ⟨.row K4, x0⟩, .cv ⟨.int .i64, x1⟩], []⟩
noncomputable def s2 (L0 : Y9 → Option Int) (L2 : Y20 → Option Int) : Y20 → Option Int
 | (x0, x1, x2, x3, x4) => bif decide (x2 < x1) then bif decide (0 ≤ x2) && decide (x2 < (List.length x0 : Int)) then bif decide (0 ≤ x1) && decide (x1 < (List.length x0 : Int)) then bif ByteArray.toList ((getD x0 (toNat x2) Z0).1) == ByteArray.toList ((getD x0 (toNat x1) Z0).1) then some x1 else L2 (x0, x1, wrap i64 (x2 + 1), x3, x4) else none else none else L0 (x0, wrap i64 (x1 + 1))
noncomputable def ll2 : Y20 → LS
 | (x0, x1, x2, x3, x4) => ⟨[.cv ⟨.row K4, x0⟩, .cv ⟨.int .i64, x1⟩, .cv ⟨.int .i64, x2⟩, .cv ⟨.int .i64, x3⟩, .cv ⟨.bool, x4⟩], []⟩
noncomputable def m (B0 : Y9 → Option Int) : Y19 → Option Int
 | a0_0 => B0 (a0_0, (0 : Int))
noncomputable def sig : Sig := ⟨[.val false [⟨.row K4, 0, 0, false⟩]], [(.one, [(.int .i64, 0)])]⟩
noncomputable def hint : Nat → Hint
 | 0 => ⟨[(0, .keep), (3, .keep)], []⟩
 | 2 => ⟨[(0, .keep), (3, .keep), (4, .keep), (18, .keep), (19, .keep)], []⟩
 | _ => ⟨[], []⟩
noncomputable def join (_ : Nat) : Option Hint := none
noncomputable def body : Code := (Tryd.f25).body.getD .skip
noncomputable def rv : List ResultVar := (Tryd.f25).results.toList
noncomputable def fn : Fn := ⟨39, sig, rv, body, hint, join⟩
end spec_FirstBad
namespace spec_l11There
noncomputable def m (c25 : Y19 → Option Int) (c26 : (Int × Int × Int) → Option Bool) : Y10 → Option Bool
 | (a0_0, a1_0, a2_0) => Option.bind (c25 a0_0) fun r1 => bif r1 == (-1) then Option.bind (c26 (a1_0, (0 : Int), wrap i64 ((List.length a0_0 : Int) - 1))) fun r2 => bif r2 then bif decide (0 ≤ a1_0) && decide (a1_0 < (List.length a0_0 : Int)) then Option.bind (c26 (a2_0, (-1 : Int), wrap i64 ((List.length ((getD a0_0 (toNat a1_0) Z0).2.2.2) : Int) - 1))) fun r3 => some r3 else none else some false else some false
noncomputable def sig : Sig := ⟨[.val false [⟨.row K4, 0, 0, false⟩], .val false [⟨.int .i64, 0, 0, false⟩], .val false [⟨.int .i64, 0, 0, false⟩]], [(.one, [(.bool, 0)])]⟩
noncomputable def hint (_ : Nat) : Hint := ⟨[], []⟩
noncomputable def join (_ : Nat) : Option Hint := none
noncomputable def body : Code := (Tryd.f14).body.getD .skip
noncomputable def rv : List ResultVar := (Tryd.f14).results.toList
noncomputable def fn : Fn := ⟨28, sig, rv, body, hint, join⟩
end spec_l11There
namespace spec_HeadOf
noncomputable def m (c14 : Y10 → Option Bool) : Y10 → Option ((List Int))
 | (a0_0, a1_0, a2_0) => Option.bind (c14 (a0_0, a1_0, a2_0)) fun r1 => bif !(r1) then some ([] : List Int) else some ([wrap .u8 (wrap i64 (a1_0 + 1)), wrap .u8 (wrap i64 (a2_0 + 1))] : List Int)
noncomputable def sig : Sig := ⟨[.val false [⟨.row K4, 0, 0, false⟩], .val false [⟨.int .i64, 0, 0, false⟩], .val false [⟨.int .i64, 0, 0, false⟩]], [(.one, [(.row K5, 1)])]⟩
noncomputable def hint (_ : Nat) : Hint := ⟨[], []⟩
noncomputable def join (_ : Nat) : Option Hint := none
noncomputable def body : Code := (Tryd.f5).body.getD .skip
noncomputable def rv : List ResultVar := (Tryd.f5).results.toList
noncomputable def fn : Fn := ⟨20, sig, rv, body, hint, join⟩
end spec_HeadOf
namespace laws_toCol
noncomputable def m  : (ByteArray × Int × Bool) → Option (ByteArray × Int × Bool)
 | (a0_0, a0_1, a0_2) => some (a0_0, a0_1, a0_2)
noncomputable def sig : Sig := ⟨[.val true [⟨.str, 0, 0, false⟩, ⟨.int .i64, 0, 0, false⟩, ⟨.bool, 0, 0, false⟩]], [(.agg, [(.str, 0), (.int .i64, 0), (.bool, 0)])]⟩
noncomputable def hint (_ : Nat) : Hint := ⟨[], []⟩
noncomputable def join (_ : Nat) : Option Hint := none
noncomputable def body : Code := (Tryd.f38).body.getD .skip
noncomputable def rv : List ResultVar := (Tryd.f38).results.toList
noncomputable def fn : Fn := ⟨14, sig, rv, body, hint, join⟩
end laws_toCol
namespace laws_toColS
noncomputable def s0 (c38 : (ByteArray × Int × Bool) → Option (ByteArray × Int × Bool)) (L0 : Y22 → Option Y21) : Y22 → Option Y21
 | (x0, x1, x2) => bif decide (x1 < (List.length x0 : Int)) then bif decide (0 ≤ x1) && decide (x1 < (List.length x0 : Int)) then Option.bind (c38 ((getD x0 (toNat x1) Z2).1, (getD x0 (toNat x1) Z2).2.1, (getD x0 (toNat x1) Z2).2.2)) fun r1 => bif decide (0 ≤ x1) && decide (x1 < (List.length x2 : Int)) then L0 (x0, wrap i64 (x1 + 1), List.set (List.set (List.set x2 (toNat x1) (r1.1, (getD x2 (toNat x1) Z2).2.1, (getD x2 (toNat x1) Z2).2.2)) (toNat x1) ((getD (List.set x2 (toNat x1) (r1.1, (getD x2 (toNat x1) Z2).2.1, (getD x2 (toNat x1) Z2).2.2)) (toNat x1) Z2).1, r1.2.1, (getD (List.set x2 (toNat x1) (r1.1, (getD x2 (toNat x1) Z2).2.1, (getD x2 (toNat x1) Z2).2.2)) (toNat x1) Z2).2.2)) (toNat x1) ((getD (List.set (List.set x2 (toNat x1) (r1.1, (getD x2 (toNat x1) Z2).2.1, (getD x2 (toNat x1) Z2).2.2)) (toNat x1) ((getD (List.set x2 (toNat x1) (r1.1, (getD x2 (toNat x1) Z2).2.1, (getD x2 (toNat x1) Z2).2.2)) (toNat x1) Z2).1, r1.2.1, (getD (List.set x2 (toNat x1) (r1.1, (getD x2 (toNat x1) Z2).2.1, (getD x2 (toNat x1) Z2).2.2)) (toNat x1) Z2).2.2)) (toNat x1) Z2).1, (getD (List.set (List.set x2 (toNat x1) (r1.1, (getD x2 (toNat x1) Z2).2.1, (getD x2 (toNat x1) Z2).2.2)) (toNat x1) ((getD (List.set x2 (toNat x1) (r1.1, (getD x2 (toNat x1) Z2).2.1, (getD x2 (toNat x1) Z2).2.2)) (toNat x1) Z2).1, r1.2.1, (getD (List.set x2 (toNat x1) (r1.1, (getD x2 (toNat x1) Z2).2.1, (getD x2 (toNat x1) Z2).2.2)) (toNat x1) Z2).2.2)) (toNat x1) Z2).2.1, r1.2.2)) else none else none else some x2
noncomputable def ll0 : Y22 → LS
 | (x0, x1, x2) => ⟨[.cv ⟨.row K1, x0⟩, .ref 12 0 [] none 0, .cv ⟨.int .i64, x1⟩], [⟨true, [⟨0, 0, .mk 9 ⟨.row K1, x2⟩⟩]⟩]⟩
noncomputable def m (B0 : Y22 → Option Y21) : Y21 → Option Y21
 | a0_0 => bif decide (0 ≤ (List.length a0_0 : Int)) && decide ((List.length a0_0 : Int) ≤ (List.length a0_0 : Int)) && decide ((List.length a0_0 : Int) * 32 ≤ 140737488355328) then B0 (a0_0, (0 : Int), List.replicate (toNat (List.length a0_0 : Int)) Z2) else none
noncomputable def sig : Sig := ⟨[.val false [⟨.row K1, 0, 0, false⟩]], [(.one, [(.row K1, 1)])]⟩
noncomputable def hint : Nat → Hint
 | 0 => ⟨[(0, .keep), (3, .own 9 K1), (4, .keep)], []⟩
 | _ => ⟨[], []⟩
noncomputable def join (_ : Nat) : Option Hint := none
noncomputable def body : Code := (Tryd.f27).body.getD .skip
noncomputable def rv : List ResultVar := (Tryd.f27).results.toList
noncomputable def fn : Fn := ⟨23, sig, rv, body, hint, join⟩
end laws_toColS
namespace laws_toBy
noncomputable def m  : (Int × Bool) → Option (Int × Bool)
 | (a0_0, a0_1) => some (a0_0, a0_1)
noncomputable def sig : Sig := ⟨[.val true [⟨.int .i64, 0, 0, false⟩, ⟨.bool, 0, 0, false⟩]], [(.agg, [(.int .i64, 0), (.bool, 0)])]⟩
noncomputable def hint (_ : Nat) : Hint := ⟨[], []⟩
noncomputable def join (_ : Nat) : Option Hint := none
noncomputable def body : Code := (Tryd.f39).body.getD .skip
noncomputable def rv : List ResultVar := (Tryd.f39).results.toList
noncomputable def fn : Fn := ⟨11, sig, rv, body, hint, join⟩
end laws_toBy
namespace laws_toByS
noncomputable def s0 (c39 : (Int × Bool) → Option (Int × Bool)) (L0 : Y23 → Option ((List (Int × Bool)))) : Y23 → Option ((List (Int × Bool)))
 | (x0, x1, x2) => bif decide (x1 < (List.length x0 : Int)) then bif decide (0 ≤ x1) && decide (x1 < (List.length x0 : Int)) then Option.bind (c39 ((getD x0 (toNat x1) Z3).1, (getD x0 (toNat x1) Z3).2)) fun r1 => bif decide (0 ≤ x1) && decide (x1 < (List.length x2 : Int)) then L0 (x0, wrap i64 (x1 + 1), List.set (List.set x2 (toNat x1) (r1.1, (getD x2 (toNat x1) Z3).2)) (toNat x1) ((getD (List.set x2 (toNat x1) (r1.1, (getD x2 (toNat x1) Z3).2)) (toNat x1) Z3).1, r1.2)) else none else none else some x2
noncomputable def ll0 : Y23 → LS
 | (x0, x1, x2) => ⟨[.cv ⟨.row K2, x0⟩, .ref 12 0 [] none 0, .cv ⟨.int .i64, x1⟩], [⟨true, [⟨0, 0, .mk 9 ⟨.row K2, x2⟩⟩]⟩]⟩
noncomputable def m (B0 : Y23 → Option ((List (Int × Bool)))) : ((List (Int × Bool))) → Option ((List (Int × Bool)))
 | a0_0 => bif decide (0 ≤ (List.length a0_0 : Int)) && decide ((List.length a0_0 : Int) ≤ (List.length a0_0 : Int)) && decide ((List.length a0_0 : Int) * 16 ≤ 140737488355328) then B0 (a0_0, (0 : Int), List.replicate (toNat (List.length a0_0 : Int)) Z3) else none
noncomputable def sig : Sig := ⟨[.val false [⟨.row K2, 0, 0, false⟩]], [(.one, [(.row K2, 1)])]⟩
noncomputable def hint : Nat → Hint
 | 0 => ⟨[(0, .keep), (3, .own 9 K2), (4, .keep)], []⟩
 | _ => ⟨[], []⟩
noncomputable def join (_ : Nat) : Option Hint := none
noncomputable def body : Code := (Tryd.f28).body.getD .skip
noncomputable def rv : List ResultVar := (Tryd.f28).results.toList
noncomputable def fn : Fn := ⟨23, sig, rv, body, hint, join⟩
end laws_toByS
namespace laws_toIndex
noncomputable def m (c28 : ((List (Int × Bool))) → Option ((List (Int × Bool)))) : Y0 → Option Y0
 | (a0_0, a0_1, a0_2) => Option.bind (c28 a0_2) fun r1 => some (a0_0, a0_1, r1)
noncomputable def sig : Sig := ⟨[.val true [⟨.str, 0, 0, false⟩, ⟨.bool, 0, 0, false⟩, ⟨.row K2, 0, 0, false⟩]], [(.agg, [(.str, 0), (.bool, 0), (.row K2, 1)])]⟩
noncomputable def hint (_ : Nat) : Hint := ⟨[], []⟩
noncomputable def join (_ : Nat) : Option Hint := none
noncomputable def body : Code := (Tryd.f40).body.getD .skip
noncomputable def rv : List ResultVar := (Tryd.f40).results.toList
noncomputable def fn : Fn := ⟨15, sig, rv, body, hint, join⟩
end laws_toIndex
namespace laws_toIndexS
noncomputable def s0 (c40 : Y0 → Option Y0) (L0 : Y25 → Option Y24) : Y25 → Option Y24
 | (x0, x1, x2) => bif decide (x1 < (List.length x0 : Int)) then bif decide (0 ≤ x1) && decide (x1 < (List.length x0 : Int)) then Option.bind (c40 ((getD x0 (toNat x1) Z1).1, (getD x0 (toNat x1) Z1).2.1, (getD x0 (toNat x1) Z1).2.2)) fun r1 => bif decide (0 ≤ x1) && decide (x1 < (List.length x2 : Int)) then L0 (x0, wrap i64 (x1 + 1), List.set (List.set (List.set x2 (toNat x1) (r1.1, (getD x2 (toNat x1) Z1).2.1, (getD x2 (toNat x1) Z1).2.2)) (toNat x1) ((getD (List.set x2 (toNat x1) (r1.1, (getD x2 (toNat x1) Z1).2.1, (getD x2 (toNat x1) Z1).2.2)) (toNat x1) Z1).1, r1.2.1, (getD (List.set x2 (toNat x1) (r1.1, (getD x2 (toNat x1) Z1).2.1, (getD x2 (toNat x1) Z1).2.2)) (toNat x1) Z1).2.2)) (toNat x1) ((getD (List.set (List.set x2 (toNat x1) (r1.1, (getD x2 (toNat x1) Z1).2.1, (getD x2 (toNat x1) Z1).2.2)) (toNat x1) ((getD (List.set x2 (toNat x1) (r1.1, (getD x2 (toNat x1) Z1).2.1, (getD x2 (toNat x1) Z1).2.2)) (toNat x1) Z1).1, r1.2.1, (getD (List.set x2 (toNat x1) (r1.1, (getD x2 (toNat x1) Z1).2.1, (getD x2 (toNat x1) Z1).2.2)) (toNat x1) Z1).2.2)) (toNat x1) Z1).1, (getD (List.set (List.set x2 (toNat x1) (r1.1, (getD x2 (toNat x1) Z1).2.1, (getD x2 (toNat x1) Z1).2.2)) (toNat x1) ((getD (List.set x2 (toNat x1) (r1.1, (getD x2 (toNat x1) Z1).2.1, (getD x2 (toNat x1) Z1).2.2)) (toNat x1) Z1).1, r1.2.1, (getD (List.set x2 (toNat x1) (r1.1, (getD x2 (toNat x1) Z1).2.1, (getD x2 (toNat x1) Z1).2.2)) (toNat x1) Z1).2.2)) (toNat x1) Z1).2.1, r1.2.2)) else none else none else some x2
noncomputable def ll0 : Y25 → LS
 | (x0, x1, x2) => ⟨[.cv ⟨.row K3, x0⟩, .ref 12 0 [] none 0, .cv ⟨.int .i64, x1⟩], [⟨true, [⟨0, 0, .mk 9 ⟨.row K3, x2⟩⟩]⟩]⟩
noncomputable def m (B0 : Y25 → Option Y24) : Y24 → Option Y24
 | a0_0 => bif decide (0 ≤ (List.length a0_0 : Int)) && decide ((List.length a0_0 : Int) ≤ (List.length a0_0 : Int)) && decide ((List.length a0_0 : Int) * 48 ≤ 140737488355328) then B0 (a0_0, (0 : Int), List.replicate (toNat (List.length a0_0 : Int)) Z1) else none
noncomputable def sig : Sig := ⟨[.val false [⟨.row K3, 0, 0, false⟩]], [(.one, [(.row K3, 2)])]⟩
noncomputable def hint : Nat → Hint
 | 0 => ⟨[(0, .keep), (3, .own 9 K3), (4, .keep)], []⟩
 | _ => ⟨[], []⟩
noncomputable def join (_ : Nat) : Option Hint := none
noncomputable def body : Code := (Tryd.f29).body.getD .skip
noncomputable def rv : List ResultVar := (Tryd.f29).results.toList
noncomputable def fn : Fn := ⟨23, sig, rv, body, hint, join⟩
end laws_toIndexS
namespace laws_toDef
noncomputable def m (c27 : Y21 → Option Y21) (c28 : ((List (Int × Bool))) → Option ((List (Int × Bool)))) (c29 : Y24 → Option Y24) : Y1 → Option Y1
 | (a0_0, a0_1, a0_2, a0_3) => Option.bind (c27 a0_1) fun r1 => Option.bind (c28 a0_2) fun r2 => Option.bind (c29 a0_3) fun r3 => some (a0_0, r1, r2, r3)
noncomputable def sig : Sig := ⟨[.val true [⟨.str, 0, 0, false⟩, ⟨.row K1, 0, 0, false⟩, ⟨.row K2, 0, 0, false⟩, ⟨.row K3, 0, 0, false⟩]], [(.agg, [(.str, 0), (.row K1, 1), (.row K2, 1), (.row K3, 2)])]⟩
noncomputable def hint (_ : Nat) : Hint := ⟨[], []⟩
noncomputable def join (_ : Nat) : Option Hint := none
noncomputable def body : Code := (Tryd.f15).body.getD .skip
noncomputable def rv : List ResultVar := (Tryd.f15).results.toList
noncomputable def fn : Fn := ⟨20, sig, rv, body, hint, join⟩
end laws_toDef
namespace laws_toDefS
noncomputable def s0 (c15 : Y1 → Option Y1) (L0 : Y26 → Option Y19) : Y26 → Option Y19
 | (x0, x1, x2) => bif decide (x1 < (List.length x0 : Int)) then bif decide (0 ≤ x1) && decide (x1 < (List.length x0 : Int)) then Option.bind (c15 ((getD x0 (toNat x1) Z0).1, (getD x0 (toNat x1) Z0).2.1, (getD x0 (toNat x1) Z0).2.2.1, (getD x0 (toNat x1) Z0).2.2.2)) fun r1 => bif decide (0 ≤ x1) && decide (x1 < (List.length x2 : Int)) then L0 (x0, wrap i64 (x1 + 1), List.set (List.set (List.set (List.set x2 (toNat x1) (r1.1, (getD x2 (toNat x1) Z0).2.1, (getD x2 (toNat x1) Z0).2.2.1, (getD x2 (toNat x1) Z0).2.2.2)) (toNat x1) ((getD (List.set x2 (toNat x1) (r1.1, (getD x2 (toNat x1) Z0).2.1, (getD x2 (toNat x1) Z0).2.2.1, (getD x2 (toNat x1) Z0).2.2.2)) (toNat x1) Z0).1, r1.2.1, (getD (List.set x2 (toNat x1) (r1.1, (getD x2 (toNat x1) Z0).2.1, (getD x2 (toNat x1) Z0).2.2.1, (getD x2 (toNat x1) Z0).2.2.2)) (toNat x1) Z0).2.2.1, (getD (List.set x2 (toNat x1) (r1.1, (getD x2 (toNat x1) Z0).2.1, (getD x2 (toNat x1) Z0).2.2.1, (getD x2 (toNat x1) Z0).2.2.2)) (toNat x1) Z0).2.2.2)) (toNat x1) ((getD (List.set (List.set x2 (toNat x1) (r1.1, (getD x2 (toNat x1) Z0).2.1, (getD x2 (toNat x1) Z0).2.2.1, (getD x2 (toNat x1) Z0).2.2.2)) (toNat x1) ((getD (List.set x2 (toNat x1) (r1.1, (getD x2 (toNat x1) Z0).2.1, (getD x2 (toNat x1) Z0).2.2.1, (getD x2 (toNat x1) Z0).2.2.2)) (toNat x1) Z0).1, r1.2.1, (getD (List.set x2 (toNat x1) (r1.1, (getD x2 (toNat x1) Z0).2.1, (getD x2 (toNat x1) Z0).2.2.1, (getD x2 (toNat x1) Z0).2.2.2)) (toNat x1) Z0).2.2.1, (getD (List.set x2 (toNat x1) (r1.1, (getD x2 (toNat x1) Z0).2.1, (getD x2 (toNat x1) Z0).2.2.1, (getD x2 (toNat x1) Z0).2.2.2)) (toNat x1) Z0).2.2.2)) (toNat x1) Z0).1, (getD (List.set (List.set x2 (toNat x1) (r1.1, (getD x2 (toNat x1) Z0).2.1, (getD x2 (toNat x1) Z0).2.2.1, (getD x2 (toNat x1) Z0).2.2.2)) (toNat x1) ((getD (List.set x2 (toNat x1) (r1.1, (getD x2 (toNat x1) Z0).2.1, (getD x2 (toNat x1) Z0).2.2.1, (getD x2 (toNat x1) Z0).2.2.2)) (toNat x1) Z0).1, r1.2.1, (getD (List.set x2 (toNat x1) (r1.1, (getD x2 (toNat x1) Z0).2.1, (getD x2 (toNat x1) Z0).2.2.1, (getD x2 (toNat x1) Z0).2.2.2)) (toNat x1) Z0).2.2.1, (getD (List.set x2 (toNat x1) (r1.1, (getD x2 (toNat x1) Z0).2.1, (getD x2 (toNat x1) Z0).2.2.1, (getD x2 (toNat x1) Z0).2.2.2)) (toNat x1) Z0).2.2.2)) (toNat x1) Z0).2.1, r1.2.2.1, (getD (List.set (List.set x2 (toNat x1) (r1.1, (getD x2 (toNat x1) Z0).2.1, (getD x2 (toNat x1) Z0).2.2.1, (getD x2 (toNat x1) Z0).2.2.2)) (toNat x1) ((getD (List.set x2 (toNat x1) (r1.1, (getD x2 (toNat x1) Z0).2.1, (getD x2 (toNat x1) Z0).2.2.1, (getD x2 (toNat x1) Z0).2.2.2)) (toNat x1) Z0).1, r1.2.1, (getD (List.set x2 (toNat x1) (r1.1, (getD x2 (toNat x1) Z0).2.1, (getD x2 (toNat x1) Z0).2.2.1, (getD x2 (toNat x1) Z0).2.2.2)) (toNat x1) Z0).2.2.1, (getD (List.set x2 (toNat x1) (r1.1, (getD x2 (toNat x1) Z0).2.1, (getD x2 (toNat x1) Z0).2.2.1, (getD x2 (toNat x1) Z0).2.2.2)) (toNat x1) Z0).2.2.2)) (toNat x1) Z0).2.2.2)) (toNat x1) ((getD (List.set (List.set (List.set x2 (toNat x1) (r1.1, (getD x2 (toNat x1) Z0).2.1, (getD x2 (toNat x1) Z0).2.2.1, (getD x2 (toNat x1) Z0).2.2.2)) (toNat x1) ((getD (List.set x2 (toNat x1) (r1.1, (getD x2 (toNat x1) Z0).2.1, (getD x2 (toNat x1) Z0).2.2.1, (getD x2 (toNat x1) Z0).2.2.2)) (toNat x1) Z0).1, r1.2.1, (getD (List.set x2 (toNat x1) (r1.1, (getD x2 (toNat x1) Z0).2.1, (getD x2 (toNat x1) Z0).2.2.1, (getD x2 (toNat x1) Z0).2.2.2)) (toNat x1) Z0).2.2.1, (getD (List.set x2 (toNat x1) (r1.1, (getD x2 (toNat x1) Z0).2.1, (getD x2 (toNat x1) Z0).2.2.1, (getD x2 (toNat x1) Z0).2.2.2)) (toNat x1) Z0).2.2.2)) (toNat x1) ((getD (List.set (List.set x2 (toNat x1) (r1.1, (getD x2 (toNat x1) Z0).2.1, (getD x2 (toNat x1) Z0).2.2.1, (getD x2 (toNat x1) Z0).2.2.2)) (toNat x1) ((getD (List.set x2 (toNat x1) (r1.1, (getD x2 (toNat x1) Z0).2.1, (getD x2 (toNat x1) Z0).2.2.1, (getD x2 (toNat x1) Z0).2.2.2)) (toNat x1) Z0).1, r1.2.1, (getD (List.set x2 (toNat x1) (r1.1, (getD x2 (toNat x1) Z0).2.1, (getD x2 (toNat x1) Z0).2.2.1, (getD x2 (toNat x1) Z0).2.2.2)) (toNat x1) Z0).2.2.1, (getD (List.set x2 (toNat x1) (r1.1, (getD x2 (toNat x1) Z0).2.1, (getD x2 (toNat x1) Z0).2.2.1, (getD x2 (toNat x1) Z0).2.2.2)) (toNat x1) Z0).2.2.2)) (toNat x1) Z0).1, (getD (List.set (List.set x2 (toNat x1) (r1.1, (getD x2 (toNat x1) Z0).2.1, (getD x2 (toNat x1) Z0).2.2.1, (getD x2 (toNat x1) Z0).2.2.2)) (toNat x1) ((getD (List.set x2 (toNat x1) (r1.1, (getD x2 (toNat x1) Z0).2.1, (getD x2 (toNat x1) Z0).2.2.1, (getD x2 (toNat x1) Z0).2.2.2)) (toNat x1) Z0).1, r1.2.1, (getD (List.set x2 (toNat x1) (r1.1, (getD x2 (toNat x1) Z0).2.1, (getD x2 (toNat x1) Z0).2.2.1, (getD x2 (toNat x1) Z0).2.2.2)) (toNat x1) Z0).2.2.1, (getD (List.set x2 (toNat x1) (r1.1, (getD x2 (toNat x1) Z0).2.1, (getD x2 (toNat x1) Z0).2.2.1, (getD x2 (toNat x1) Z0).2.2.2)) (toNat x1) Z0).2.2.2)) (toNat x1) Z0).2.1, r1.2.2.1, (getD (List.set (List.set x2 (toNat x1) (r1.1, (getD x2 (toNat x1) Z0).2.1, (getD x2 (toNat x1) Z0).2.2.1, (getD x2 (toNat x1) Z0).2.2.2)) (toNat x1) ((getD (List.set x2 (toNat x1) (r1.1, (getD x2 (toNat x1) Z0).2.1, (getD x2 (toNat x1) Z0).2.2.1, (getD x2 (toNat x1) Z0).2.2.2)) (toNat x1) Z0).1, r1.2.1, (getD (List.set x2 (toNat x1) (r1.1, (getD x2 (toNat x1) Z0).2.1, (getD x2 (toNat x1) Z0).2.2.1, (getD x2 (toNat x1) Z0).2.2.2)) (toNat x1) Z0).2.2.1, (getD (List.set x2 (toNat x1) (r1.1, (getD x2 (toNat x1) Z0).2.1, (getD x2 (toNat x1) Z0).2.2.1, (getD x2 (toNat x1) Z0).2.2.2)) (toNat x1) Z0).2.2.2)) (toNat x1) Z0).2.2.2)) (toNat x1) Z0).1, (getD (List.set (List.set (List.set x2 (toNat x1) (r1.1, (getD x2 (toNat x1) Z0).2.1, (getD x2 (toNat x1) Z0).2.2.1, (getD x2 (toNat x1) Z0).2.2.2)) (toNat x1) ((getD (List.set x2 (toNat x1) (r1.1, (getD x2 (toNat x1) Z0).2.1, (getD x2 (toNat x1) Z0).2.2.1, (getD x2 (toNat x1) Z0).2.2.2)) (toNat x1) Z0).1, r1.2.1, (getD (List.set x2 (toNat x1) (r1.1, (getD x2 (toNat x1) Z0).2.1, (getD x2 (toNat x1) Z0).2.2.1, (getD x2 (toNat x1) Z0).2.2.2)) (toNat x1) Z0).2.2.1, (getD (List.set x2 (toNat x1) (r1.1, (getD x2 (toNat x1) Z0).2.1, (getD x2 (toNat x1) Z0).2.2.1, (getD x2 (toNat x1) Z0).2.2.2)) (toNat x1) Z0).2.2.2)) (toNat x1) ((getD (List.set (List.set x2 (toNat x1) (r1.1, (getD x2 (toNat x1) Z0).2.1, (getD x2 (toNat x1) Z0).2.2.1, (getD x2 (toNat x1) Z0).2.2.2)) (toNat x1) ((getD (List.set x2 (toNat x1) (r1.1, (getD x2 (toNat x1) Z0).2.1, (getD x2 (toNat x1) Z0).2.2.1, (getD x2 (toNat x1) Z0).2.2.2)) (toNat x1) Z0).1, r1.2.1, (getD (List.set x2 (toNat x1) (r1.1, (getD x2 (toNat x1) Z0).2.1, (getD x2 (toNat x1) Z0).2.2.1, (getD x2 (toNat x1) Z0).2.2.2)) (toNat x1) Z0).2.2.1, (getD (List.set x2 (toNat x1) (r1.1, (getD x2 (toNat x1) Z0).2.1, (getD x2 (toNat x1) Z0).2.2.1, (getD x2 (toNat x1) Z0).2.2.2)) (toNat x1) Z0).2.2.2)) (toNat x1) Z0).1, (getD (List.set (List.set x2 (toNat x1) (r1.1, (getD x2 (toNat x1) Z0).2.1, (getD x2 (toNat x1) Z0).2.2.1, (getD x2 (toNat x1) Z0).2.2.2)) (toNat x1) ((getD (List.set x2 (toNat x1) (r1.1, (getD x2 (toNat x1) Z0).2.1, (getD x2 (toNat x1) Z0).2.2.1, (getD x2 (toNat x1) Z0).2.2.2)) (toNat x1) Z0).1, r1.2.1, (getD (List.set x2 (toNat x1) (r1.1, (getD x2 (toNat x1) Z0).2.1, (getD x2 (toNat x1) Z0).2.2.1, (getD x2 (toNat x1) Z0).2.2.2)) (toNat x1) Z0).2.2.1, (getD (List.set x2 (toNat x1) (r1.1, (getD x2 (toNat x1) Z0).2.1, (getD x2 (toNat x1) Z0).2.2.1, (getD x2 (toNat x1) Z0).2.2.2)) (toNat x1) Z0).2.2.2)) (toNat x1) Z0).2.1, r1.2.2.1, (getD (List.set (List.set x2 (toNat x1) (r1.1, (getD x2 (toNat x1) Z0).2.1, (getD x2 (toNat x1) Z0).2.2.1, (getD x2 (toNat x1) Z0).2.2.2)) (toNat x1) ((getD (List.set x2 (toNat x1) (r1.1, (getD x2 (toNat x1) Z0).2.1, (getD x2 (toNat x1) Z0).2.2.1, (getD x2 (toNat x1) Z0).2.2.2)) (toNat x1) Z0).1, r1.2.1, (getD (List.set x2 (toNat x1) (r1.1, (getD x2 (toNat x1) Z0).2.1, (getD x2 (toNat x1) Z0).2.2.1, (getD x2 (toNat x1) Z0).2.2.2)) (toNat x1) Z0).2.2.1, (getD (List.set x2 (toNat x1) (r1.1, (getD x2 (toNat x1) Z0).2.1, (getD x2 (toNat x1) Z0).2.2.1, (getD x2 (toNat x1) Z0).2.2.2)) (toNat x1) Z0).2.2.2)) (toNat x1) Z0).2.2.2)) (toNat x1) Z0).2.1, (getD (List.set (List.set (List.set x2 (toNat x1) (r1.1, (getD x2 (toNat x1) Z0).2.1, (getD x2 (toNat x1) Z0).2.2.1, (getD x2 (toNat x1) Z0).2.2.2)) (toNat x1) ((getD (List.set x2 (toNat x1) (r1.1, (getD x2 (toNat x1) Z0).2.1, (getD x2 (toNat x1) Z0).2.2.1, (getD x2 (toNat x1) Z0).2.2.2)) (toNat x1) Z0).1, r1.2.1, (getD (List.set x2 (toNat x1) (r1.1, (getD x2 (toNat x1) Z0).2.1, (getD x2 (toNat x1) Z0).2.2.1, (getD x2 (toNat x1) Z0).2.2.2)) (toNat x1) Z0).2.2.1, (getD (List.set x2 (toNat x1) (r1.1, (getD x2 (toNat x1) Z0).2.1, (getD x2 (toNat x1) Z0).2.2.1, (getD x2 (toNat x1) Z0).2.2.2)) (toNat x1) Z0).2.2.2)) (toNat x1) ((getD (List.set (List.set x2 (toNat x1) (r1.1, (getD x2 (toNat x1) Z0).2.1, (getD x2 (toNat x1) Z0).2.2.1, (getD x2 (toNat x1) Z0).2.2.2)) (toNat x1) ((getD (List.set x2 (toNat x1) (r1.1, (getD x2 (toNat x1) Z0).2.1, (getD x2 (toNat x1) Z0).2.2.1, (getD x2 (toNat x1) Z0).2.2.2)) (toNat x1) Z0).1, r1.2.1, (getD (List.set x2 (toNat x1) (r1.1, (getD x2 (toNat x1) Z0).2.1, (getD x2 (toNat x1) Z0).2.2.1, (getD x2 (toNat x1) Z0).2.2.2)) (toNat x1) Z0).2.2.1, (getD (List.set x2 (toNat x1) (r1.1, (getD x2 (toNat x1) Z0).2.1, (getD x2 (toNat x1) Z0).2.2.1, (getD x2 (toNat x1) Z0).2.2.2)) (toNat x1) Z0).2.2.2)) (toNat x1) Z0).1, (getD (List.set (List.set x2 (toNat x1) (r1.1, (getD x2 (toNat x1) Z0).2.1, (getD x2 (toNat x1) Z0).2.2.1, (getD x2 (toNat x1) Z0).2.2.2)) (toNat x1) ((getD (List.set x2 (toNat x1) (r1.1, (getD x2 (toNat x1) Z0).2.1, (getD x2 (toNat x1) Z0).2.2.1, (getD x2 (toNat x1) Z0).2.2.2)) (toNat x1) Z0).1, r1.2.1, (getD (List.set x2 (toNat x1) (r1.1, (getD x2 (toNat x1) Z0).2.1, (getD x2 (toNat x1) Z0).2.2.1, (getD x2 (toNat x1) Z0).2.2.2)) (toNat x1) Z0).2.2.1, (getD (List.set x2 (toNat x1) (r1.1, (getD x2 (toNat x1) Z0).2.1, (getD x2 (toNat x1) Z0).2.2.1, (getD x2 (toNat x1) Z0).2.2.2)) (toNat x1) Z0).2.2.2)) (toNat x1) Z0).2.1, r1.2.2.1, (getD (List.set (List.set x2 (toNat x1) (r1.1, (getD x2 (toNat x1) Z0).2.1, (getD x2 (toNat x1) Z0).2.2.1, (getD x2 (toNat x1) Z0).2.2.2)) (toNat x1) ((getD (List.set x2 (toNat x1) (r1.1, (getD x2 (toNat x1) Z0).2.1, (getD x2 (toNat x1) Z0).2.2.1, (getD x2 (toNat x1) Z0).2.2.2)) (toNat x1) Z0).1, r1.2.1, (getD (List.set x2 (toNat x1) (r1.1, (getD x2 (toNat x1) Z0).2.1, (getD x2 (toNat x1) Z0).2.2.1, (getD x2 (toNat x1) Z0).2.2.2)) (toNat x1) Z0).2.2.1, (getD (List.set x2 (toNat x1) (r1.1, (getD x2 (toNat x1) Z0).2.1, (getD x2 (toNat x1) Z0).2.2.1, (getD x2 (toNat x1) Z0).2.2.2)) (toNat x1) Z0).2.2.2)) (toNat x1) Z0).2.2.2)) (toNat x1) Z0).2.2.1, r1.2.2.2)) else none else none else some x2
noncomputable def ll0 : Y26 → LS
 | (x0, x1, x2) => ⟨[.cv ⟨.row K4, x0⟩, .ref 12 0 [] none 0, .cv ⟨.int .i64, x1⟩], [⟨true, [⟨0, 0, .mk 9 ⟨.row K4, x2⟩⟩]⟩]⟩
noncomputable def m (B0 : Y26 → Option Y19) : Y19 → Option Y19
 | a0_0 => bif decide (0 ≤ (List.length a0_0 : Int)) && decide ((List.length a0_0 : Int) ≤ (List.length a0_0 : Int)) && decide ((List.length a0_0 : Int) * 88 ≤ 140737488355328) then B0 (a0_0, (0 : Int), List.replicate (toNat (List.length a0_0 : Int)) Z0) else none
noncomputable def sig : Sig := ⟨[.val false [⟨.row K4, 0, 0, false⟩]], [(.one, [(.row K4, 3)])]⟩
noncomputable def hint : Nat → Hint
 | 0 => ⟨[(0, .keep), (3, .own 9 K4), (4, .keep)], []⟩
 | _ => ⟨[], []⟩
noncomputable def join (_ : Nat) : Option Hint := none
noncomputable def body : Code := (Tryd.f6).body.getD .skip
noncomputable def rv : List ResultVar := (Tryd.f6).results.toList
noncomputable def fn : Fn := ⟨23, sig, rv, body, hint, join⟩
end laws_toDefS
namespace impl_in
noncomputable def m  : (Int × Int × Int) → Option Bool
 | (a0_0, a1_0, a2_0) => bif decide (a0_0 ≥ a1_0) then some (decide (a0_0 ≤ a2_0)) else some false
noncomputable def sig : Sig := ⟨[.val false [⟨.int .i64, 0, 0, false⟩], .val false [⟨.int .i64, 0, 0, false⟩], .val false [⟨.int .i64, 0, 0, false⟩]], [(.one, [(.bool, 0)])]⟩
noncomputable def hint (_ : Nat) : Hint := ⟨[], []⟩
noncomputable def join (_ : Nat) : Option Hint := none
noncomputable def body : Code := (Tryd.f31).body.getD .skip
noncomputable def rv : List ResultVar := (Tryd.f31).results.toList
noncomputable def fn : Fn := ⟨15, sig, rv, body, hint, join⟩
end impl_in
namespace impl_isLetter
noncomputable def m  : Int → Option Bool
 | a0_0 => bif decide (a0_0 ≥ 97) then some (decide (a0_0 ≤ 122)) else some false
noncomputable def sig : Sig := ⟨[.val false [⟨.int .u8, 0, 0, false⟩]], [(.one, [(.bool, 0)])]⟩
noncomputable def hint (_ : Nat) : Hint := ⟨[], []⟩
noncomputable def join (_ : Nat) : Option Hint := none
noncomputable def body : Code := (Tryd.f63).body.getD .skip
noncomputable def rv : List ResultVar := (Tryd.f63).results.toList
noncomputable def fn : Fn := ⟨9, sig, rv, body, hint, join⟩
end impl_isLetter
namespace impl_isDigit
noncomputable def m  : Int → Option Bool
 | a0_0 => bif decide (a0_0 ≥ 48) then some (decide (a0_0 ≤ 57)) else some false
noncomputable def sig : Sig := ⟨[.val false [⟨.int .u8, 0, 0, false⟩]], [(.one, [(.bool, 0)])]⟩
noncomputable def hint (_ : Nat) : Hint := ⟨[], []⟩
noncomputable def join (_ : Nat) : Option Hint := none
noncomputable def body : Code := (Tryd.f64).body.getD .skip
noncomputable def rv : List ResultVar := (Tryd.f64).results.toList
noncomputable def fn : Fn := ⟨9, sig, rv, body, hint, join⟩
end impl_isDigit
namespace impl_nameOk
noncomputable def s0 (c31 : (Int × Int × Int) → Option Bool) (c63 c64 : Int → Option Bool) (L0 : (ByteArray × Int) → Option Bool) : (ByteArray × Int) → Option Bool
 | (x0, x1) => bif decide (x1 < (ByteArray.size x0 : Int)) then bif decide (0 ≤ x1) && decide (x1 < (ByteArray.size x0 : Int)) then Option.bind (c63 ((ByteArray.get! x0 (toNat x1)).toNat : Int)) fun r1 => bif !(r1) then bif x1 == 0 then some false else bif decide (0 ≤ x1) && decide (x1 < (ByteArray.size x0 : Int)) then Option.bind (c64 ((ByteArray.get! x0 (toNat x1)).toNat : Int)) fun r2 => bif !(r2) then some false else L0 (x0, wrap i64 (x1 + 1)) else none else L0 (x0, wrap i64 (x1 + 1)) else none else Option.bind (c31 ((ByteArray.size x0 : Int), (1 : Int), (8 : Int))) fun r3 => some r3
noncomputable def ll0 : (ByteArray × Int) → LS
 | (x0, x1) => ⟨[.cv ⟨.str, x0⟩, .cv ⟨.int .i64, x1⟩], []⟩
noncomputable def m (B0 : (ByteArray × Int) → Option Bool) : ByteArray → Option Bool
 | a0_0 => B0 (a0_0, (0 : Int))
noncomputable def sig : Sig := ⟨[.val false [⟨.str, 0, 0, false⟩]], [(.one, [(.bool, 0)])]⟩
noncomputable def hint : Nat → Hint
 | 0 => ⟨[(0, .keep), (3, .keep)], []⟩
 | _ => ⟨[], []⟩
noncomputable def join (_ : Nat) : Option Hint := none
noncomputable def body : Code := (Tryd.f59).body.getD .skip
noncomputable def rv : List ResultVar := (Tryd.f59).results.toList
noncomputable def fn : Fn := ⟨29, sig, rv, body, hint, join⟩
end impl_nameOk
namespace impl_isFree
noncomputable def s0 (c59 : ByteArray → Option Bool) (L0 : Y27 → Option Bool) : Y27 → Option Bool
 | (x0, x1, x2, x3) => bif decide (x2 < x1) then bif decide (0 ≤ x2) && decide (x2 < (List.length x3 : Int)) then bif ByteArray.toList (getD x3 (toNat x2) ByteArray.empty) == ByteArray.toList x0 then some false else L0 (x0, x1, wrap i64 (x2 + 1), x3) else none else Option.bind (c59 x0) fun r2 => some r2
noncomputable def ll0 : Y27 → LS
 | (x0, x1, x2, x3) => ⟨[.cv ⟨.str, x0⟩, .ref 20 0 [] none 0, .cv ⟨.int .i64, x1⟩, .cv ⟨.int .i64, x2⟩], [⟨true, [⟨0, 0, .mk 1 ⟨.row K0, x3⟩⟩]⟩]⟩
noncomputable def m (c58 : (ByteArray × ByteArray) → Option ((List ByteArray))) (B0 : Y27 → Option Bool) : ByteArray → Option Bool
 | a0_0 => Option.bind (c58 (({ data := #[116, 97, 98, 108, 101, 32, 112, 114, 105, 109, 97, 114, 121, 32, 117, 110, 105, 113, 117, 101, 32, 105, 110, 100, 101, 120, 32, 110, 117, 108, 108, 32, 100, 101, 115, 99, 32, 105, 110, 116, 32, 110, 117, 109, 32, 116, 101, 120, 116, 32, 98, 111, 111, 108] } : ByteArray), ({ data := #[32] } : ByteArray))) fun r1 => B0 (a0_0, (List.length r1 : Int), (0 : Int), r1)
noncomputable def sig : Sig := ⟨[.val false [⟨.str, 0, 0, false⟩]], [(.one, [(.bool, 0)])]⟩
noncomputable def hint : Nat → Hint
 | 0 => ⟨[(0, .keep), (5, .own 1 K0), (6, .keep), (7, .keep)], []⟩
 | _ => ⟨[], []⟩
noncomputable def join (_ : Nat) : Option Hint := none
noncomputable def body : Code := (Tryd.f55).body.getD .skip
noncomputable def rv : List ResultVar := (Tryd.f55).results.toList
noncomputable def fn : Fn := ⟨17, sig, rv, body, hint, join⟩
end impl_isFree
namespace impl_namesOk
noncomputable def s0 (c55 : ByteArray → Option Bool) (B2 : Y28 → Option Bool) (L0 : Y29 → Option Bool) : Y29 → Option Bool
 | (x0, x1, x2, x3, x4, x5, x6) => bif decide (x2 < x1) then bif decide (0 ≤ x2) && decide (x2 < (List.length x0 : Int)) then Option.bind (c55 ((getD x0 (toNat x2) Z2).1)) fun r1 => bif !(r1) then some false else L0 (x0, x1, wrap i64 (x2 + 1), x3, x4, x5, x6) else none else B2 (x6, (List.length x6 : Int), (0 : Int), x3, x4, x5, x6)
noncomputable def ll0 : Y29 → LS
 | (x0, x1, x2, x3, x4, x5, x6) => ⟨[.addr 65 0 [] 0, .cv ⟨.row K1, x0⟩, .cv ⟨.int .i64, x1⟩, .cv ⟨.int .i64, x2⟩], [⟨false, [⟨0, 0, .mk 0 ⟨.str, x3⟩⟩, ⟨0, 0, .mk 0 ⟨.row K1, x4⟩⟩, ⟨0, 0, .mk 0 ⟨.row K2, x5⟩⟩, ⟨0, 0, .mk 0 ⟨.row K3, x6⟩⟩]⟩]⟩
noncomputable def s2 (c55 : ByteArray → Option Bool) (L2 : Y28 → Option Bool) : Y28 → Option Bool
 | (x0, x1, x2, x3, x4, x5, x6) => bif decide (x2 < x1) then bif decide (0 ≤ x2) && decide (x2 < (List.length x0 : Int)) then Option.bind (c55 ((getD x0 (toNat x2) Z1).1)) fun r2 => bif !(r2) then some false else L2 (x0, x1, wrap i64 (x2 + 1), x3, x4, x5, x6) else none else Option.bind (c55 x3) fun r3 => some r3
noncomputable def ll2 : Y28 → LS
 | (x0, x1, x2, x3, x4, x5, x6) => ⟨[.addr 65 0 [] 0, .cv ⟨.row K3, x0⟩, .cv ⟨.int .i64, x1⟩, .cv ⟨.int .i64, x2⟩], [⟨false, [⟨0, 0, .mk 0 ⟨.str, x3⟩⟩, ⟨0, 0, .mk 0 ⟨.row K1, x4⟩⟩, ⟨0, 0, .mk 0 ⟨.row K2, x5⟩⟩, ⟨0, 0, .mk 0 ⟨.row K3, x6⟩⟩]⟩]⟩
noncomputable def m (B0 : Y29 → Option Bool) : Y1 → Option Bool
 | (a0_0, a0_1, a0_2, a0_3) => B0 (a0_1, (List.length a0_1 : Int), (0 : Int), a0_0, a0_1, a0_2, a0_3)
noncomputable def sig : Sig := ⟨[.val true [⟨.str, 0, 0, false⟩, ⟨.row K1, 0, 0, false⟩, ⟨.row K2, 0, 0, false⟩, ⟨.row K3, 0, 0, false⟩]], [(.one, [(.bool, 0)])]⟩
noncomputable def hint : Nat → Hint
 | 0 => ⟨[(1, .keep), (8, .keep), (9, .keep), (10, .keep)], [(65, [0, 0, 0, 0])]⟩
 | 2 => ⟨[(1, .keep), (20, .keep), (21, .keep), (22, .keep)], [(65, [0, 0, 0, 0])]⟩
 | _ => ⟨[], []⟩
noncomputable def join (_ : Nat) : Option Hint := none
noncomputable def body : Code := (Tryd.f49).body.getD .skip
noncomputable def rv : List ResultVar := (Tryd.f49).results.toList
noncomputable def fn : Fn := ⟨34, sig, rv, body, hint, join⟩
end impl_namesOk
namespace impl_twice
noncomputable def s0 (B2 : Y30 → Option Bool) (B4 : Y28 → Option Bool) (L0 : Y29 → Option Bool) : Y29 → Option Bool
 | (x0, x1, x2, x3, x4, x5, x6) => bif decide (x2 < x1) then bif decide (0 ≤ x2) && decide (x2 < (List.length x0 : Int)) then bif decide (0 ≤ 0) && decide ((0 : Int) ≤ x2) && decide (x2 ≤ (List.length x4 : Int)) then B2 (x0, x1, x2, List.drop (toNat (0 : Int)) (List.take (toNat x2) x4), (List.length (List.drop (toNat (0 : Int)) (List.take (toNat x2) x4)) : Int), (0 : Int), x3, x4, x5, x6, (getD x0 (toNat x2) Z2).1, (getD x0 (toNat x2) Z2).2.1, (getD x0 (toNat x2) Z2).2.2) else none else none else B4 (x6, (List.length x6 : Int), (0 : Int), x3, x4, x5, x6)
noncomputable def ll0 : Y29 → LS
 | (x0, x1, x2, x3, x4, x5, x6) => ⟨[.addr 65 0 [] 0, .cv ⟨.row K1, x0⟩, .cv ⟨.int .i64, x1⟩, .cv ⟨.int .i64, x2⟩], [⟨false, [⟨0, 0, .mk 0 ⟨.str, x3⟩⟩, ⟨0, 0, .mk 0 ⟨.row K1, x4⟩⟩, ⟨0, 0, .mk 0 ⟨.row K2, x5⟩⟩, ⟨0, 0, .mk 0 ⟨.row K3, x6⟩⟩]⟩]⟩
noncomputable def s2 (L0 : Y29 → Option Bool) (L2 : Y30 → Option Bool) : Y30 → Option Bool
 | (x0, x1, x2, x3, x4, x5, x6, x7, x8, x9, x10, x11, x12) => bif decide (x5 < x4) then bif decide (0 ≤ x5) && decide (x5 < (List.length x3 : Int)) then bif ByteArray.toList ((getD x3 (toNat x5) Z2).1) == ByteArray.toList x10 then some true else L2 (x0, x1, x2, x3, x4, wrap i64 (x5 + 1), x6, x7, x8, x9, x10, x11, x12) else none else L0 (x0, x1, wrap i64 (x2 + 1), x6, x7, x8, x9)
noncomputable def ll2 : Y30 → LS
 | (x0, x1, x2, x3, x4, x5, x6, x7, x8, x9, x10, x11, x12) => ⟨[.addr 65 0 [] 0, .addr 257 0 [] 0, .cv ⟨.row K1, x0⟩, .cv ⟨.int .i64, x1⟩, .cv ⟨.int .i64, x2⟩, .cv ⟨.row K1, x3⟩, .cv ⟨.int .i64, x4⟩, .cv ⟨.int .i64, x5⟩], [⟨false, [⟨0, 0, .mk 0 ⟨.str, x6⟩⟩, ⟨0, 0, .mk 0 ⟨.row K1, x7⟩⟩, ⟨0, 0, .mk 0 ⟨.row K2, x8⟩⟩, ⟨0, 0, .mk 0 ⟨.row K3, x9⟩⟩]⟩, ⟨false, [⟨0, 0, .mk 0 ⟨.str, x10⟩⟩, ⟨0, 0, .mk 0 ⟨.int .i64, x11⟩⟩, ⟨0, 0, .mk 0 ⟨.bool, x12⟩⟩]⟩]⟩
noncomputable def s4 (B6 : Y31 → Option Bool) (L4 : Y28 → Option Bool) : Y28 → Option Bool
 | (x0, x1, x2, x3, x4, x5, x6) => bif decide (x2 < x1) then bif decide (0 ≤ x2) && decide (x2 < (List.length x0 : Int)) then bif decide (0 ≤ 0) && decide ((0 : Int) ≤ x2) && decide (x2 ≤ (List.length x6 : Int)) then B6 (x0, x1, x2, List.drop (toNat (0 : Int)) (List.take (toNat x2) x6), (List.length (List.drop (toNat (0 : Int)) (List.take (toNat x2) x6)) : Int), (0 : Int), x3, x4, x5, x6, (getD x0 (toNat x2) Z1).1, (getD x0 (toNat x2) Z1).2.1, (getD x0 (toNat x2) Z1).2.2) else none else none else some false
noncomputable def ll4 : Y28 → LS
 | (x0, x1, x2, x3, x4, x5, x6) => ⟨[.addr 65 0 [] 0, .cv ⟨.row K3, x0⟩, .cv ⟨.int .i64, x1⟩, .cv ⟨.int .i64, x2⟩], [⟨false, [⟨0, 0, .mk 0 ⟨.str, x3⟩⟩, ⟨0, 0, .mk 0 ⟨.row K1, x4⟩⟩, ⟨0, 0, .mk 0 ⟨.row K2, x5⟩⟩, ⟨0, 0, .mk 0 ⟨.row K3, x6⟩⟩]⟩]⟩
noncomputable def s6 (L4 : Y28 → Option Bool) (L6 : Y31 → Option Bool) : Y31 → Option Bool
 | (x0, x1, x2, x3, x4, x5, x6, x7, x8, x9, x10, x11, x12) => bif decide (x5 < x4) then bif decide (0 ≤ x5) && decide (x5 < (List.length x3 : Int)) then bif ByteArray.toList ((getD x3 (toNat x5) Z1).1) == ByteArray.toList x10 then some true else L6 (x0, x1, x2, x3, x4, wrap i64 (x5 + 1), x6, x7, x8, x9, x10, x11, x12) else none else L4 (x0, x1, wrap i64 (x2 + 1), x6, x7, x8, x9)
noncomputable def ll6 : Y31 → LS
 | (x0, x1, x2, x3, x4, x5, x6, x7, x8, x9, x10, x11, x12) => ⟨[.addr 65 0 [] 0, .addr 513 0 [] 0, .cv ⟨.row K3, x0⟩, .cv ⟨.int .i64, x1⟩, .cv ⟨.int .i64, x2⟩, .cv ⟨.row K3, x3⟩, .cv ⟨.int .i64, x4⟩, .cv ⟨.int .i64, x5⟩], [⟨false, [⟨0, 0, .mk 0 ⟨.str, x6⟩⟩, ⟨0, 0, .mk 0 ⟨.row K1, x7⟩⟩, ⟨0, 0, .mk 0 ⟨.row K2, x8⟩⟩, ⟨0, 0, .mk 0 ⟨.row K3, x9⟩⟩]⟩, ⟨false, [⟨0, 0, .mk 0 ⟨.str, x10⟩⟩, ⟨0, 0, .mk 0 ⟨.bool, x11⟩⟩, ⟨0, 0, .mk 0 ⟨.row K2, x12⟩⟩]⟩]⟩
noncomputable def m (B0 : Y29 → Option Bool) : Y1 → Option Bool
 | (a0_0, a0_1, a0_2, a0_3) => B0 (a0_1, (List.length a0_1 : Int), (0 : Int), a0_0, a0_1, a0_2, a0_3)
noncomputable def sig : Sig := ⟨[.val true [⟨.str, 0, 0, false⟩, ⟨.row K1, 0, 0, false⟩, ⟨.row K2, 0, 0, false⟩, ⟨.row K3, 0, 0, false⟩]], [(.one, [(.bool, 0)])]⟩
noncomputable def hint : Nat → Hint
 | 0 => ⟨[(1, .keep), (12, .keep), (13, .keep), (14, .keep)], [(65, [0, 0, 0, 0])]⟩
 | 2 => ⟨[(1, .keep), (4, .keep), (12, .keep), (13, .keep), (14, .keep), (22, .keep), (23, .keep), (24, .keep)], [(65, [0, 0, 0, 0]), (257, [0, 0, 0])]⟩
 | 4 => ⟨[(1, .keep), (36, .keep), (37, .keep), (38, .keep)], [(65, [0, 0, 0, 0])]⟩
 | 6 => ⟨[(1, .keep), (8, .keep), (36, .keep), (37, .keep), (38, .keep), (46, .keep), (47, .keep), (48, .keep)], [(65, [0, 0, 0, 0]), (513, [0, 0, 0])]⟩
 | _ => ⟨[], []⟩
noncomputable def join (_ : Nat) : Option Hint := none
noncomputable def body : Code := (Tryd.f50).body.getD .skip
noncomputable def rv : List ResultVar := (Tryd.f50).results.toList
noncomputable def fn : Fn := ⟨59, sig, rv, body, hint, join⟩
end impl_twice
namespace impl_partsOk
noncomputable def s0 (c31 : (Int × Int × Int) → Option Bool) (B2 : Y32 → Option Bool) (L0 : Y33 → Option Bool) : Y33 → Option Bool
 | (x0, x1, x2, x3, x4, x5, x6, x7) => bif decide (x3 < x2) then bif decide (0 ≤ x3) && decide (x3 < (List.length x1 : Int)) then Option.bind (c31 ((getD x1 (toNat x3) Z3).1, (0 : Int), wrap i64 ((List.length x5 : Int) - 1))) fun r1 => bif !(r1) then some false else bif decide (0 ≤ 0) && decide ((0 : Int) ≤ x3) && decide (x3 ≤ (List.length x0 : Int)) then B2 (x0, x1, x2, x3, List.drop (toNat (0 : Int)) (List.take (toNat x3) x0), (List.length (List.drop (toNat (0 : Int)) (List.take (toNat x3) x0)) : Int), (0 : Int), x4, x5, x6, x7, (getD x1 (toNat x3) Z3).1, (getD x1 (toNat x3) Z3).2) else none else none else Option.bind (c31 ((List.length x0 : Int), (1 : Int), (2 : Int))) fun r2 => some r2
noncomputable def ll0 : Y33 → LS
 | (x0, x1, x2, x3, x4, x5, x6, x7) => ⟨[.cv ⟨.row K2, x0⟩, .addr 129 0 [] 0, .cv ⟨.row K2, x1⟩, .cv ⟨.int .i64, x2⟩, .cv ⟨.int .i64, x3⟩], [⟨false, [⟨0, 0, .mk 0 ⟨.str, x4⟩⟩, ⟨0, 0, .mk 0 ⟨.row K1, x5⟩⟩, ⟨0, 0, .mk 0 ⟨.row K2, x6⟩⟩, ⟨0, 0, .mk 0 ⟨.row K3, x7⟩⟩]⟩]⟩
noncomputable def s2 (L0 : Y33 → Option Bool) (L2 : Y32 → Option Bool) : Y32 → Option Bool
 | (x0, x1, x2, x3, x4, x5, x6, x7, x8, x9, x10, x11, x12) => bif decide (x6 < x5) then bif decide (0 ≤ x6) && decide (x6 < (List.length x4 : Int)) then bif ((getD x4 (toNat x6) Z3).1) == x11 then some false else L2 (x0, x1, x2, x3, x4, x5, wrap i64 (x6 + 1), x7, x8, x9, x10, x11, x12) else none else L0 (x0, x1, x2, wrap i64 (x3 + 1), x7, x8, x9, x10)
noncomputable def ll2 : Y32 → LS
 | (x0, x1, x2, x3, x4, x5, x6, x7, x8, x9, x10, x11, x12) => ⟨[.cv ⟨.row K2, x0⟩, .addr 129 0 [] 0, .addr 385 0 [] 0, .cv ⟨.row K2, x1⟩, .cv ⟨.int .i64, x2⟩, .cv ⟨.int .i64, x3⟩, .cv ⟨.row K2, x4⟩, .cv ⟨.int .i64, x5⟩, .cv ⟨.int .i64, x6⟩], [⟨false, [⟨0, 0, .mk 0 ⟨.str, x7⟩⟩, ⟨0, 0, .mk 0 ⟨.row K1, x8⟩⟩, ⟨0, 0, .mk 0 ⟨.row K2, x9⟩⟩, ⟨0, 0, .mk 0 ⟨.row K3, x10⟩⟩]⟩, ⟨false, [⟨0, 0, .mk 0 ⟨.int .i64, x11⟩⟩, ⟨0, 0, .mk 0 ⟨.bool, x12⟩⟩]⟩]⟩
noncomputable def m (B0 : Y33 → Option Bool) : Y17 → Option Bool
 | (a0_0, a0_1, a0_2, a0_3, a1_0) => B0 (a1_0, a1_0, (List.length a1_0 : Int), (0 : Int), a0_0, a0_1, a0_2, a0_3)
noncomputable def sig : Sig := ⟨[.val true [⟨.str, 0, 0, false⟩, ⟨.row K1, 0, 0, false⟩, ⟨.row K2, 0, 0, false⟩, ⟨.row K3, 0, 0, false⟩], .val false [⟨.row K2, 0, 0, false⟩]], [(.one, [(.bool, 0)])]⟩
noncomputable def hint : Nat → Hint
 | 0 => ⟨[(1, .keep), (2, .keep), (9, .keep), (10, .keep), (11, .keep)], [(129, [0, 0, 0, 0])]⟩
 | 2 => ⟨[(1, .keep), (2, .keep), (6, .keep), (9, .keep), (10, .keep), (11, .keep), (26, .keep), (27, .keep), (28, .keep)], [(129, [0, 0, 0, 0]), (385, [0, 0])]⟩
 | _ => ⟨[], []⟩
noncomputable def join (_ : Nat) : Option Hint := none
noncomputable def body : Code := (Tryd.f51).body.getD .skip
noncomputable def rv : List ResultVar := (Tryd.f51).results.toList
noncomputable def fn : Fn := ⟨42, sig, rv, body, hint, join⟩
end impl_partsOk
namespace impl_CheckDef
noncomputable def s0 (c31 : (Int × Int × Int) → Option Bool) (c50 : Y1 → Option Bool) (B2 : Y28 → Option Int) (L0 : Y29 → Option Int) : Y29 → Option Int
 | (x0, x1, x2, x3, x4, x5, x6) => bif decide (x2 < x1) then bif decide (0 ≤ x2) && decide (x2 < (List.length x0 : Int)) then Option.bind (c31 ((getD x0 (toNat x2) Z2).2.1, (1 : Int), (4 : Int))) fun r3 => bif !(r3) then some (2 : Int) else L0 (x0, x1, wrap i64 (x2 + 1), x3, x4, x5, x6) else none else Option.bind (c50 (x3, x4, x5, x6)) fun r4 => bif r4 then some (3 : Int) else bif decide ((List.length x6 : Int) > 2) then some (6 : Int) else B2 (x6, (List.length x6 : Int), (0 : Int), x3, x4, x5, x6)
noncomputable def ll0 : Y29 → LS
 | (x0, x1, x2, x3, x4, x5, x6) => ⟨[.addr 65 0 [] 0, .cv ⟨.row K1, x0⟩, .cv ⟨.int .i64, x1⟩, .cv ⟨.int .i64, x2⟩], [⟨false, [⟨0, 0, .mk 0 ⟨.str, x3⟩⟩, ⟨0, 0, .mk 0 ⟨.row K1, x4⟩⟩, ⟨0, 0, .mk 0 ⟨.row K2, x5⟩⟩, ⟨0, 0, .mk 0 ⟨.row K3, x6⟩⟩]⟩]⟩
noncomputable def s2 (c51 : Y17 → Option Bool) (B4 : Y34 → Option Int) (L2 : Y28 → Option Int) : Y28 → Option Int
 | (x0, x1, x2, x3, x4, x5, x6) => bif decide (x2 < x1) then bif decide (0 ≤ x2) && decide (x2 < (List.length x0 : Int)) then Option.bind (c51 (x3, x4, x5, x6, (getD x0 (toNat x2) Z1).2.2)) fun r5 => bif !(r5) then some (5 : Int) else L2 (x0, x1, wrap i64 (x2 + 1), x3, x4, x5, x6) else none else Option.bind (c51 (x3, x4, x5, x6, x5)) fun r6 => bif !(r6) then some (5 : Int) else B4 (x5, (List.length x5 : Int), (0 : Int), x3, x4, x5, x6)
noncomputable def ll2 : Y28 → LS
 | (x0, x1, x2, x3, x4, x5, x6) => ⟨[.addr 65 0 [] 0, .cv ⟨.row K3, x0⟩, .cv ⟨.int .i64, x1⟩, .cv ⟨.int .i64, x2⟩], [⟨false, [⟨0, 0, .mk 0 ⟨.str, x3⟩⟩, ⟨0, 0, .mk 0 ⟨.row K1, x4⟩⟩, ⟨0, 0, .mk 0 ⟨.row K2, x5⟩⟩, ⟨0, 0, .mk 0 ⟨.row K3, x6⟩⟩]⟩]⟩
noncomputable def s4 (L4 : Y34 → Option Int) : Y34 → Option Int
 | (x0, x1, x2, x3, x4, x5, x6) => bif decide (x2 < x1) then bif decide (0 ≤ x2) && decide (x2 < (List.length x0 : Int)) then bif decide (0 ≤ ((getD x0 (toNat x2) Z3).1)) && decide (((getD x0 (toNat x2) Z3).1) < (List.length x4 : Int)) then bif (getD x4 (toNat ((getD x0 (toNat x2) Z3).1)) Z2).2.2 then some (4 : Int) else L4 (x0, x1, wrap i64 (x2 + 1), x3, x4, x5, x6) else none else none else some (0 : Int)
noncomputable def ll4 : Y34 → LS
 | (x0, x1, x2, x3, x4, x5, x6) => ⟨[.addr 65 0 [] 0, .cv ⟨.row K2, x0⟩, .cv ⟨.int .i64, x1⟩, .cv ⟨.int .i64, x2⟩], [⟨false, [⟨0, 0, .mk 0 ⟨.str, x3⟩⟩, ⟨0, 0, .mk 0 ⟨.row K1, x4⟩⟩, ⟨0, 0, .mk 0 ⟨.row K2, x5⟩⟩, ⟨0, 0, .mk 0 ⟨.row K3, x6⟩⟩]⟩]⟩
noncomputable def m (c31 : (Int × Int × Int) → Option Bool) (c49 : Y1 → Option Bool) (B0 : Y29 → Option Int) : Y1 → Option Int
 | (a0_0, a0_1, a0_2, a0_3) => Option.bind (c49 (a0_0, a0_1, a0_2, a0_3)) fun r1 => bif !(r1) then some (1 : Int) else Option.bind (c31 ((List.length a0_1 : Int), (1 : Int), (6 : Int))) fun r2 => bif !(r2) then some (2 : Int) else B0 (a0_1, (List.length a0_1 : Int), (0 : Int), a0_0, a0_1, a0_2, a0_3)
noncomputable def sig : Sig := ⟨[.val true [⟨.str, 0, 0, false⟩, ⟨.row K1, 0, 0, false⟩, ⟨.row K2, 0, 0, false⟩, ⟨.row K3, 0, 0, false⟩]], [(.one, [(.int .i64, 0)])]⟩
noncomputable def hint : Nat → Hint
 | 0 => ⟨[(1, .keep), (18, .keep), (19, .keep), (20, .keep)], [(65, [0, 0, 0, 0])]⟩
 | 2 => ⟨[(1, .keep), (36, .keep), (37, .keep), (38, .keep)], [(65, [0, 0, 0, 0])]⟩
 | 4 => ⟨[(1, .keep), (54, .keep), (55, .keep), (56, .keep)], [(65, [0, 0, 0, 0])]⟩
 | _ => ⟨[], []⟩
noncomputable def join (_ : Nat) : Option Hint := none
noncomputable def body : Code := (Tryd.f41).body.getD .skip
noncomputable def rv : List ResultVar := (Tryd.f41).results.toList
noncomputable def fn : Fn := ⟨68, sig, rv, body, hint, join⟩
end impl_CheckDef
namespace impl_FirstBad
noncomputable def s0 (c41 : Y1 → Option Int) (B2 : Y35 → Option Int) (L0 : Y36 → Option Int) : Y36 → Option Int
 | (x0, x1, x2, x3) => bif decide (x3 < x2) then bif decide (0 ≤ x3) && decide (x3 < (List.length x1 : Int)) then bif decide (x3 ≥ 3) then some x3 else Option.bind (c41 ((getD x1 (toNat x3) Z0).1, (getD x1 (toNat x3) Z0).2.1, (getD x1 (toNat x3) Z0).2.2.1, (getD x1 (toNat x3) Z0).2.2.2)) fun r1 => bif r1 != 0 then some x3 else bif decide (0 ≤ 0) && decide ((0 : Int) ≤ x3) && decide (x3 ≤ (List.length x0 : Int)) then B2 (x0, x3, x1, x2, x3, (getD x1 (toNat x3) Z0).1, (getD x1 (toNat x3) Z0).2.1, (getD x1 (toNat x3) Z0).2.2.1, (getD x1 (toNat x3) Z0).2.2.2, r1, r1 != 0, List.drop (toNat (0 : Int)) (List.take (toNat x3) x0), (List.length (List.drop (toNat (0 : Int)) (List.take (toNat x3) x0)) : Int), (0 : Int), (getD x1 (toNat x3) Z0).1, (getD x1 (toNat x3) Z0).2.1, (getD x1 (toNat x3) Z0).2.2.1, (getD x1 (toNat x3) Z0).2.2.2) else none else none else some (-1 : Int)
noncomputable def ll0 : Y36 → LS
 | (x0, x1, x2, x3) => ⟨[.cv ⟨.row K4, x0⟩, .cv ⟨.row K4, x1⟩, .cv ⟨.int .i64, x2⟩, .cv ⟨.int .i64, x3⟩], []⟩
noncomputable def s2 (L0 : Y36 → Option Int) (L2 : Y35 → Option Int) : Y35 → Option Int
 | (x0, x1, x2, x3, x4, x5, x6, x7, x8, x9, x10, x11, x12, x13, x14, x15, x16, x17) => bif decide (x13 < x12) then bif decide (0 ≤ x13) && decide (x13 < (List.length x11 : Int)) then bif ByteArray.toList ((getD x11 (toNat x13) Z0).1) == ByteArray.toList x14 then some x1 else L2 (x0, x1, x2, x3, x4, x5, x6, x7, x8, x9, x10, x11, x12, wrap i64 (x13 + 1), x14, x15, x16, x17) else none else L0 (x0, x2, x3, wrap i64 (x4 + 1))
noncomputable def ll2 : Y35 → LS
 | (x0, x1, x2, x3, x4, x5, x6, x7, x8, x9, x10, x11, x12, x13, x14, x15, x16, x17) => ⟨[.cv ⟨.row K4, x0⟩, .cv ⟨.int .i64, x1⟩, .addr 257 0 [] 0, .cv ⟨.row K4, x2⟩, .cv ⟨.int .i64, x3⟩, .cv ⟨.int .i64, x4⟩, .agg [.cv ⟨.str, x5⟩, .cv ⟨.row K1, x6⟩, .cv ⟨.row K2, x7⟩, .cv ⟨.row K3, x8⟩], .cv ⟨.int .i64, x9⟩, .cv ⟨.bool, x10⟩, .cv ⟨.row K4, x11⟩, .cv ⟨.int .i64, x12⟩, .cv ⟨.int .i64, x13⟩], [⟨false, [⟨0, 0, .mk 0 ⟨.str, x14⟩⟩, ⟨0, 0, .mk 0 ⟨.row K1, x15⟩⟩, ⟨0, 0, .mk 0 ⟨.row K2, x16⟩⟩, ⟨0, 0, .mk 0 ⟨.row K3, x17⟩⟩]⟩]⟩
noncomputable def m (B0 : Y36 → Option Int) : Y19 → Option Int
 | a0_0 => B0 (a0_0, a0_0, (List.length a0_0 : Int), (0 : Int))
noncomputable def sig : Sig := ⟨[.val false [⟨.row K4, 0, 0, false⟩]], [(.one, [(.int .i64, 0)])]⟩
noncomputable def hint : Nat → Hint
 | 0 => ⟨[(0, .keep), (7, .keep), (8, .keep), (9, .keep)], []⟩
 | 2 => ⟨[(0, .keep), (3, .keep), (4, .keep), (7, .keep), (8, .keep), (9, .keep), (17, .keep), (18, .keep), (19, .keep), (24, .keep), (25, .keep), (26, .keep)], [(257, [0, 0, 0, 0])]⟩
 | _ => ⟨[], []⟩
noncomputable def join (_ : Nat) : Option Hint := none
noncomputable def body : Code := (Tryd.f30).body.getD .skip
noncomputable def rv : List ResultVar := (Tryd.f30).results.toList
noncomputable def fn : Fn := ⟨38, sig, rv, body, hint, join⟩
end impl_FirstBad
namespace impl_hasIndex
noncomputable def m (c30 : Y19 → Option Int) (c31 : (Int × Int × Int) → Option Bool) : Y10 → Option Bool
 | (a0_0, a1_0, a2_0) => Option.bind (c30 a0_0) fun r1 => bif r1 == (-1) then Option.bind (c31 (a1_0, (0 : Int), wrap i64 ((List.length a0_0 : Int) - 1))) fun r2 => bif r2 then bif decide (0 ≤ a1_0) && decide (a1_0 < (List.length a0_0 : Int)) then Option.bind (c31 (a2_0, (-1 : Int), wrap i64 ((List.length ((getD a0_0 (toNat a1_0) Z0).2.2.2) : Int) - 1))) fun r3 => some r3 else none else some false else some false
noncomputable def sig : Sig := ⟨[.val false [⟨.row K4, 0, 0, false⟩], .val false [⟨.int .i64, 0, 0, false⟩], .val false [⟨.int .i64, 0, 0, false⟩]], [(.one, [(.bool, 0)])]⟩
noncomputable def hint (_ : Nat) : Hint := ⟨[], []⟩
noncomputable def join (_ : Nat) : Option Hint := none
noncomputable def body : Code := (Tryd.f16).body.getD .skip
noncomputable def rv : List ResultVar := (Tryd.f16).results.toList
noncomputable def fn : Fn := ⟨28, sig, rv, body, hint, join⟩
end impl_hasIndex
namespace impl_HeadOf
noncomputable def m (c16 : Y10 → Option Bool) : Y10 → Option ((List Int))
 | (a0_0, a1_0, a2_0) => Option.bind (c16 (a0_0, a1_0, a2_0)) fun r1 => bif !(r1) then some ([] : List Int) else some ([wrap .u8 (wrap i64 (a1_0 + 1)), wrap .u8 (wrap i64 (a2_0 + 1))] : List Int)
noncomputable def sig : Sig := ⟨[.val false [⟨.row K4, 0, 0, false⟩], .val false [⟨.int .i64, 0, 0, false⟩], .val false [⟨.int .i64, 0, 0, false⟩]], [(.one, [(.row K5, 1)])]⟩
noncomputable def hint (_ : Nat) : Hint := ⟨[], []⟩
noncomputable def join (_ : Nat) : Option Hint := none
noncomputable def body : Code := (Tryd.f7).body.getD .skip
noncomputable def rv : List ResultVar := (Tryd.f7).results.toList
noncomputable def fn : Fn := ⟨19, sig, rv, body, hint, join⟩
end impl_HeadOf
namespace laws_eqByteS
noncomputable def s0 (L0 : Y37 → Option Bool) : Y37 → Option Bool
 | (x0, x1, x2) => bif decide (x2 < (List.length x0 : Int)) then bif decide (0 ≤ x2) && decide (x2 < (List.length x0 : Int)) then bif decide (0 ≤ x2) && decide (x2 < (List.length x1 : Int)) then bif (getD x0 (toNat x2) (0 : Int)) != (getD x1 (toNat x2) (0 : Int)) then some false else L0 (x0, x1, wrap i64 (x2 + 1)) else none else none else some true
noncomputable def ll0 : Y37 → LS
 | (x0, x1, x2) => ⟨[.cv ⟨.row K5, x0⟩, .cv ⟨.row K5, x1⟩, .cv ⟨.int .i64, x2⟩], []⟩
noncomputable def m (B0 : Y37 → Option Bool) : ((List Int) × (List Int)) → Option Bool
 | (a0_0, a1_0) => bif (List.length a0_0 : Int) != (List.length a1_0 : Int) then some false else B0 (a0_0, a1_0, (0 : Int))
noncomputable def sig : Sig := ⟨[.val false [⟨.row K5, 0, 0, false⟩], .val false [⟨.row K5, 0, 0, false⟩]], [(.one, [(.bool, 0)])]⟩
noncomputable def hint : Nat → Hint
 | 0 => ⟨[(0, .keep), (1, .keep), (5, .keep)], []⟩
 | _ => ⟨[], []⟩
noncomputable def join (_ : Nat) : Option Hint := none
noncomputable def body : Code := (Tryd.f8).body.getD .skip
noncomputable def rv : List ResultVar := (Tryd.f8).results.toList
noncomputable def fn : Fn := ⟨26, sig, rv, body, hint, join⟩
end laws_eqByteS
namespace laws_eqCol
noncomputable def m  : Y38 → Option Bool
 | (a0_0, a0_1, a0_2, a1_0, a1_1, a1_2) => bif !(ByteArray.toList a0_0 == ByteArray.toList a1_0) then some false else bif a0_1 != a1_1 then some false else bif !(a0_2 == a1_2) then some false else some true
noncomputable def sig : Sig := ⟨[.val true [⟨.str, 0, 0, false⟩, ⟨.int .i64, 0, 0, false⟩, ⟨.bool, 0, 0, false⟩], .val true [⟨.str, 0, 0, false⟩, ⟨.int .i64, 0, 0, false⟩, ⟨.bool, 0, 0, false⟩]], [(.one, [(.bool, 0)])]⟩
noncomputable def hint (_ : Nat) : Hint := ⟨[], []⟩
noncomputable def join (_ : Nat) : Option Hint := none
noncomputable def body : Code := (Tryd.f42).body.getD .skip
noncomputable def rv : List ResultVar := (Tryd.f42).results.toList
noncomputable def fn : Fn := ⟨20, sig, rv, body, hint, join⟩
end laws_eqCol
namespace laws_eqColS
noncomputable def s0 (c42 : Y38 → Option Bool) (L0 : Y40 → Option Bool) : Y40 → Option Bool
 | (x0, x1, x2) => bif decide (x2 < (List.length x0 : Int)) then bif decide (0 ≤ x2) && decide (x2 < (List.length x0 : Int)) then bif decide (0 ≤ x2) && decide (x2 < (List.length x1 : Int)) then Option.bind (c42 ((getD x0 (toNat x2) Z2).1, (getD x0 (toNat x2) Z2).2.1, (getD x0 (toNat x2) Z2).2.2, (getD x1 (toNat x2) Z2).1, (getD x1 (toNat x2) Z2).2.1, (getD x1 (toNat x2) Z2).2.2)) fun r1 => bif !(r1) then some false else L0 (x0, x1, wrap i64 (x2 + 1)) else none else none else some true
noncomputable def ll0 : Y40 → LS
 | (x0, x1, x2) => ⟨[.cv ⟨.row K1, x0⟩, .cv ⟨.row K1, x1⟩, .cv ⟨.int .i64, x2⟩], []⟩
noncomputable def m (B0 : Y40 → Option Bool) : Y39 → Option Bool
 | (a0_0, a1_0) => bif (List.length a0_0 : Int) != (List.length a1_0 : Int) then some false else B0 (a0_0, a1_0, (0 : Int))
noncomputable def sig : Sig := ⟨[.val false [⟨.row K1, 0, 0, false⟩], .val false [⟨.row K1, 0, 0, false⟩]], [(.one, [(.bool, 0)])]⟩
noncomputable def hint : Nat → Hint
 | 0 => ⟨[(0, .keep), (1, .keep), (5, .keep)], []⟩
 | _ => ⟨[], []⟩
noncomputable def join (_ : Nat) : Option Hint := none
noncomputable def body : Code := (Tryd.f32).body.getD .skip
noncomputable def rv : List ResultVar := (Tryd.f32).results.toList
noncomputable def fn : Fn := ⟨27, sig, rv, body, hint, join⟩
end laws_eqColS
namespace laws_eqBy
noncomputable def m  : (Int × Bool × Int × Bool) → Option Bool
 | (a0_0, a0_1, a1_0, a1_1) => bif a0_0 != a1_0 then some false else bif !(a0_1 == a1_1) then some false else some true
noncomputable def sig : Sig := ⟨[.val true [⟨.int .i64, 0, 0, false⟩, ⟨.bool, 0, 0, false⟩], .val true [⟨.int .i64, 0, 0, false⟩, ⟨.bool, 0, 0, false⟩]], [(.one, [(.bool, 0)])]⟩
noncomputable def hint (_ : Nat) : Hint := ⟨[], []⟩
noncomputable def join (_ : Nat) : Option Hint := none
noncomputable def body : Code := (Tryd.f43).body.getD .skip
noncomputable def rv : List ResultVar := (Tryd.f43).results.toList
noncomputable def fn : Fn := ⟨15, sig, rv, body, hint, join⟩
end laws_eqBy
namespace laws_eqByS
noncomputable def s0 (c43 : (Int × Bool × Int × Bool) → Option Bool) (L0 : Y42 → Option Bool) : Y42 → Option Bool
 | (x0, x1, x2) => bif decide (x2 < (List.length x0 : Int)) then bif decide (0 ≤ x2) && decide (x2 < (List.length x0 : Int)) then bif decide (0 ≤ x2) && decide (x2 < (List.length x1 : Int)) then Option.bind (c43 ((getD x0 (toNat x2) Z3).1, (getD x0 (toNat x2) Z3).2, (getD x1 (toNat x2) Z3).1, (getD x1 (toNat x2) Z3).2)) fun r1 => bif !(r1) then some false else L0 (x0, x1, wrap i64 (x2 + 1)) else none else none else some true
noncomputable def ll0 : Y42 → LS
 | (x0, x1, x2) => ⟨[.cv ⟨.row K2, x0⟩, .cv ⟨.row K2, x1⟩, .cv ⟨.int .i64, x2⟩], []⟩
noncomputable def m (B0 : Y42 → Option Bool) : Y41 → Option Bool
 | (a0_0, a1_0) => bif (List.length a0_0 : Int) != (List.length a1_0 : Int) then some false else B0 (a0_0, a1_0, (0 : Int))
noncomputable def sig : Sig := ⟨[.val false [⟨.row K2, 0, 0, false⟩], .val false [⟨.row K2, 0, 0, false⟩]], [(.one, [(.bool, 0)])]⟩
noncomputable def hint : Nat → Hint
 | 0 => ⟨[(0, .keep), (1, .keep), (5, .keep)], []⟩
 | _ => ⟨[], []⟩
noncomputable def join (_ : Nat) : Option Hint := none
noncomputable def body : Code := (Tryd.f33).body.getD .skip
noncomputable def rv : List ResultVar := (Tryd.f33).results.toList
noncomputable def fn : Fn := ⟨27, sig, rv, body, hint, join⟩
end laws_eqByS
namespace laws_eqIndex
noncomputable def m (c33 : Y41 → Option Bool) : Y43 → Option Bool
 | (a0_0, a0_1, a0_2, a1_0, a1_1, a1_2) => bif !(ByteArray.toList a0_0 == ByteArray.toList a1_0) then some false else bif !(a0_1 == a1_1) then some false else Option.bind (c33 (a0_2, a1_2)) fun r1 => bif !(r1) then some false else some true
noncomputable def sig : Sig := ⟨[.val true [⟨.str, 0, 0, false⟩, ⟨.bool, 0, 0, false⟩, ⟨.row K2, 0, 0, false⟩], .val true [⟨.str, 0, 0, false⟩, ⟨.bool, 0, 0, false⟩, ⟨.row K2, 0, 0, false⟩]], [(.one, [(.bool, 0)])]⟩
noncomputable def hint (_ : Nat) : Hint := ⟨[], []⟩
noncomputable def join (_ : Nat) : Option Hint := none
noncomputable def body : Code := (Tryd.f44).body.getD .skip
noncomputable def rv : List ResultVar := (Tryd.f44).results.toList
noncomputable def fn : Fn := ⟨21, sig, rv, body, hint, join⟩
end laws_eqIndex
namespace laws_eqIndexS
noncomputable def s0 (c44 : Y43 → Option Bool) (L0 : Y45 → Option Bool) : Y45 → Option Bool
 | (x0, x1, x2) => bif decide (x2 < (List.length x0 : Int)) then bif decide (0 ≤ x2) && decide (x2 < (List.length x0 : Int)) then bif decide (0 ≤ x2) && decide (x2 < (List.length x1 : Int)) then Option.bind (c44 ((getD x0 (toNat x2) Z1).1, (getD x0 (toNat x2) Z1).2.1, (getD x0 (toNat x2) Z1).2.2, (getD x1 (toNat x2) Z1).1, (getD x1 (toNat x2) Z1).2.1, (getD x1 (toNat x2) Z1).2.2)) fun r1 => bif !(r1) then some false else L0 (x0, x1, wrap i64 (x2 + 1)) else none else none else some true
noncomputable def ll0 : Y45 → LS
 | (x0, x1, x2) => ⟨[.cv ⟨.row K3, x0⟩, .cv ⟨.row K3, x1⟩, .cv ⟨.int .i64, x2⟩], []⟩
noncomputable def m (B0 : Y45 → Option Bool) : Y44 → Option Bool
 | (a0_0, a1_0) => bif (List.length a0_0 : Int) != (List.length a1_0 : Int) then some false else B0 (a0_0, a1_0, (0 : Int))
noncomputable def sig : Sig := ⟨[.val false [⟨.row K3, 0, 0, false⟩], .val false [⟨.row K3, 0, 0, false⟩]], [(.one, [(.bool, 0)])]⟩
noncomputable def hint : Nat → Hint
 | 0 => ⟨[(0, .keep), (1, .keep), (5, .keep)], []⟩
 | _ => ⟨[], []⟩
noncomputable def join (_ : Nat) : Option Hint := none
noncomputable def body : Code := (Tryd.f34).body.getD .skip
noncomputable def rv : List ResultVar := (Tryd.f34).results.toList
noncomputable def fn : Fn := ⟨27, sig, rv, body, hint, join⟩
end laws_eqIndexS
namespace laws_eqDef
noncomputable def m (c32 : Y39 → Option Bool) (c33 : Y41 → Option Bool) (c34 : Y44 → Option Bool) : Y46 → Option Bool
 | (a0_0, a0_1, a0_2, a0_3, a1_0, a1_1, a1_2, a1_3) => bif !(ByteArray.toList a0_0 == ByteArray.toList a1_0) then some false else Option.bind (c32 (a0_1, a1_1)) fun r1 => bif !(r1) then some false else Option.bind (c33 (a0_2, a1_2)) fun r2 => bif !(r2) then some false else Option.bind (c34 (a0_3, a1_3)) fun r3 => bif !(r3) then some false else some true
noncomputable def sig : Sig := ⟨[.val true [⟨.str, 0, 0, false⟩, ⟨.row K1, 0, 0, false⟩, ⟨.row K2, 0, 0, false⟩, ⟨.row K3, 0, 0, false⟩], .val true [⟨.str, 0, 0, false⟩, ⟨.row K1, 0, 0, false⟩, ⟨.row K2, 0, 0, false⟩, ⟨.row K3, 0, 0, false⟩]], [(.one, [(.bool, 0)])]⟩
noncomputable def hint (_ : Nat) : Hint := ⟨[], []⟩
noncomputable def join (_ : Nat) : Option Hint := none
noncomputable def body : Code := (Tryd.f17).body.getD .skip
noncomputable def rv : List ResultVar := (Tryd.f17).results.toList
noncomputable def fn : Fn := ⟨28, sig, rv, body, hint, join⟩
end laws_eqDef
namespace laws_eqDefS
noncomputable def s0 (c17 : Y46 → Option Bool) (L0 : Y48 → Option Bool) : Y48 → Option Bool
 | (x0, x1, x2) => bif decide (x2 < (List.length x0 : Int)) then bif decide (0 ≤ x2) && decide (x2 < (List.length x0 : Int)) then bif decide (0 ≤ x2) && decide (x2 < (List.length x1 : Int)) then Option.bind (c17 ((getD x0 (toNat x2) Z0).1, (getD x0 (toNat x2) Z0).2.1, (getD x0 (toNat x2) Z0).2.2.1, (getD x0 (toNat x2) Z0).2.2.2, (getD x1 (toNat x2) Z0).1, (getD x1 (toNat x2) Z0).2.1, (getD x1 (toNat x2) Z0).2.2.1, (getD x1 (toNat x2) Z0).2.2.2)) fun r1 => bif !(r1) then some false else L0 (x0, x1, wrap i64 (x2 + 1)) else none else none else some true
noncomputable def ll0 : Y48 → LS
 | (x0, x1, x2) => ⟨[.cv ⟨.row K4, x0⟩, .cv ⟨.row K4, x1⟩, .cv ⟨.int .i64, x2⟩], []⟩
noncomputable def m (B0 : Y48 → Option Bool) : Y47 → Option Bool
 | (a0_0, a1_0) => bif (List.length a0_0 : Int) != (List.length a1_0 : Int) then some false else B0 (a0_0, a1_0, (0 : Int))
noncomputable def sig : Sig := ⟨[.val false [⟨.row K4, 0, 0, false⟩], .val false [⟨.row K4, 0, 0, false⟩]], [(.one, [(.bool, 0)])]⟩
noncomputable def hint : Nat → Hint
 | 0 => ⟨[(0, .keep), (1, .keep), (5, .keep)], []⟩
 | _ => ⟨[], []⟩
noncomputable def join (_ : Nat) : Option Hint := none
noncomputable def body : Code := (Tryd.f9).body.getD .skip
noncomputable def rv : List ResultVar := (Tryd.f9).results.toList
noncomputable def fn : Fn := ⟨27, sig, rv, body, hint, join⟩
end laws_eqDefS
namespace laws_markText
noncomputable def s0 (L0 : (Int × ByteArray) → Option ByteArray) : (Int × ByteArray) → Option ByteArray
 | (x0, x1) => bif decide (x0 > 0) then bif decide (¬ (10 : Int) = 0) then bif decide (¬ ((ByteArray.size (numsStr ([wrap .u8 (wrap i64 ((48 : Int) + (Int.tmod x0 (10 : Int))))] : List Int)) + ByteArray.size x1 : Nat) : Int) > IntKind.max i64) then bif decide (¬ (10 : Int) = 0) then L0 (wrap i64 (Int.tdiv x0 (10 : Int)), ByteArray.append (numsStr ([wrap .u8 (wrap i64 ((48 : Int) + (Int.tmod x0 (10 : Int))))] : List Int)) x1) else none else none else none else bif decide (¬ ((ByteArray.size ({ data := #[109] } : ByteArray) + ByteArray.size x1 : Nat) : Int) > IntKind.max i64) then some (ByteArray.append ({ data := #[109] } : ByteArray) x1) else none
noncomputable def ll0 : (Int × ByteArray) → LS
 | (x0, x1) => ⟨[.cv ⟨.int .i64, x0⟩, .cv ⟨.str, x1⟩], []⟩
noncomputable def m (B0 : (Int × ByteArray) → Option ByteArray) : Int → Option ByteArray
 | a0_0 => bif decide (a0_0 ≤ 0) then some ({ data := #[109, 48] } : ByteArray) else B0 (a0_0, ({ data := #[] } : ByteArray))
noncomputable def sig : Sig := ⟨[.val false [⟨.int .i64, 0, 0, false⟩]], [(.one, [(.str, 0)])]⟩
noncomputable def hint : Nat → Hint
 | 0 => ⟨[(0, .keep), (3, .keep)], []⟩
 | _ => ⟨[], []⟩
noncomputable def join (_ : Nat) : Option Hint := none
noncomputable def body : Code := (Tryd.f18).body.getD .skip
noncomputable def rv : List ResultVar := (Tryd.f18).results.toList
noncomputable def fn : Fn := ⟨20, sig, rv, body, hint, join⟩
end laws_markText
namespace laws_markColS
noncomputable def s0 (c18 : Int → Option ByteArray) (L0 : Y50 → Option Y49) : Y50 → Option Y49
 | (x0, x1, x2) => bif decide (x1 < (List.length x2 : Int)) then Option.bind (c18 x0) fun r1 => bif decide (0 ≤ x1) && decide (x1 < (List.length x2 : Int)) then bif decide (0 ≤ x1) && decide (x1 < (List.length (List.set x2 (toNat x1) (r1, (getD x2 (toNat x1) Z2).2.1, (getD x2 (toNat x1) Z2).2.2)) : Int)) then bif decide (¬ (3 : Int) = 0) then bif decide (0 ≤ x1) && decide (x1 < (List.length (List.set (List.set x2 (toNat x1) (r1, (getD x2 (toNat x1) Z2).2.1, (getD x2 (toNat x1) Z2).2.2)) (toNat x1) ((getD (List.set x2 (toNat x1) (r1, (getD x2 (toNat x1) Z2).2.1, (getD x2 (toNat x1) Z2).2.2)) (toNat x1) Z2).1, wrap i64 (x0 + 1), (getD (List.set x2 (toNat x1) (r1, (getD x2 (toNat x1) Z2).2.1, (getD x2 (toNat x1) Z2).2.2)) (toNat x1) Z2).2.2)) : Int)) then L0 (wrap i64 ((wrap i64 ((wrap i64 (x0 + 1)) + 1)) + 1), wrap i64 (x1 + 1), List.set (List.set (List.set x2 (toNat x1) (r1, (getD x2 (toNat x1) Z2).2.1, (getD x2 (toNat x1) Z2).2.2)) (toNat x1) ((getD (List.set x2 (toNat x1) (r1, (getD x2 (toNat x1) Z2).2.1, (getD x2 (toNat x1) Z2).2.2)) (toNat x1) Z2).1, wrap i64 (x0 + 1), (getD (List.set x2 (toNat x1) (r1, (getD x2 (toNat x1) Z2).2.1, (getD x2 (toNat x1) Z2).2.2)) (toNat x1) Z2).2.2)) (toNat x1) ((getD (List.set (List.set x2 (toNat x1) (r1, (getD x2 (toNat x1) Z2).2.1, (getD x2 (toNat x1) Z2).2.2)) (toNat x1) ((getD (List.set x2 (toNat x1) (r1, (getD x2 (toNat x1) Z2).2.1, (getD x2 (toNat x1) Z2).2.2)) (toNat x1) Z2).1, wrap i64 (x0 + 1), (getD (List.set x2 (toNat x1) (r1, (getD x2 (toNat x1) Z2).2.1, (getD x2 (toNat x1) Z2).2.2)) (toNat x1) Z2).2.2)) (toNat x1) Z2).1, (getD (List.set (List.set x2 (toNat x1) (r1, (getD x2 (toNat x1) Z2).2.1, (getD x2 (toNat x1) Z2).2.2)) (toNat x1) ((getD (List.set x2 (toNat x1) (r1, (getD x2 (toNat x1) Z2).2.1, (getD x2 (toNat x1) Z2).2.2)) (toNat x1) Z2).1, wrap i64 (x0 + 1), (getD (List.set x2 (toNat x1) (r1, (getD x2 (toNat x1) Z2).2.1, (getD x2 (toNat x1) Z2).2.2)) (toNat x1) Z2).2.2)) (toNat x1) Z2).2.1, (Int.tmod (wrap i64 ((wrap i64 (x0 + 1)) + 1)) (3 : Int)) == 0)) else none else none else none else none else some (x0, x2)
noncomputable def ll0 : Y50 → LS
 | (x0, x1, x2) => ⟨[.ref 2 0 [] none 0, .cv ⟨.int .i64, x0⟩, .cv ⟨.int .i64, x1⟩], [⟨true, [⟨0, 0, .mk 1 ⟨.row K1, x2⟩⟩]⟩]⟩
noncomputable def m (B0 : Y50 → Option Y49) : Y3 → Option Y49
 | (a0_0, a1_0) => B0 (a1_0, (0 : Int), a0_0)
noncomputable def sig : Sig := ⟨[.val false [⟨.row K1, 1, 1, true⟩], .val false [⟨.int .i64, 0, 0, false⟩]], [(.one, [(.int .i64, 0)])]⟩
noncomputable def hint : Nat → Hint
 | 0 => ⟨[(0, .keep), (1, .keep), (5, .keep)], [(2, [1])]⟩
 | _ => ⟨[], []⟩
noncomputable def join (_ : Nat) : Option Hint := none
noncomputable def body : Code := (Tryd.f19).body.getD .skip
noncomputable def rv : List ResultVar := (Tryd.f19).results.toList
noncomputable def fn : Fn := ⟨37, sig, rv, body, hint, join⟩
end laws_markColS
namespace laws_markByS
noncomputable def s0 (L0 : Y51 → Option (Int × (List (Int × Bool)))) : Y51 → Option (Int × (List (Int × Bool)))
 | (x0, x1, x2) => bif decide (x1 < (List.length x2 : Int)) then bif decide (0 ≤ x1) && decide (x1 < (List.length x2 : Int)) then bif decide (¬ (3 : Int) = 0) then bif decide (0 ≤ x1) && decide (x1 < (List.length (List.set x2 (toNat x1) (x0, (getD x2 (toNat x1) Z3).2)) : Int)) then L0 (wrap i64 ((wrap i64 (x0 + 1)) + 1), wrap i64 (x1 + 1), List.set (List.set x2 (toNat x1) (x0, (getD x2 (toNat x1) Z3).2)) (toNat x1) ((getD (List.set x2 (toNat x1) (x0, (getD x2 (toNat x1) Z3).2)) (toNat x1) Z3).1, (Int.tmod (wrap i64 (x0 + 1)) (3 : Int)) == 0)) else none else none else none else some (x0, x2)
noncomputable def ll0 : Y51 → LS
 | (x0, x1, x2) => ⟨[.ref 2 0 [] none 0, .cv ⟨.int .i64, x0⟩, .cv ⟨.int .i64, x1⟩], [⟨true, [⟨0, 0, .mk 1 ⟨.row K2, x2⟩⟩]⟩]⟩
noncomputable def m (B0 : Y51 → Option (Int × (List (Int × Bool)))) : ((List (Int × Bool)) × Int) → Option (Int × (List (Int × Bool)))
 | (a0_0, a1_0) => B0 (a1_0, (0 : Int), a0_0)
noncomputable def sig : Sig := ⟨[.val false [⟨.row K2, 1, 1, true⟩], .val false [⟨.int .i64, 0, 0, false⟩]], [(.one, [(.int .i64, 0)])]⟩
noncomputable def hint : Nat → Hint
 | 0 => ⟨[(0, .keep), (1, .keep), (5, .keep)], [(2, [1])]⟩
 | _ => ⟨[], []⟩
noncomputable def join (_ : Nat) : Option Hint := none
noncomputable def body : Code := (Tryd.f20).body.getD .skip
noncomputable def rv : List ResultVar := (Tryd.f20).results.toList
noncomputable def fn : Fn := ⟨29, sig, rv, body, hint, join⟩
end laws_markByS
namespace laws_markIndexS
noncomputable def s0 (c18 : Int → Option ByteArray) (c20 : ((List (Int × Bool)) × Int) → Option (Int × (List (Int × Bool)))) (L0 : Y53 → Option Y52) : Y53 → Option Y52
 | (x0, x1, x2) => bif decide (x1 < (List.length x2 : Int)) then Option.bind (c18 x0) fun r1 => bif decide (0 ≤ x1) && decide (x1 < (List.length x2 : Int)) then bif decide (¬ (3 : Int) = 0) then bif decide (0 ≤ x1) && decide (x1 < (List.length (List.set x2 (toNat x1) (r1, (getD x2 (toNat x1) Z1).2.1, (getD x2 (toNat x1) Z1).2.2)) : Int)) then bif decide (0 ≤ x1) && decide (x1 < (List.length (List.set (List.set x2 (toNat x1) (r1, (getD x2 (toNat x1) Z1).2.1, (getD x2 (toNat x1) Z1).2.2)) (toNat x1) ((getD (List.set x2 (toNat x1) (r1, (getD x2 (toNat x1) Z1).2.1, (getD x2 (toNat x1) Z1).2.2)) (toNat x1) Z1).1, (Int.tmod (wrap i64 (x0 + 1)) (3 : Int)) == 0, (getD (List.set x2 (toNat x1) (r1, (getD x2 (toNat x1) Z1).2.1, (getD x2 (toNat x1) Z1).2.2)) (toNat x1) Z1).2.2)) : Int)) then Option.bind (c20 ((getD (List.set (List.set x2 (toNat x1) (r1, (getD x2 (toNat x1) Z1).2.1, (getD x2 (toNat x1) Z1).2.2)) (toNat x1) ((getD (List.set x2 (toNat x1) (r1, (getD x2 (toNat x1) Z1).2.1, (getD x2 (toNat x1) Z1).2.2)) (toNat x1) Z1).1, (Int.tmod (wrap i64 (x0 + 1)) (3 : Int)) == 0, (getD (List.set x2 (toNat x1) (r1, (getD x2 (toNat x1) Z1).2.1, (getD x2 (toNat x1) Z1).2.2)) (toNat x1) Z1).2.2)) (toNat x1) Z1).2.2, wrap i64 ((wrap i64 (x0 + 1)) + 1))) fun r2 => L0 (r2.1, wrap i64 (x1 + 1), List.set (List.set (List.set x2 (toNat x1) (r1, (getD x2 (toNat x1) Z1).2.1, (getD x2 (toNat x1) Z1).2.2)) (toNat x1) ((getD (List.set x2 (toNat x1) (r1, (getD x2 (toNat x1) Z1).2.1, (getD x2 (toNat x1) Z1).2.2)) (toNat x1) Z1).1, (Int.tmod (wrap i64 (x0 + 1)) (3 : Int)) == 0, (getD (List.set x2 (toNat x1) (r1, (getD x2 (toNat x1) Z1).2.1, (getD x2 (toNat x1) Z1).2.2)) (toNat x1) Z1).2.2)) (toNat x1) ((getD (List.set (List.set x2 (toNat x1) (r1, (getD x2 (toNat x1) Z1).2.1, (getD x2 (toNat x1) Z1).2.2)) (toNat x1) ((getD (List.set x2 (toNat x1) (r1, (getD x2 (toNat x1) Z1).2.1, (getD x2 (toNat x1) Z1).2.2)) (toNat x1) Z1).1, (Int.tmod (wrap i64 (x0 + 1)) (3 : Int)) == 0, (getD (List.set x2 (toNat x1) (r1, (getD x2 (toNat x1) Z1).2.1, (getD x2 (toNat x1) Z1).2.2)) (toNat x1) Z1).2.2)) (toNat x1) Z1).1, (getD (List.set (List.set x2 (toNat x1) (r1, (getD x2 (toNat x1) Z1).2.1, (getD x2 (toNat x1) Z1).2.2)) (toNat x1) ((getD (List.set x2 (toNat x1) (r1, (getD x2 (toNat x1) Z1).2.1, (getD x2 (toNat x1) Z1).2.2)) (toNat x1) Z1).1, (Int.tmod (wrap i64 (x0 + 1)) (3 : Int)) == 0, (getD (List.set x2 (toNat x1) (r1, (getD x2 (toNat x1) Z1).2.1, (getD x2 (toNat x1) Z1).2.2)) (toNat x1) Z1).2.2)) (toNat x1) Z1).2.1, r2.2)) else none else none else none else none else some (x0, x2)
noncomputable def ll0 : Y53 → LS
 | (x0, x1, x2) => ⟨[.ref 2 0 [] none 0, .cv ⟨.int .i64, x0⟩, .cv ⟨.int .i64, x1⟩], [⟨true, [⟨0, 0, .mk 2 ⟨.row K3, x2⟩⟩]⟩]⟩
noncomputable def m (B0 : Y53 → Option Y52) : Y6 → Option Y52
 | (a0_0, a1_0) => B0 (a1_0, (0 : Int), a0_0)
noncomputable def sig : Sig := ⟨[.val false [⟨.row K3, 2, 2, true⟩], .val false [⟨.int .i64, 0, 0, false⟩]], [(.one, [(.int .i64, 0)])]⟩
noncomputable def hint : Nat → Hint
 | 0 => ⟨[(0, .keep), (1, .keep), (5, .keep)], [(2, [2])]⟩
 | _ => ⟨[], []⟩
noncomputable def join (_ : Nat) : Option Hint := none
noncomputable def body : Code := (Tryd.f21).body.getD .skip
noncomputable def rv : List ResultVar := (Tryd.f21).results.toList
noncomputable def fn : Fn := ⟨37, sig, rv, body, hint, join⟩
end laws_markIndexS
namespace laws_markDefS
noncomputable def s0 (c18 : Int → Option ByteArray) (c19 : Y3 → Option Y49) (c20 : ((List (Int × Bool)) × Int) → Option (Int × (List (Int × Bool)))) (c21 : Y6 → Option Y52) (L0 : Y55 → Option Y54) : Y55 → Option Y54
 | (x0, x1, x2) => bif decide (x1 < (List.length x2 : Int)) then Option.bind (c18 x0) fun r1 => bif decide (0 ≤ x1) && decide (x1 < (List.length x2 : Int)) then bif decide (0 ≤ x1) && decide (x1 < (List.length (List.set x2 (toNat x1) (r1, (getD x2 (toNat x1) Z0).2.1, (getD x2 (toNat x1) Z0).2.2.1, (getD x2 (toNat x1) Z0).2.2.2)) : Int)) then Option.bind (c19 ((getD (List.set x2 (toNat x1) (r1, (getD x2 (toNat x1) Z0).2.1, (getD x2 (toNat x1) Z0).2.2.1, (getD x2 (toNat x1) Z0).2.2.2)) (toNat x1) Z0).2.1, wrap i64 (x0 + 1))) fun r2 => bif decide (0 ≤ x1) && decide (x1 < (List.length (List.set (List.set x2 (toNat x1) (r1, (getD x2 (toNat x1) Z0).2.1, (getD x2 (toNat x1) Z0).2.2.1, (getD x2 (toNat x1) Z0).2.2.2)) (toNat x1) ((getD (List.set x2 (toNat x1) (r1, (getD x2 (toNat x1) Z0).2.1, (getD x2 (toNat x1) Z0).2.2.1, (getD x2 (toNat x1) Z0).2.2.2)) (toNat x1) Z0).1, r2.2, (getD (List.set x2 (toNat x1) (r1, (getD x2 (toNat x1) Z0).2.1, (getD x2 (toNat x1) Z0).2.2.1, (getD x2 (toNat x1) Z0).2.2.2)) (toNat x1) Z0).2.2.1, (getD (List.set x2 (toNat x1) (r1, (getD x2 (toNat x1) Z0).2.1, (getD x2 (toNat x1) Z0).2.2.1, (getD x2 (toNat x1) Z0).2.2.2)) (toNat x1) Z0).2.2.2)) : Int)) then Option.bind (c20 ((getD (List.set (List.set x2 (toNat x1) (r1, (getD x2 (toNat x1) Z0).2.1, (getD x2 (toNat x1) Z0).2.2.1, (getD x2 (toNat x1) Z0).2.2.2)) (toNat x1) ((getD (List.set x2 (toNat x1) (r1, (getD x2 (toNat x1) Z0).2.1, (getD x2 (toNat x1) Z0).2.2.1, (getD x2 (toNat x1) Z0).2.2.2)) (toNat x1) Z0).1, r2.2, (getD (List.set x2 (toNat x1) (r1, (getD x2 (toNat x1) Z0).2.1, (getD x2 (toNat x1) Z0).2.2.1, (getD x2 (toNat x1) Z0).2.2.2)) (toNat x1) Z0).2.2.1, (getD (List.set x2 (toNat x1) (r1, (getD x2 (toNat x1) Z0).2.1, (getD x2 (toNat x1) Z0).2.2.1, (getD x2 (toNat x1) Z0).2.2.2)) (toNat x1) Z0).2.2.2)) (toNat x1) Z0).2.2.1, r2.1)) fun r3 => bif decide (0 ≤ x1) && decide (x1 < (List.length (List.set (List.set (List.set x2 (toNat x1) (r1, (getD x2 (toNat x1) Z0).2.1, (getD x2 (toNat x1) Z0).2.2.1, (getD x2 (toNat x1) Z0).2.2.2)) (toNat x1) ((getD (List.set x2 (toNat x1) (r1, (getD x2 (toNat x1) Z0).2.1, (getD x2 (toNat x1) Z0).2.2.1, (getD x2 (toNat x1) Z0).2.2.2)) (toNat x1) Z0).1, r2.2, (getD (List.set x2 (toNat x1) (r1, (getD x2 (toNat x1) Z0).2.1, (getD x2 (toNat x1) Z0).2.2.1, (getD x2 (toNat x1) Z0).2.2.2)) (toNat x1) Z0).2.2.1, (getD (List.set x2 (toNat x1) (r1, (getD x2 (toNat x1) Z0).2.1, (getD x2 (toNat x1) Z0).2.2.1, (getD x2 (toNat x1) Z0).2.2.2)) (toNat x1) Z0).2.2.2)) (toNat x1) ((getD (List.set (List.set x2 (toNat x1) (r1, (getD x2 (toNat x1) Z0).2.1, (getD x2 (toNat x1) Z0).2.2.1, (getD x2 (toNat x1) Z0).2.2.2)) (toNat x1) ((getD (List.set x2 (toNat x1) (r1, (getD x2 (toNat x1) Z0).2.1, (getD x2 (toNat x1) Z0).2.2.1, (getD x2 (toNat x1) Z0).2.2.2)) (toNat x1) Z0).1, r2.2, (getD (List.set x2 (toNat x1) (r1, (getD x2 (toNat x1) Z0).2.1, (getD x2 (toNat x1) Z0).2.2.1, (getD x2 (toNat x1) Z0).2.2.2)) (toNat x1) Z0).2.2.1, (getD (List.set x2 (toNat x1) (r1, (getD x2 (toNat x1) Z0).2.1, (getD x2 (toNat x1) Z0).2.2.1, (getD x2 (toNat x1) Z0).2.2.2)) (toNat x1) Z0).2.2.2)) (toNat x1) Z0).1, (getD (List.set (List.set x2 (toNat x1) (r1, (getD x2 (toNat x1) Z0).2.1, (getD x2 (toNat x1) Z0).2.2.1, (getD x2 (toNat x1) Z0).2.2.2)) (toNat x1) ((getD (List.set x2 (toNat x1) (r1, (getD x2 (toNat x1) Z0).2.1, (getD x2 (toNat x1) Z0).2.2.1, (getD x2 (toNat x1) Z0).2.2.2)) (toNat x1) Z0).1, r2.2, (getD (List.set x2 (toNat x1) (r1, (getD x2 (toNat x1) Z0).2.1, (getD x2 (toNat x1) Z0).2.2.1, (getD x2 (toNat x1) Z0).2.2.2)) (toNat x1) Z0).2.2.1, (getD (List.set x2 (toNat x1) (r1, (getD x2 (toNat x1) Z0).2.1, (getD x2 (toNat x1) Z0).2.2.1, (getD x2 (toNat x1) Z0).2.2.2)) (toNat x1) Z0).2.2.2)) (toNat x1) Z0).2.1, r3.2, (getD (List.set (List.set x2 (toNat x1) (r1, (getD x2 (toNat x1) Z0).2.1, (getD x2 (toNat x1) Z0).2.2.1, (getD x2 (toNat x1) Z0).2.2.2)) (toNat x1) ((getD (List.set x2 (toNat x1) (r1, (getD x2 (toNat x1) Z0).2.1, (getD x2 (toNat x1) Z0).2.2.1, (getD x2 (toNat x1) Z0).2.2.2)) (toNat x1) Z0).1, r2.2, (getD (List.set x2 (toNat x1) (r1, (getD x2 (toNat x1) Z0).2.1, (getD x2 (toNat x1) Z0).2.2.1, (getD x2 (toNat x1) Z0).2.2.2)) (toNat x1) Z0).2.2.1, (getD (List.set x2 (toNat x1) (r1, (getD x2 (toNat x1) Z0).2.1, (getD x2 (toNat x1) Z0).2.2.1, (getD x2 (toNat x1) Z0).2.2.2)) (toNat x1) Z0).2.2.2)) (toNat x1) Z0).2.2.2)) : Int)) then Option.bind (c21 ((getD (List.set (List.set (List.set x2 (toNat x1) (r1, (getD x2 (toNat x1) Z0).2.1, (getD x2 (toNat x1) Z0).2.2.1, (getD x2 (toNat x1) Z0).2.2.2)) (toNat x1) ((getD (List.set x2 (toNat x1) (r1, (getD x2 (toNat x1) Z0).2.1, (getD x2 (toNat x1) Z0).2.2.1, (getD x2 (toNat x1) Z0).2.2.2)) (toNat x1) Z0).1, r2.2, (getD (List.set x2 (toNat x1) (r1, (getD x2 (toNat x1) Z0).2.1, (getD x2 (toNat x1) Z0).2.2.1, (getD x2 (toNat x1) Z0).2.2.2)) (toNat x1) Z0).2.2.1, (getD (List.set x2 (toNat x1) (r1, (getD x2 (toNat x1) Z0).2.1, (getD x2 (toNat x1) Z0).2.2.1, (getD x2 (toNat x1) Z0).2.2.2)) (toNat x1) Z0).2.2.2)) (toNat x1) ((getD (List.set (List.set x2 (toNat x1) (r1, (getD x2 (toNat x1) Z0).2.1, (getD x2 (toNat x1) Z0).2.2.1, (getD x2 (toNat x1) Z0).2.2.2)) (toNat x1) ((getD (List.set x2 (toNat x1) (r1, (getD x2 (toNat x1) Z0).2.1, (getD x2 (toNat x1) Z0).2.2.1, (getD x2 (toNat x1) Z0).2.2.2)) (toNat x1) Z0).1, r2.2, (getD (List.set x2 (toNat x1) (r1, (getD x2 (toNat x1) Z0).2.1, (getD x2 (toNat x1) Z0).2.2.1, (getD x2 (toNat x1) Z0).2.2.2)) (toNat x1) Z0).2.2.1, (getD (List.set x2 (toNat x1) (r1, (getD x2 (toNat x1) Z0).2.1, (getD x2 (toNat x1) Z0).2.2.1, (getD x2 (toNat x1) Z0).2.2.2)) (toNat x1) Z0).2.2.2)) (toNat x1) Z0).1, (getD (List.set (List.set x2 (toNat x1) (r1, (getD x2 (toNat x1) Z0).2.1, (getD x2 (toNat x1) Z0).2.2.1, (getD x2 (toNat x1) Z0).2.2.2)) (toNat x1) ((getD (List.set x2 (toNat x1) (r1, (getD x2 (toNat x1) Z0).2.1, (getD x2 (toNat x1) Z0).2.2.1, (getD x2 (toNat x1) Z0).2.2.2)) (toNat x1) Z0).1, r2.2, (getD (List.set x2 (toNat x1) (r1, (getD x2 (toNat x1) Z0).2.1, (getD x2 (toNat x1) Z0).2.2.1, (getD x2 (toNat x1) Z0).2.2.2)) (toNat x1) Z0).2.2.1, (getD (List.set x2 (toNat x1) (r1, (getD x2 (toNat x1) Z0).2.1, (getD x2 (toNat x1) Z0).2.2.1, (getD x2 (toNat x1) Z0).2.2.2)) (toNat x1) Z0).2.2.2)) (toNat x1) Z0).2.1, r3.2, (getD (List.set (List.set x2 (toNat x1) (r1, (getD x2 (toNat x1) Z0).2.1, (getD x2 (toNat x1) Z0).2.2.1, (getD x2 (toNat x1) Z0).2.2.2)) (toNat x1) ((getD (List.set x2 (toNat x1) (r1, (getD x2 (toNat x1) Z0).2.1, (getD x2 (toNat x1) Z0).2.2.1, (getD x2 (toNat x1) Z0).2.2.2)) (toNat x1) Z0).1, r2.2, (getD (List.set x2 (toNat x1) (r1, (getD x2 (toNat x1) Z0).2.1, (getD x2 (toNat x1) Z0).2.2.1, (getD x2 (toNat x1) Z0).2.2.2)) (toNat x1) Z0).2.2.1, (getD (List.set x2 (toNat x1) (r1, (getD x2 (toNat x1) Z0).2.1, (getD x2 (toNat x1) Z0).2.2.1, (getD x2 (toNat x1) Z0).2.2.2)) (toNat x1) Z0).2.2.2)) (toNat x1) Z0).2.2.2)) (toNat x1) Z0).2.2.2, r3.1)) fun r4 => L0 (r4.1, wrap i64 (x1 + 1), List.set (List.set (List.set (List.set x2 (toNat x1) (r1, (getD x2 (toNat x1) Z0).2.1, (getD x2 (toNat x1) Z0).2.2.1, (getD x2 (toNat x1) Z0).2.2.2)) (toNat x1) ((getD (List.set x2 (toNat x1) (r1, (getD x2 (toNat x1) Z0).2.1, (getD x2 (toNat x1) Z0).2.2.1, (getD x2 (toNat x1) Z0).2.2.2)) (toNat x1) Z0).1, r2.2, (getD (List.set x2 (toNat x1) (r1, (getD x2 (toNat x1) Z0).2.1, (getD x2 (toNat x1) Z0).2.2.1, (getD x2 (toNat x1) Z0).2.2.2)) (toNat x1) Z0).2.2.1, (getD (List.set x2 (toNat x1) (r1, (getD x2 (toNat x1) Z0).2.1, (getD x2 (toNat x1) Z0).2.2.1, (getD x2 (toNat x1) Z0).2.2.2)) (toNat x1) Z0).2.2.2)) (toNat x1) ((getD (List.set (List.set x2 (toNat x1) (r1, (getD x2 (toNat x1) Z0).2.1, (getD x2 (toNat x1) Z0).2.2.1, (getD x2 (toNat x1) Z0).2.2.2)) (toNat x1) ((getD (List.set x2 (toNat x1) (r1, (getD x2 (toNat x1) Z0).2.1, (getD x2 (toNat x1) Z0).2.2.1, (getD x2 (toNat x1) Z0).2.2.2)) (toNat x1) Z0).1, r2.2, (getD (List.set x2 (toNat x1) (r1, (getD x2 (toNat x1) Z0).2.1, (getD x2 (toNat x1) Z0).2.2.1, (getD x2 (toNat x1) Z0).2.2.2)) (toNat x1) Z0).2.2.1, (getD (List.set x2 (toNat x1) (r1, (getD x2 (toNat x1) Z0).2.1, (getD x2 (toNat x1) Z0).2.2.1, (getD x2 (toNat x1) Z0).2.2.2)) (toNat x1) Z0).2.2.2)) (toNat x1) Z0).1, (getD (List.set (List.set x2 (toNat x1) (r1, (getD x2 (toNat x1) Z0).2.1, (getD x2 (toNat x1) Z0).2.2.1, (getD x2 (toNat x1) Z0).2.2.2)) (toNat x1) ((getD (List.set x2 (toNat x1) (r1, (getD x2 (toNat x1) Z0).2.1, (getD x2 (toNat x1) Z0).2.2.1, (getD x2 (toNat x1) Z0).2.2.2)) (toNat x1) Z0).1, r2.2, (getD (List.set x2 (toNat x1) (r1, (getD x2 (toNat x1) Z0).2.1, (getD x2 (toNat x1) Z0).2.2.1, (getD x2 (toNat x1) Z0).2.2.2)) (toNat x1) Z0).2.2.1, (getD (List.set x2 (toNat x1) (r1, (getD x2 (toNat x1) Z0).2.1, (getD x2 (toNat x1) Z0).2.2.1, (getD x2 (toNat x1) Z0).2.2.2)) (toNat x1) Z0).2.2.2)) (toNat x1) Z0).2.1, r3.2, (getD (List.set (List.set x2 (toNat x1) (r1, (getD x2 (toNat x1) Z0).2.1, (getD x2 (toNat x1) Z0).2.2.1, (getD x2 (toNat x1) Z0).2.2.2)) (toNat x1) ((getD (List.set x2 (toNat x1) (r1, (getD x2 (toNat x1) Z0).2.1, (getD x2 (toNat x1) Z0).2.2.1, (getD x2 (toNat x1) Z0).2.2.2)) (toNat x1) Z0).1, r2.2, (getD (List.set x2 (toNat x1) (r1, (getD x2 (toNat x1) Z0).2.1, (getD x2 (toNat x1) Z0).2.2.1, (getD x2 (toNat x1) Z0).2.2.2)) (toNat x1) Z0).2.2.1, (getD (List.set x2 (toNat x1) (r1, (getD x2 (toNat x1) Z0).2.1, (getD x2 (toNat x1) Z0).2.2.1, (getD x2 (toNat x1) Z0).2.2.2)) (toNat x1) Z0).2.2.2)) (toNat x1) Z0).2.2.2)) (toNat x1) ((getD (List.set (List.set (List.set x2 (toNat x1) (r1, (getD x2 (toNat x1) Z0).2.1, (getD x2 (toNat x1) Z0).2.2.1, (getD x2 (toNat x1) Z0).2.2.2)) (toNat x1) ((getD (List.set x2 (toNat x1) (r1, (getD x2 (toNat x1) Z0).2.1, (getD x2 (toNat x1) Z0).2.2.1, (getD x2 (toNat x1) Z0).2.2.2)) (toNat x1) Z0).1, r2.2, (getD (List.set x2 (toNat x1) (r1, (getD x2 (toNat x1) Z0).2.1, (getD x2 (toNat x1) Z0).2.2.1, (getD x2 (toNat x1) Z0).2.2.2)) (toNat x1) Z0).2.2.1, (getD (List.set x2 (toNat x1) (r1, (getD x2 (toNat x1) Z0).2.1, (getD x2 (toNat x1) Z0).2.2.1, (getD x2 (toNat x1) Z0).2.2.2)) (toNat x1) Z0).2.2.2)) (toNat x1) ((getD (List.set (List.set x2 (toNat x1) (r1, (getD x2 (toNat x1) Z0).2.1, (getD x2 (toNat x1) Z0).2.2.1, (getD x2 (toNat x1) Z0).2.2.2)) (toNat x1) ((getD (List.set x2 (toNat x1) (r1, (getD x2 (toNat x1) Z0).2.1, (getD x2 (toNat x1) Z0).2.2.1, (getD x2 (toNat x1) Z0).2.2.2)) (toNat x1) Z0).1, r2.2, (getD (List.set x2 (toNat x1) (r1, (getD x2 (toNat x1) Z0).2.1, (getD x2 (toNat x1) Z0).2.2.1, (getD x2 (toNat x1) Z0).2.2.2)) (toNat x1) Z0).2.2.1, (getD (List.set x2 (toNat x1) (r1, (getD x2 (toNat x1) Z0).2.1, (getD x2 (toNat x1) Z0).2.2.1, (getD x2 (toNat x1) Z0).2.2.2)) (toNat x1) Z0).2.2.2)) (toNat x1) Z0).1, (getD (List.set (List.set x2 (toNat x1) (r1, (getD x2 (toNat x1) Z0).2.1, (getD x2 (toNat x1) Z0).2.2.1, (getD x2 (toNat x1) Z0).2.2.2)) (toNat x1) ((getD (List.set x2 (toNat x1) (r1, (getD x2 (toNat x1) Z0).2.1, (getD x2 (toNat x1) Z0).2.2.1, (getD x2 (toNat x1) Z0).2.2.2)) (toNat x1) Z0).1, r2.2, (getD (List.set x2 (toNat x1) (r1, (getD x2 (toNat x1) Z0).2.1, (getD x2 (toNat x1) Z0).2.2.1, (getD x2 (toNat x1) Z0).2.2.2)) (toNat x1) Z0).2.2.1, (getD (List.set x2 (toNat x1) (r1, (getD x2 (toNat x1) Z0).2.1, (getD x2 (toNat x1) Z0).2.2.1, (getD x2 (toNat x1) Z0).2.2.2)) (toNat x1) Z0).2.2.2)) (toNat x1) Z0).2.1, r3.2, (getD (List.set (List.set x2 (toNat x1) (r1, (getD x2 (toNat x1) Z0).2.1, (getD x2 (toNat x1) Z0).2.2.1, (getD x2 (toNat x1) Z0).2.2.2)) (toNat x1) ((getD (List.set x2 (toNat x1) (r1, (getD x2 (toNat x1) Z0).2.1, (getD x2 (toNat x1) Z0).2.2.1, (getD x2 (toNat x1) Z0).2.2.2)) (toNat x1) Z0).1, r2.2, (getD (List.set x2 (toNat x1) (r1, (getD x2 (toNat x1) Z0).2.1, (getD x2 (toNat x1) Z0).2.2.1, (getD x2 (toNat x1) Z0).2.2.2)) (toNat x1) Z0).2.2.1, (getD (List.set x2 (toNat x1) (r1, (getD x2 (toNat x1) Z0).2.1, (getD x2 (toNat x1) Z0).2.2.1, (getD x2 (toNat x1) Z0).2.2.2)) (toNat x1) Z0).2.2.2)) (toNat x1) Z0).2.2.2)) (toNat x1) Z0).1, (getD (List.set (List.set (List.set x2 (toNat x1) (r1, (getD x2 (toNat x1) Z0).2.1, (getD x2 (toNat x1) Z0).2.2.1, (getD x2 (toNat x1) Z0).2.2.2)) (toNat x1) ((getD (List.set x2 (toNat x1) (r1, (getD x2 (toNat x1) Z0).2.1, (getD x2 (toNat x1) Z0).2.2.1, (getD x2 (toNat x1) Z0).2.2.2)) (toNat x1) Z0).1, r2.2, (getD (List.set x2 (toNat x1) (r1, (getD x2 (toNat x1) Z0).2.1, (getD x2 (toNat x1) Z0).2.2.1, (getD x2 (toNat x1) Z0).2.2.2)) (toNat x1) Z0).2.2.1, (getD (List.set x2 (toNat x1) (r1, (getD x2 (toNat x1) Z0).2.1, (getD x2 (toNat x1) Z0).2.2.1, (getD x2 (toNat x1) Z0).2.2.2)) (toNat x1) Z0).2.2.2)) (toNat x1) ((getD (List.set (List.set x2 (toNat x1) (r1, (getD x2 (toNat x1) Z0).2.1, (getD x2 (toNat x1) Z0).2.2.1, (getD x2 (toNat x1) Z0).2.2.2)) (toNat x1) ((getD (List.set x2 (toNat x1) (r1, (getD x2 (toNat x1) Z0).2.1, (getD x2 (toNat x1) Z0).2.2.1, (getD x2 (toNat x1) Z0).2.2.2)) (toNat x1) Z0).1, r2.2, (getD (List.set x2 (toNat x1) (r1, (getD x2 (toNat x1) Z0).2.1, (getD x2 (toNat x1) Z0).2.2.1, (getD x2 (toNat x1) Z0).2.2.2)) (toNat x1) Z0).2.2.1, (getD (List.set x2 (toNat x1) (r1, (getD x2 (toNat x1) Z0).2.1, (getD x2 (toNat x1) Z0).2.2.1, (getD x2 (toNat x1) Z0).2.2.2)) (toNat x1) Z0).2.2.2)) (toNat x1) Z0).1, (getD (List.set (List.set x2 (toNat x1) (r1, (getD x2 (toNat x1) Z0).2.1, (getD x2 (toNat x1) Z0).2.2.1, (getD x2 (toNat x1) Z0).2.2.2)) (toNat x1) ((getD (List.set x2 (toNat x1) (r1, (getD x2 (toNat x1) Z0).2.1, (getD x2 (toNat x1) Z0).2.2.1, (getD x2 (toNat x1) Z0).2.2.2)) (toNat x1) Z0).1, r2.2, (getD (List.set x2 (toNat x1) (r1, (getD x2 (toNat x1) Z0).2.1, (getD x2 (toNat x1) Z0).2.2.1, (getD x2 (toNat x1) Z0).2.2.2)) (toNat x1) Z0).2.2.1, (getD (List.set x2 (toNat x1) (r1, (getD x2 (toNat x1) Z0).2.1, (getD x2 (toNat x1) Z0).2.2.1, (getD x2 (toNat x1) Z0).2.2.2)) (toNat x1) Z0).2.2.2)) (toNat x1) Z0).2.1, r3.2, (getD (List.set (List.set x2 (toNat x1) (r1, (getD x2 (toNat x1) Z0).2.1, (getD x2 (toNat x1) Z0).2.2.1, (getD x2 (toNat x1) Z0).2.2.2)) (toNat x1) ((getD (List.set x2 (toNat x1) (r1, (getD x2 (toNat x1) Z0).2.1, (getD x2 (toNat x1) Z0).2.2.1, (getD x2 (toNat x1) Z0).2.2.2)) (toNat x1) Z0).1, r2.2, (getD (List.set x2 (toNat x1) (r1, (getD x2 (toNat x1) Z0).2.1, (getD x2 (toNat x1) Z0).2.2.1, (getD x2 (toNat x1) Z0).2.2.2)) (toNat x1) Z0).2.2.1, (getD (List.set x2 (toNat x1) (r1, (getD x2 (toNat x1) Z0).2.1, (getD x2 (toNat x1) Z0).2.2.1, (getD x2 (toNat x1) Z0).2.2.2)) (toNat x1) Z0).2.2.2)) (toNat x1) Z0).2.2.2)) (toNat x1) Z0).2.1, (getD (List.set (List.set (List.set x2 (toNat x1) (r1, (getD x2 (toNat x1) Z0).2.1, (getD x2 (toNat x1) Z0).2.2.1, (getD x2 (toNat x1) Z0).2.2.2)) (toNat x1) ((getD (List.set x2 (toNat x1) (r1, (getD x2 (toNat x1) Z0).2.1, (getD x2 (toNat x1) Z0).2.2.1, (getD x2 (toNat x1) Z0).2.2.2)) (toNat x1) Z0).1, r2.2, (getD (List.set x2 (toNat x1) (r1, (getD x2 (toNat x1) Z0).2.1, (getD x2 (toNat x1) Z0).2.2.1, (getD x2 (toNat x1) Z0).2.2.2)) (toNat x1) Z0).2.2.1, (getD (List.set x2 (toNat x1) (r1, (getD x2 (toNat x1) Z0).2.1, (getD x2 (toNat x1) Z0).2.2.1, (getD x2 (toNat x1) Z0).2.2.2)) (toNat x1) Z0).2.2.2)) (toNat x1) ((getD (List.set (List.set x2 (toNat x1) (r1, (getD x2 (toNat x1) Z0).2.1, (getD x2 (toNat x1) Z0).2.2.1, (getD x2 (toNat x1) Z0).2.2.2)) (toNat x1) ((getD (List.set x2 (toNat x1) (r1, (getD x2 (toNat x1) Z0).2.1, (getD x2 (toNat x1) Z0).2.2.1, (getD x2 (toNat x1) Z0).2.2.2)) (toNat x1) Z0).1, r2.2, (getD (List.set x2 (toNat x1) (r1, (getD x2 (toNat x1) Z0).2.1, (getD x2 (toNat x1) Z0).2.2.1, (getD x2 (toNat x1) Z0).2.2.2)) (toNat x1) Z0).2.2.1, (getD (List.set x2 (toNat x1) (r1, (getD x2 (toNat x1) Z0).2.1, (getD x2 (toNat x1) Z0).2.2.1, (getD x2 (toNat x1) Z0).2.2.2)) (toNat x1) Z0).2.2.2)) (toNat x1) Z0).1, (getD (List.set (List.set x2 (toNat x1) (r1, (getD x2 (toNat x1) Z0).2.1, (getD x2 (toNat x1) Z0).2.2.1, (getD x2 (toNat x1) Z0).2.2.2)) (toNat x1) ((getD (List.set x2 (toNat x1) (r1, (getD x2 (toNat x1) Z0).2.1, (getD x2 (toNat x1) Z0).2.2.1, (getD x2 (toNat x1) Z0).2.2.2)) (toNat x1) Z0).1, r2.2, (getD (List.set x2 (toNat x1) (r1, (getD x2 (toNat x1) Z0).2.1, (getD x2 (toNat x1) Z0).2.2.1, (getD x2 (toNat x1) Z0).2.2.2)) (toNat x1) Z0).2.2.1, (getD (List.set x2 (toNat x1) (r1, (getD x2 (toNat x1) Z0).2.1, (getD x2 (toNat x1) Z0).2.2.1, (getD x2 (toNat x1) Z0).2.2.2)) (toNat x1) Z0).2.2.2)) (toNat x1) Z0).2.1, r3.2, (getD (List.set (List.set x2 (toNat x1) (r1, (getD x2 (toNat x1) Z0).2.1, (getD x2 (toNat x1) Z0).2.2.1, (getD x2 (toNat x1) Z0).2.2.2)) (toNat x1) ((getD (List.set x2 (toNat x1) (r1, (getD x2 (toNat x1) Z0).2.1, (getD x2 (toNat x1) Z0).2.2.1, (getD x2 (toNat x1) Z0).2.2.2)) (toNat x1) Z0).1, r2.2, (getD (List.set x2 (toNat x1) (r1, (getD x2 (toNat x1) Z0).2.1, (getD x2 (toNat x1) Z0).2.2.1, (getD x2 (toNat x1) Z0).2.2.2)) (toNat x1) Z0).2.2.1, (getD (List.set x2 (toNat x1) (r1, (getD x2 (toNat x1) Z0).2.1, (getD x2 (toNat x1) Z0).2.2.1, (getD x2 (toNat x1) Z0).2.2.2)) (toNat x1) Z0).2.2.2)) (toNat x1) Z0).2.2.2)) (toNat x1) Z0).2.2.1, r4.2)) else none else none else none else none else some (x0, x2)
noncomputable def ll0 : Y55 → LS
 | (x0, x1, x2) => ⟨[.ref 2 0 [] none 0, .cv ⟨.int .i64, x0⟩, .cv ⟨.int .i64, x1⟩], [⟨true, [⟨0, 0, .mk 3 ⟨.row K4, x2⟩⟩]⟩]⟩
noncomputable def m (B0 : Y55 → Option Y54) : Y9 → Option Y54
 | (a0_0, a1_0) => B0 (a1_0, (0 : Int), a0_0)
noncomputable def sig : Sig := ⟨[.val false [⟨.row K4, 3, 3, true⟩], .val false [⟨.int .i64, 0, 0, false⟩]], [(.one, [(.int .i64, 0)])]⟩
noncomputable def hint : Nat → Hint
 | 0 => ⟨[(0, .keep), (1, .keep), (5, .keep)], [(2, [3])]⟩
 | _ => ⟨[], []⟩
noncomputable def join (_ : Nat) : Option Hint := none
noncomputable def body : Code := (Tryd.f10).body.getD .skip
noncomputable def rv : List ResultVar := (Tryd.f10).results.toList
noncomputable def fn : Fn := ⟨42, sig, rv, body, hint, join⟩
end laws_markDefS
namespace laws_markByteS
noncomputable def s0 (L0 : (Int × Int × (List Int)) → Option (Int × (List Int))) : (Int × Int × (List Int)) → Option (Int × (List Int))
 | (x0, x1, x2) => bif decide (x1 < (List.length x2 : Int)) then bif decide (0 ≤ x1) && decide (x1 < (List.length x2 : Int)) then L0 (wrap i64 (x0 + 1), wrap i64 (x1 + 1), List.set x2 (toNat x1) (wrap .u8 x0)) else none else some (x0, x2)
noncomputable def ll0 : (Int × Int × (List Int)) → LS
 | (x0, x1, x2) => ⟨[.ref 2 0 [] none 0, .cv ⟨.int .i64, x0⟩, .cv ⟨.int .i64, x1⟩], [⟨true, [⟨0, 0, .mk 1 ⟨.row K5, x2⟩⟩]⟩]⟩
noncomputable def m (B0 : (Int × Int × (List Int)) → Option (Int × (List Int))) : ((List Int) × Int) → Option (Int × (List Int))
 | (a0_0, a1_0) => B0 (a1_0, (0 : Int), a0_0)
noncomputable def sig : Sig := ⟨[.val false [⟨.row K5, 1, 1, true⟩], .val false [⟨.int .i64, 0, 0, false⟩]], [(.one, [(.int .i64, 0)])]⟩
noncomputable def hint : Nat → Hint
 | 0 => ⟨[(0, .keep), (1, .keep), (5, .keep)], [(2, [1])]⟩
 | _ => ⟨[], []⟩
noncomputable def join (_ : Nat) : Option Hint := none
noncomputable def body : Code := (Tryd.f11).body.getD .skip
noncomputable def rv : List ResultVar := (Tryd.f11).results.toList
noncomputable def fn : Fn := ⟨20, sig, rv, body, hint, join⟩
end laws_markByteS
namespace laws_heldByteS
noncomputable def s0 (L0 : ((List Int) × Int × Int) → Option Int) : ((List Int) × Int × Int) → Option Int
 | (x0, x1, x2) => bif decide (x2 < (List.length x0 : Int)) then bif decide (0 ≤ x2) && decide (x2 < (List.length x0 : Int)) then bif (getD x0 (toNat x2) (0 : Int)) != (wrap .u8 x1) then some (-1 : Int) else L0 (x0, wrap i64 (x1 + 1), wrap i64 (x2 + 1)) else none else some x1
noncomputable def ll0 : ((List Int) × Int × Int) → LS
 | (x0, x1, x2) => ⟨[.cv ⟨.row K5, x0⟩, .cv ⟨.int .i64, x1⟩, .cv ⟨.int .i64, x2⟩], []⟩
noncomputable def m (B0 : ((List Int) × Int × Int) → Option Int) : ((List Int) × Int) → Option Int
 | (a0_0, a1_0) => B0 (a0_0, a1_0, (0 : Int))
noncomputable def sig : Sig := ⟨[.val false [⟨.row K5, 0, 0, false⟩], .val false [⟨.int .i64, 0, 0, false⟩]], [(.one, [(.int .i64, 0)])]⟩
noncomputable def hint : Nat → Hint
 | 0 => ⟨[(0, .keep), (1, .keep), (5, .keep)], []⟩
 | _ => ⟨[], []⟩
noncomputable def join (_ : Nat) : Option Hint := none
noncomputable def body : Code := (Tryd.f12).body.getD .skip
noncomputable def rv : List ResultVar := (Tryd.f12).results.toList
noncomputable def fn : Fn := ⟨22, sig, rv, body, hint, join⟩
end laws_heldByteS
namespace laws_FnExactHeadOf
noncomputable def m (c4 : Y9 → Option Int) (c5 : Y10 → Option ((List Int))) (c6 : Y19 → Option Y19) (c7 : Y10 → Option ((List Int))) (c8 : ((List Int) × (List Int)) → Option Bool) (c9 : Y47 → Option Bool) (c10 : Y9 → Option Y54) (c11 : ((List Int) × Int) → Option (Int × (List Int))) (c12 : ((List Int) × Int) → Option Int) : Y10 → Option Bool
 | (a0_0, a1_0, a2_0) => Option.bind (c4 (a0_0, (1048576 : Int))) fun r1 => bif decide (r1 < 0) then some true else Option.bind (c6 a0_0) fun r2 => Option.bind (c5 (r2, a1_0, a2_0)) fun r3 => Option.bind (c6 a0_0) fun r4 => Option.bind (c7 (r4, a1_0, a2_0)) fun r5 => Option.bind (c8 (r5, r3)) fun r6 => bif !(r6) then some false else Option.bind (c6 a0_0) fun r7 => Option.bind (c9 (r4, r7)) fun r8 => bif !(r8) then some false else Option.bind (c10 (r4, (1 : Int))) fun r9 => bif decide (r9.1 < 0) then some false else Option.bind (c8 (r5, r3)) fun r10 => bif !(r10) then some false else Option.bind (c11 (r5, (1 : Int))) fun r11 => Option.bind (c12 (r11.2, (1 : Int))) fun r12 => bif decide (r12 < 0) then some false else bif r12 != r11.1 then some false else Option.bind (c6 a0_0) fun r13 => Option.bind (c7 (r13, a1_0, a2_0)) fun r14 => Option.bind (c8 (r14, r3)) fun r15 => bif !(r15) then some false else Option.bind (c12 (r11.2, (1 : Int))) fun r16 => bif decide (r16 < 0) then some false else bif r16 != r11.1 then some false else some true
noncomputable def sig : Sig := ⟨[.val false [⟨.row K4, 0, 0, false⟩], .val false [⟨.int .i64, 0, 0, false⟩], .val false [⟨.int .i64, 0, 0, false⟩]], [(.one, [(.bool, 0)])]⟩
noncomputable def hint (_ : Nat) : Hint := ⟨[], []⟩
noncomputable def join (_ : Nat) : Option Hint := none
noncomputable def body : Code := (Tryd.f3).body.getD .skip
noncomputable def rv : List ResultVar := (Tryd.f3).results.toList
noncomputable def fn : Fn := ⟨79, sig, rv, body, hint, join⟩
end laws_FnExactHeadOf
noncomputable def fns : Nat → Fn
 | 35 => laws_szCol.fn
 | 22 => laws_szColS.fn
 | 23 => laws_szByS.fn
 | 36 => laws_szIndex.fn
 | 24 => laws_szIndexS.fn
 | 13 => laws_szDef.fn
 | 4 => laws_szDefS.fn
 | 26 => spec_l1In.fn
 | 60 => spec_l8Small.fn
 | 61 => spec_l2Digit.fn
 | 56 => spec_l8Name.fn
 | 57 => spec_l9Has.fn
 | 52 => spec_l9Word.fn
 | 45 => spec_l9Names.fn
 | 46 => spec_l9Types.fn
 | 53 => spec_l9Col.fn
 | 47 => spec_l9Once.fn
 | 54 => spec_l9Parts.fn
 | 48 => spec_l9AllParts.fn
 | 37 => spec_CheckDef.fn
 | 25 => spec_FirstBad.fn
 | 14 => spec_l11There.fn
 | 5 => spec_HeadOf.fn
 | 38 => laws_toCol.fn
 | 27 => laws_toColS.fn
 | 39 => laws_toBy.fn
 | 28 => laws_toByS.fn
 | 40 => laws_toIndex.fn
 | 29 => laws_toIndexS.fn
 | 15 => laws_toDef.fn
 | 6 => laws_toDefS.fn
 | 31 => impl_in.fn
 | 63 => impl_isLetter.fn
 | 64 => impl_isDigit.fn
 | 59 => impl_nameOk.fn
 | 55 => impl_isFree.fn
 | 49 => impl_namesOk.fn
 | 50 => impl_twice.fn
 | 51 => impl_partsOk.fn
 | 41 => impl_CheckDef.fn
 | 30 => impl_FirstBad.fn
 | 16 => impl_hasIndex.fn
 | 7 => impl_HeadOf.fn
 | 8 => laws_eqByteS.fn
 | 42 => laws_eqCol.fn
 | 32 => laws_eqColS.fn
 | 43 => laws_eqBy.fn
 | 33 => laws_eqByS.fn
 | 44 => laws_eqIndex.fn
 | 34 => laws_eqIndexS.fn
 | 17 => laws_eqDef.fn
 | 9 => laws_eqDefS.fn
 | 18 => laws_markText.fn
 | 19 => laws_markColS.fn
 | 20 => laws_markByS.fn
 | 21 => laws_markIndexS.fn
 | 10 => laws_markDefS.fn
 | 11 => laws_markByteS.fn
 | 12 => laws_heldByteS.fn
 | 3 => laws_FnExactHeadOf.fn
 | 58 => ⟨0, strings_Split.sig, [], .refuse "", fun _ => ⟨[], []⟩, fun _ => none⟩
 | _ => ⟨0, ⟨[], []⟩, [], .refuse "", fun _ => ⟨[], []⟩, fun _ => none⟩
noncomputable def sigs (f : Nat) : Sig := (fns f).sig
end
end Go.PV.T
